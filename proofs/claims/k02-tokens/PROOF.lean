import PyProof.Rows.All
import Wide.All
import OpenK.AllK
import Wide.FinOn
import KE.KStateDown
import KE.KExcSuper
import HandS.ForMost
import HandS.Exc
import HandS.TryOnly
import HandS.ExcOwn
import HandS.ExcInit
import HandS.ExcField
import HandS.ExcIs
import HandS.Codes
import HandS.Lambda
import HandS.EndBits
import HandS.EndTab
import HandS.Defaults
import HandS.IsInst
import HandS.WordsExc
import HandS.Style
import HandS.StrMore
import KE.KExcIs
import HandS.ExcValue
import HandS.Evl
import HandS.Steps
import HandS.Walk
import HandS.Words
import HandS.HeadHook1
import HandS.AnyAll
import HandS.Dict
import HandS.More
import HandS.NestedK
import HandS.Head0
import HandS.Head1
import HandS.Head2
import HandS.HeadHook2
import HandS.HeadHook3
import HandS.HeadHook4
import PySem.Challenge.RW_runsbilled_k02_whole_tokens_and_fresh_na
set_option Elab.async false
set_option linter.all false
set_option maxRecDepth 100000
set_option maxHeartbeats 4000000
namespace Q
open PySem PySem.Spec PyProof.Rows L2

/-! ### a def that is called by its name, where no repr runs -/
structure Wd where
  P : Program
  w : World
  K : PySem.W.Frag
  mg : Str → Option Value
  base : Heap
abbrev Wd.of (X : Cx) : Wd := ⟨X.prog, X.w, X.K, X.mg, X.base⟩
structure Ca (D : Wd) (g : Bool) (k : Nat) (x : Str) (n : Nat) (sp : Sp) : Prop where
  ex : ∃ (f : Addr) (fd : FuncData) (ps : List Str), D.mg x = some (.ref f) ∧ PySem.W.keepIn D.K (.ref f) = true ∧ Binds D.K fd ps [] ∧ ps.length = n ∧
    (∀ vs H Q E, sp vs H Q E → vs.length = n) ∧
    ∀ (A : Around) (outer : List Env) (s : Shared) (H : Hp) (args : Args) (us : List Value) (vs : List V) (Q : VK) (E : XK), (g = true → A.guards = some []) → Room k A →
      Env0 D.P D.w D.K D.mg D.base A outer s H → BindsTo s fd args (ps.zip us) → Vals vs us → sp vs H Q E →
      codeAny (model D.P D.w) A (.call (.ref f) args) (CR (L2.CX D.P D.w) outer D.P D.w H s Q E) s
theorem Ca.at_ {D : Wd} {g : Bool} {k n : Nat} {x : Str} {sp : Sp} (c : Ca D g k x n sp) : ∃ f, D.mg x = some (.ref f) ∧ PySem.W.keepIn D.K (.ref f) = true := by
  obtain ⟨f, _, _, a, b, _⟩ := c.ex
  exact ⟨f, a, b⟩
theorem Ca.up {D : Wd} {g : Bool} {j k : Nat} {x : Str} {n : Nat} {sp : Sp} (c : Ca D g j x n sp) (h : j ≤ k) : Ca D g k x n sp := by
  obtain ⟨f, fd, ps, a, b, c, d, e, r⟩ := c.ex
  exact ⟨f, fd, ps, a, b, c, d, e, fun A outer s H args us vs Q E hg hr => r A outer s H args us vs Q E hg (hr.mono h)⟩
section
variable {X : Cx} {g : Bool} {j k n : Nat} {x : Str} {sp : Sp} {E : XK} {p pos : Pos} {e : Expr} {es : List Expr} {t : TA}
theorem run_ca (c : Ca (.of X) g j x n sp) (hG : g = true → X.A.guards = some []) (hr : Room k X.A) (hk : j ≤ k) (hx : Passes (L2.CX X.prog X.w) X E) {pins : List (Addr × Obj)} {σ : L2.St} {H : Hp} {s : Shared} {Q : VK}
    {vs : List V} {f : Addr} {us : List Value} (hm : X.mg x = some (.ref f)) (I : Inv X pins σ H s) (r : Vals vs us) (h : sp vs H Q E) :
    wpAny (model X.prog X.w) X.A (call (.ref f) us) (EP X pins σ Q) X.xe s := by
  obtain ⟨f', fd, ps, gm, kp, hb, hn, hl, run⟩ := c.ex
  have ef : f' = f := by
    have z := gm.symm.trans hm
    cases z
    rfl
  subst ef
  have hlen : us.length = ps.length := by
    rw [← r.length, hl _ _ _ _ h, hn]
  have hb' := hb s us I.kIn (by simpa using hlen)
  rw [List.append_nil] at hb'
  refine wpAny_call (codeAny_mono (run X.A X.stack s H ⟨us, []⟩ us vs Q E hG (hr.mono hk) I.env0 hb' r h) fun r' s' hq => ?_)
  cases r' with
  | error u => exact hx pins σ H s u s' I hq
  | ok fl =>
    cases fl with
    | ret u => exact I.after hq
    | next => exact False.elim hq
    | brk => exact False.elim hq
    | cont => exact False.elim hq
/-- the reading of a call -/
def tCa (sp : Sp) (E : XK) (t : TA) : TE := fun σ H Q => t σ H fun vs H1 => sp vs H1 Q E
/-- x(e, ..) -/
theorem pe_ca (c : Ca (.of X) g j x n sp) (hG : g = true → X.A.guards = some []) (hr : Room k X.A) (hk : j ≤ k) (hx : Passes (L2.CX X.prog X.w) X E) (hg : Gl X x) (ha : PA X (e :: es) t)
    (hdb : (x == ("__debug__" : Str)) = false := by decide) (he : starEach (e :: es) X.env = (false, eval e X.env) :: starEach es X.env := by rfl) (hpl : (backTo pos (starEach es X.env)).any (·.1) = false := by rfl) :
    PE X (.Call (.Name x p) (e :: es) [] pos) (tCa sp E t) := by
  refine ⟨fun pins s σ H Q I h => ?_⟩
  obtain ⟨f, hm, kp⟩ := c.at_
  refine wpAny_Call_Name_kw (ld_glob I hg hm ?_ hdb)
  exact PySem.W.callWith_K (h₀ := X.base) I.ok.mod.kin kp (thn (ha.run pos pins s σ H _ I h) fun us s1 ⟨vs, H1, I1, r, q⟩ => ⟨I1.kIn, run_ca c hG hr hk hx hm I1 r q⟩) he hpl
/-- x() -/
theorem pe_ca0 (c : Ca (.of X) g j x n sp) (hG : g = true → X.A.guards = some []) (hr : Room k X.A) (hk : j ≤ k) (hx : Passes (L2.CX X.prog X.w) X E) (hg : Gl X x) (hdb : (x == ("__debug__" : Str)) = false := by decide) :
    PE X (.Call (.Name x p) [] [] pos) (tCa sp E tNil) := by
  refine ⟨fun pins s σ H Q I h => ?_⟩
  obtain ⟨f, hm, kp⟩ := c.at_
  refine wpAny_Call_Name_kw (ld_glob I hg hm ?_ hdb)
  exact PySem.W.callWith_K0 I.kIn kp (run_ca (us := []) c hG hr hk hx hm I .nil h)
end
/-- the context of a def's body -/
abbrev bodyCx (D : Wd) (N : List Str) (x : Str) (sc : Scope) (f : Addr) (cdv : Value) (A : Around) (outer : List Env) (s : Shared) (H : Hp) (E : XK) : Cx := cxOf (L2.CX D.P D.w) D.P D.w D.K D.mg D.base N x sc f cdv A outer s H E
/-- THE RULE for a def -/
theorem ca_mk (g : Bool) {D : Wd} {x : Str} {st : Stmt} {f : Addr} {fd : FuncData} {N ps : List Str} {k : Nat} {sp : Sp} (F : FunD D.K x x (defArgs st) (defBody st) (defScope st) [] [] f fd) (gm : D.mg x = some (.ref f)) (S : FnScope N ps (defScope st))
    (hb : Binds D.K fd ps []) (len : ∀ vs H Q E, sp vs H Q E → vs.length = ps.length)
    (hbody : ∀ (cdv : Value) (A : Around) (outer : List Env) (s : Shared) (H : Hp) (vs : List V) (Q : VK) (E : XK), (g = true → A.guards = some []) → Room k (bodyCx D N x (defScope st) f cdv A outer s H E).A → sp vs H Q E →
      ∃ t, PSs (bodyCx D N x (defScope st) f cdv A outer s H E) (defBody st) t ∧ t { nx := fun _ H' => Q .non H', rt := Q } (L2.start N vs) H) : Ca D g (k + 1) x ps.length sp := by
  obtain ⟨oc, od, dV, kV, doc, pm, an, cdv, ct, osl, rfl, lk, hcd, _, _⟩ := F.ex
  exact ⟨f, _, ps, gm, F.kp, hb, rfl, len, fun A outer s H args us vs Q E hg hr e0 hbt r hsp =>
    LamX.run_ofS lk hcd S hr e0 hbt r (len _ _ _ _ hsp) fun hr' => hbody cdv A outer s H vs Q E hg hr' hsp⟩

/-! ### repr of data -/
section
variable {X : Cx}
structure Shows (K : PySem.W.Frag) (H : Hp) (x : V) (d : PyData) : Prop where
  dp : Dp K H x d
  sh : SeqAt.shaped d = true
  ok : d.showable = true
  sz : d.shown.length ≤ sizeLine
theorem shaped_lay {d : PyData} (h : SeqAt.shaped d = true) : d.canLay0 = true ∧ d.depth ≤ 64 := by
  have h2 : (d.canLay0 && decide (d.depth ≤ 64)) = true := h
  obtain ⟨a, b⟩ := Bool.and_eq_true_iff.mp h2
  exact ⟨a, of_decide_eq_true b⟩
def rRepr (K : PySem.W.Frag) : List V → Hp → VK → Prop := fun xs H Q => ∃ x d, xs = [x] ∧ Shows K H x d ∧ Q (.str d.shown) H
theorem call_repr (hG : X.A.guards = some []) (hu : X.A.units + 66 < cLine) : CallR X (.builtin "repr") (rRepr X.K) := by
  intro pins s σ H xs us Q I r h
  obtain ⟨x, d, rfl, S, q⟩ := h
  obtain ⟨u, rfl, rx⟩ := vals1 r
  obtain ⟨as, rd⟩ := Dp.reads I d x u S.dp rx
  have ok := S.ok
  have sz := S.sz
  have hd := PyData.hasDict_of_canLay d (shaped_lay S.sh).1
  have dep := (shaped_lay S.sh).2
  have fin : ∀ tk t, EP X pins σ Q (.str d.shown t) { s with toks := tk } := fun tk t => ⟨.str d.shown, H, I.tok _, ⟨_, rfl⟩, q⟩
  cases d with
  | none =>
    cases rd
    exact P.repr_of_none (fin _ _)
  | bool b =>
    cases rd
    exact P.repr_of_bool (by have z := fin (s.toks + 1) s.toks; cases b <;> exact z)
  | int i =>
    cases rd
    have z : i.natAbs.log2 < 1920 := by simpa [PyData.showable] using ok
    exact P.repr_of_int z (fin _ _)
  | str z =>
    cases rd
    exact P.repr_of_str (fin _ _) (by simpa [PyData.shown] using sz)
  | list xs =>
    obtain ⟨a, rfl⟩ : ∃ a, u = .ref a := by cases rd; exact ⟨_, rfl⟩
    exact repr_of_reads' rd ok (fun z => by rw [hd] at z; cases z) hG (by omega) (fun _ _ z => z) (fun h' u tk k => ⟨.str _, H, I.kept (t' := tk) k, ⟨_, rfl⟩, q⟩) sz
  | tuple xs =>
    obtain ⟨a, rfl⟩ : ∃ a, u = .ref a := by cases rd; exact ⟨_, rfl⟩
    exact repr_of_reads' rd ok (fun z => by rw [hd] at z; cases z) hG (by omega) (fun _ _ z => z) (fun h' u tk k => ⟨.str _, H, I.kept (t' := tk) k, ⟨_, rfl⟩, q⟩) sz
  | dict kvs =>
    have z := (shaped_lay S.sh).1
    simp [PyData.canLay0] at z
/-! ### a text so many times -/
def rMulS : R2 := fun x y H Q => ∃ z n, x = .str z ∧ y = .int n ∧ MulOk z n ∧ Q (.str (Txt.mul z n)) H
theorem op_mul_str : OpR X (binaryOp .Mult) rMulS := by
  intro pins s σ H x y v u Q I rx ry h
  obtain ⟨z, n, rfl, rfl, ok, q⟩ := h
  obtain ⟨t, rfl⟩ := rx
  obtain ⟨t', rfl⟩ := ry
  exact SB.mul ok fun t' k => ⟨.str _, H, I.tok _, ⟨_, rfl⟩, q⟩
end
end Q
set_option maxHeartbeats 4000000
namespace Q
open PySem PySem.Spec PyProof.Rows L2
/-! ### __init__ of an exception: super().__init__(text), then self.f = f -/
def spIni (C : Addr) (f : Str) : Sp := fun vs H Q _ => ∃ (a : Addr) (v : V), vs = [.ref a, v] ∧ H a = some (exo a C none) ∧ ∀ dx, H dx = none → dx ≠ a → Q .non (upd (upd H dx (exd dx [(f, v)])) a (exo a C (some dx)))
/-- what stands in the written part -/
structure IniC (P : Program) (K : PySem.W.Frag) (mg : Str → Option Value) (C fI : Addr) (f : Str) (fd : FuncData) : Prop where
  ex : ∃ (q msg : Str) (params : Arguments) (scope : Scope) (oc kV doc pm ct ccl cl : Value) (od an cdd cld : Option Addr) (osl ccs csl : Array (Option Value)) (vs : Array Value) (file : Str) (tf : Tok) (cda cc : Addr) (j : Nat) (ar : Arg) (p0 p1 p2 p3 p4 p5 p6 p7 p8 p9 : Pos),
    fd = PySem.W.ksFn "__init__" q params
      [.Expr (.Call (.Attribute (.Call (.Name "super" p0) [] [] p1) "__init__" p2) [.Constant (.str msg) j p3] [] p4) p5, .Assign [.Attribute (.Name "self" p6) f p7] (.Name f p8) p9] scope .none kV doc pm an (.ref cda) ct cc ∧
    K.lookup fI = some ⟨oc, od, .func fd, osl⟩ ∧ PySem.W.codeIn K (.ref cda) q = true ∧
    (params.posonlyargs ++ params.args).head? = some ar ∧ ar.arg = "self" ∧ K.lookup cda = some ⟨ccl, cdd, .fields vs, ccs⟩ ∧ vs[2]? = some (.str file tf) ∧ ((P.main.file : Str) == file) = true ∧
    K.lookup cc = some ⟨cl, cld, .cell (some (.ref C)), csl⟩ ∧ scope.kind = .function ∧ scope.isCoroutine = false ∧ scope.isGenerator = false ∧ (∀ x ∈ scope.names, x.2 ≠ .cell) ∧
    scope.names.lookup ("super" : Str) = some .globalImplicit ∧ scope.names.lookup ("__class__" : Str) = some .free ∧ scope.names.lookup ("self" : Str) = some .local ∧ scope.names.lookup f = some .local ∧
    ∃ pl : Env → Sem Bool, ∀ en : Env, eval (.Call (.Attribute (.Call (.Name "super" p0) [] [] p1) "__init__" p2) [.Constant (.str msg) j p3] [] p4) en = (do
      let ov ← attributeBase (.Call (.Name "super" p0) [] [] p1) "__init__" en (eval (.Call (.Name "super" p0) [] [] p1) en)
      standAt p2.atName
      let (f, first) ← holding [ov] (getMethod ov "__init__" (pl en))
      callWith p4 f first (backTo p4 (starEach [.Constant (.str msg) j p3] en)) [])
  nf : f ≠ ("self" : Str)
  dbg : (f == ("__debug__" : Str)) = false
  mgs : mg "super" = none
  top : (P.main.scope.names.lookup ("super" : Str)).isSome = false
  oex : OexC K C
  sup : PySem.W.ks_superIn K C C "__init__" = some (some (.builtin "ValueError.__init__"))
  ve : PySem.W.subIn K (.ref C) (.type "ValueError") = some true
  me : PySem.W.mroIn K C (.ref C) = some true
  any_ : PySem.W.nsIn K cStatics "thirdparty.any" = some none
  no : PySem.W.findIn K (.ref C) f = some none
theorem call_mw {P : Program} {w : World} {A : Around} {E : Value → Shared → Prop} {h : Heap} {g : Array GenState} {d : Drawn} {t : Nat} {os : OsState} {nm q : Str} {C N : Addr} {bs bm : List Value} {hdct : Bool} {sn : List Str} {sub : List Value}
    {ab : Bool} {col : Option Bool} {dd : Option Addr} {k0 k1 k2 k3 k5 : Option Value} {m a t0 : Addr} {rest : List Value} {Q : Value → Shared → Prop}
    (hC : h.get? C = some (excClassObj nm q C N bs bm hdct sn sub ab col dd k0 k1 k2 k3 k5 "ValueError.__new__"))
    (ha : h.get? a = some { cls := .ref C, data := .fields #[.ref t0, .none, .none, .none, .bool false, .none] }) (hm : h.get? m = some (PySem.W.kxs_mw "ValueError.__init__" a)) (hl : rest.length ≤ sizeLine)
    (hq : ∀ h' t1, (∀ b o, b ≠ a → h.get? b = some o → h'.get? b = some o) → h'.get? a = some { cls := .ref C, data := .fields #[.ref t1, .none, .none, .none, .bool false, .none] } → Q .none ⟨h', g, d, t, os⟩) :
    wpAny (model P w) A (call (.ref m) rest) Q E ⟨h, g, d, t, os⟩ := by
  have FB := F.excBase_ValueError
  refine wpAny_call (codeAny_of_tree ?_)
  show wpAny _ A.in1 (callAny (.ref m) ⟨rest, []⟩) _ _ _
  simp only [callAny]
  refine wpAny_bind (wpAny_load hm ?_)
  refine PySem.W.KFB.if_so (by rfl) ?_
  refine wpAny_bind (PySem.W.check_bound_init FB.toExcCallFacts hC ha rfl ?_)
  refine wpAny_bind (wpAny_pure (wpAny_pure ?_))
  refine ⟨plainId_quiet FB.init.plain _, codeAny_builtin FB.initEntry ?_⟩
  exact PySem.W.exc_init_tree (cls := .ref C) (t0 := t0) (dv := none) (c2 := .none) (c3 := .none) (b4 := .bool false) ha hl fun h' k' e1 _ => hq h' _ k' e1
theorem ini_ok {P : Program} {w : World} {K : PySem.W.Frag} {mg : Str → Option Value} {base : Heap} {CX : CXT} {k : Nat} {C fI : Addr} {f : Str} {fd : FuncData} (T : IniC P K mg C fI f fd) : FnOk P w K mg base CX k fI fd ["self", f] (spIni C f) := by
  refine ⟨fun vs H Q E h => by obtain ⟨a, v, rfl, _⟩ := h; rfl, fun A outer s H args us vs Q E hr e0 hbt r hsp => ?_⟩
  obtain ⟨a, v, rfl, ha, k⟩ := hsp
  obtain ⟨ua, u, rfl, rfl, rv⟩ := vals2 r
  obtain ⟨q, msg, params, scope, oc, kV, doc, pm, ct, ccl, cl, od, an, cdd, cld, osl, ccs, csl, cvs, file, tf, cda, cc, j, ar, p0, p1, p2, p3, p4, p5, p6, p7, p8, p9, rfl, lk, hcd, hpar, har, hcode, hcvs, hfile, hcell, hk, hco, hgen, hnc, ls, lc, lse, lf, pl, hline⟩ := T.ex
  have kb : ∀ b o, base.get? b = some o → s.heap.get? b = some o := fun b o e => (e0.bs b o e).1
  have KX : K.In s.heap := e0.mod.kin.keeps kb
  have lim : s.heap.NoLimit := e0.mod.nolimit.keeps kb
  refine ks_codeAny_call_defAt hr.depth (KX _ _ lk) rfl lim (PySem.W.codeRec_of KX hcd) rfl hbt hnc (fun y hy => ?_) (fun h₁ hns hk₁ => ?_) hco hgen hk
  · have hy2 : y = (("self" : Str), Value.ref a) ∨ y = (f, u) := by simpa using hy
    rcases hy2 with rfl | rfl
    · exact lse
    · exact lf
  · -- the body
    have kb1 : ∀ b o, base.get? b = some o → h₁.get? b = some o := fun b o e => hk₁ b o (kb b o e)
    have KX1 : K.In h₁ := e0.mod.kin.keeps kb1
    have b1 : (("self" : Str) == f) = false := beq_eq_false_iff_ne.mpr (Ne.symm T.nf)
    have m1 : ((["self", f] : List Str).zip [Value.ref a, u]).reverse.lookup ("self" : Str) = some (.ref a) := by
      show List.lookup ("self" : Str) [(f, u), (("self" : Str), Value.ref a)] = some (.ref a)
      rw [List.lookup_cons, b1]
      rfl
    have m2 : ((["self", f] : List Str).zip [Value.ref a, u]).reverse.lookup f = some u := by
      show List.lookup f [(f, u), (("self" : Str), Value.ref a)] = some u
      rw [List.lookup_cons, beq_self_eq_true]
    obtain ⟨mb, hmb, hmb2⟩ := e0.mod.blt
    obtain ⟨t1, hoa⟩ := exo_at e0.hok ha
    have hoa1 := hk₁ _ _ hoa
    obtain ⟨nm, qn, N, bs, bm, sn, sub, ab, col, dd, k0, k1, k2, k3, k5, hC, hbm⟩ := T.oex.cls
    have hcl : PySem.W.clsIn K C = some { name := nm, bases := bs, mro := .ref C :: bm, ns := N, qualname := qn, hasDict := true, slotNames := sn, subclasses := sub, abstract := ab, collection := col, hasDel := false } := by unfold PySem.W.clsIn; rw [hC] <;> rfl
    have hCo := KX1 _ _ hC
    have xC : a ≠ C := fun z => by
      rw [z, hCo] at hoa1
      cases hoa1
    have sup : PySem.W.alongIn K "__init__" (((Value.ref C :: bm).dropWhile (· != .ref C)).drop 1) = some (some (.builtin "ValueError.__init__")) := by
      have z := T.sup
      unfold PySem.W.ks_superIn at z
      rw [hcl] at z
      exact z
    refine ks_wpAt_execs_cons (ks_wpAt_Expr_any (ks_wpAt_MethodCall (ks_wpAt_super_base ls lc rfl rfl (KX1 _ _ lk) rfl hpar rfl (KX1 _ _ hcode) rfl hcvs hfile T.top ?_) (hline _)) (by unfold interactive; rw [show (callEnv (PySem.W.ksFn "__init__" q params _ scope .none kV doc pm an (.ref cda) ct cc) s.heap.objs.size fI).scope.kind = .function from hk]; rfl) rfl)
    refine PySem.W.ks_loadName_global hk ls (Calls.loadGlobal_builtin (e0.mod.glob.keeps kb1) T.mgs (hmb.keeps kb1) ((hmb2 _ (by decide +kernel)).trans (by decide +kernel)) ⟨rfl, ?_⟩)
    refine wpAny_loadName_free (c := cc) hk lc rfl ⟨_, KX1 _ _ hcell, rfl⟩ ?_
    refine wpAny_loadName_local hk (by rw [har]; exact lse) hns (v := .ref a) (by rw [har]; exact m1) ?_
    refine ks_wpAny_isType_cls hCo rfl ⟨rfl, ?_⟩
    refine ks_wpAny_call_super hCo rfl hoa1 rfl (fun c z => nomatch z) (PySem.W.looks_mroIn KX1 T.me) (fun h₂ e₂ k₂ => ?_)
    have KX2 : K.In h₂ := KX1.keeps k₂
    have hoa2 := k₂ _ _ hoa1
    have I2 : PySem.W.InstAt h₂ a { cls := .ref C, data := .fields #[.ref t1, .none, .none, .none, .bool false, .none] } C none := ⟨hoa2, rfl, rfl, trivial⟩
    refine PySem.W.kxs_getMethod PySem.W.kxs_ValueError e₂ (PySem.W.looks_opaque KX2 T.any_) (l₀ := .ref C :: bm) ((PySem.W.looks_clsIn KX2 hcl).andThen .now) rfl KX2 sup (I2.type.andThen (PySem.W.looks_subIn KX2 T.ve)) xC rfl ?_
    have e₃ : (h₂.push (PySem.W.kxs_mw "ValueError.__init__" a)).get? h₂.objs.size = some (PySem.W.kxs_mw "ValueError.__init__" a) := Heap.get?_push_at rfl rfl
    have k₃ : ∀ b o, h₂.get? b = some o → (h₂.push (PySem.W.kxs_mw "ValueError.__init__" a)).get? b = some o := fun b o e => Heap.get?_push_of_some _ e
    refine PySem.W.kxs_callWith (i := "ValueError.__init__") (x := a) rfl ?_
    refine Calls.evalArgs_plain ?_
    show wpAny _ _ (spliced ((false, eval (.Constant (.str msg) j p3) _) :: [])) _ _ _
    refine Calls.spliced_cons (Calls.Constant_str (Calls.spliced_nil ⟨e₃, ?_⟩))
    have KX3 : K.In (h₂.push (PySem.W.kxs_mw "ValueError.__init__" a)) := KX2.keeps k₃
    refine call_mw (t0 := t1) (KX3 _ _ hC) (k₃ _ _ hoa2) e₃ (by show 1 ≤ sizeLine; rw [sizeLine_eq]; decide) fun h₄ t2 k₄ e₄ => ?_
    refine wpAt_of_wpAny ?_
    have ltL : ∀ {b : Addr} {o : Obj}, s.heap.get? b = some o → b ≠ s.heap.objs.size := fun e => Nat.ne_of_lt (Heap.lt_size e)
    have up1 : ∀ b o, b ≠ a → h₁.get? b = some o → h₄.get? b = some o := fun b o hb e => k₄ b o hb (k₃ _ _ (k₂ _ _ e))
    have hns4 : h₄.Ns s.heap.objs.size fun x => ((["self", f] : List Str).zip [Value.ref a, u]).reverse.lookup x := by
      obtain ⟨o, es, ep, ho, rest⟩ := hns
      exact ⟨o, es, ep, up1 _ _ (fun z => ltL hoa z.symm) ho, rest⟩
    have KX4 : K.In h₄ := fun b o e => up1 b o (fun z => by
      have z2 := (e0.bs b o (e0.mod.kin b o e)).2
      rw [z, ha] at z2
      cases z2) (KX1 b o e)
    refine wpAny_execs_cons (plainObj_wpAny_Assign_Attribute (wpAny_Name (wpAny_loadName_local hk lf hns4 m2 (wpAny_Name (wpAny_loadName_local hk lse hns4 m1 ?_) (by decide))) T.dbg) rfl)
    refine PySem.W.set_plain KX4 (ox := { cls := .ref C, dict := none, data := .fields #[.ref t2, .none, .none, .none, .bool false, .none] }) (od := none) ⟨e₄, rfl, rfl, trivial⟩ T.oex.sa ?_
    refine PySem.HandSPX.exc_osa KX4 e₄ hcl (show PySem.HandSPX.refsVE (.ref C :: bm) = true from hbm) rfl T.no (fun h5 tk' dx k5 dn dne hx hn => ?_)
    have kk : ∀ b o, b ≠ a → s.heap.get? b = some o → h5.get? b = some o := fun b o hb e => k5 b o hb (up1 b o hb (hk₁ b o e))
    have gone : s.heap.get? dx = none := by
      cases q : s.heap.get? dx with
      | none => rfl
      | some o => exact absurd (Nat.lt_of_lt_of_le (Heap.lt_size (up1 _ _ dne (hk₁ _ _ q))) dn) (Nat.lt_irrefl _)
    have hnd : H dx = none := e0.hok.gone gone
    refine wpAny_execs_nil ?_
    have na : ∀ {b : Addr}, H b = none → b ≠ a := fun n z => by
      rw [z, ha] at n
      cases n
    have nd : ∀ {b : Addr} {o : Obj}, s.heap.get? b = some o → b ≠ dx := fun q z => by
      rw [z, gone] at q
      cases q
    have Un1 : Un (frs outer) [] H (upd (upd H dx (exd dx [(f, v)])) a (exo a C (some dx))) s.heap h5 := {
      keep := fun b o q n _ _ => kk b o (na n) q
      slot := fun b o q n _ _ => ⟨o.slots, kk b o (na n) q⟩
      free := fun b o q n _ => by rw [upd_ne (na n), upd_ne (nd q)]; exact n
      there := fun b o q _ => by
        by_cases hb : b = a
        · exact ⟨_, by rw [hb]; exact hx⟩
        · exact ⟨o, kk b o hb q⟩
      tups := fun b xs q => by rw [upd_ne (L2.at_ne ha q exo_tup), upd_ne (ne_of_none q hnd)]; exact q
      frzs := fun b o v q => by rw [upd_ne (L2.at_ne ha q exo_frz), upd_ne (ne_of_none q hnd)]; exact q
      tbls := fun b ps q => ⟨#[], by rw [upd_ne (L2.at_ne ha q exo_tbl), upd_ne (ne_of_none q hnd), q]; simp⟩ }
    refine ⟨.non, _, rfl, e0.bare, Un1, fun b o q => ?_, rfl, k dx hnd dne⟩
    by_cases hb : b = a
    · subst hb
      rw [upd_same] at q
      cases q
      exact exo_ok hx
    · rw [upd_ne hb] at q
      by_cases hd : b = dx
      · subst hd
        rw [upd_same] at q
        cases q
        exact exd_ok hn (relO_put (fs := []) rv fun g => True.intro)
      · rw [upd_ne hd] at q
        exact (e0.hok b o q).stay (fun c v hc z => kk c v (by
            rcases hc with hc | hc
            · rw [hc]
              exact hb
            · exact L2.at_ne ha hc exo_own) z)
          (fun c hc => by rw [upd_ne (L2.at_ne ha hc exo_own), upd_ne (ne_of_none hc hnd)]; exact hc) (fun c xs hc => by rw [upd_ne (L2.at_ne ha hc exo_tup), upd_ne (ne_of_none hc hnd)]; exact hc)
end Q
set_option maxHeartbeats 4000000
namespace Q
open PySem PySem.Spec PyProof.Rows L2
/-! ### a caught exception that is kept -/
/-- at a: an exception of the class cls, its own dict (if any) at d -/
def ExT (cls : Value) (d : Option Addr) (a : Addr) : HO := .ext fun h => ∃ (oe : Obj) (vs : Array Value), h.get? a = some oe ∧ Zc cls d oe ∧ oe.data = .fields vs
theorem exT_ok {P : Program} {w : World} {H : Hp} {h : Heap} {a : Addr} {cls : Value} {d : Option Addr} {oe : Obj} {vs : Array Value} (e : h.get? a = some oe) (z : Zc cls d oe) (v : oe.data = .fields vs) : ObjOk P w H h a (ExT cls d a) :=
  ⟨⟨oe, vs, e, z, v⟩, ⟨oe, e⟩, fun _ _ ⟨o, v, q, r⟩ k => ⟨o, v, k o q, r⟩⟩
theorem exT_at {P : Program} {w : World} {H : Hp} {h : Heap} {a : Addr} {cls : Value} {d : Option Addr} (hok : HOk P w H h) (e : H a = some (ExT cls d a)) : ∃ (oe : Obj) (vs : Array Value), h.get? a = some oe ∧ Zc cls d oe ∧ oe.data = .fields vs := by
  have x : ObjOk P w H h a (.ext fun h => ∃ (oe : Obj) (vs : Array Value), h.get? a = some oe ∧ Zc cls d oe ∧ oe.data = .fields vs) := hok a _ e
  exact x.1
section
variable {X : Cx} {pins : List (Addr × Obj)} {σ : L2.St} {H : Hp} {s : Shared}
/-- an object that is pinned, and was not there at the entry, is tracked from now on -/
theorem inv_track {a : Addr} {oe : Obj} {vs : Array Value} {cls : Value} {d : Option Addr} (I : Inv X ((a, oe) :: pins) σ H s) (hd : oe.data = .fields vs) (hz : Zc cls d oe) (h0 : X.s_0.heap.get? a = none) (hp : ∀ p ∈ X.pn ++ pins, p.1 ≠ a) :
    Inv X pins σ (upd H a (ExT cls d a)) s := by
  obtain ⟨ha, na, nl, nf, _⟩ := I.pin (a, oe) (List.mem_append_right _ List.mem_cons_self)
  have ne0 : ∀ b o, X.s_0.heap.get? b = some o → b ≠ a := fun b o e z => by
    rw [z, h0] at e
    cases e
  refine ⟨I.ok, I.os, I.bare, ⟨I.base.keep, I.base.slot, fun b o e n hx => ?_, I.base.there, fun b xs e => ?_, fun b o u e => ?_, fun b ps e => ?_⟩, I.loc, I.cell, ?_, fun x c e => ?_, fun p hm => ?_, ?_, I.len⟩
  · rw [upd_ne (ne0 b o e)]
    exact I.base.free b o e n hx
  · have q := I.base.tups b xs e
    rw [upd_ne (ne_of_none q na)]
    exact q
  · have q := I.base.frzs b o u e
    rw [upd_ne (ne_of_none q na)]
    exact q
  · obtain ⟨m, q⟩ := I.base.tbls b ps e
    exact ⟨m, by rw [upd_ne (ne_of_none q na)]; exact q⟩
  · rw [upd_ne (Ne.symm nl)]
    exact I.free
  · have hc : c ≠ a := fun z => by
      obtain ⟨v, o, ho, hv⟩ := I.cell x c e
      have ho2 : s.heap.get? a = some o := by rw [← z]; exact ho
      rw [ha] at ho2
      cases ho2
      rw [hd] at hv
      cases hv
    rw [upd_ne hc]
    exact I.freeC x c e
  · have hm2 : p ∈ X.pn ++ (a, oe) :: pins := by
      rcases List.mem_append.mp hm with z | z
      · exact List.mem_append_left _ z
      · exact List.mem_append_right _ (List.mem_cons_of_mem _ z)
    obtain ⟨e, n, ne, nf', dd⟩ := I.pin p hm2
    exact ⟨e, by rw [upd_ne (hp p hm)]; exact n, ne, nf', dd⟩
  · exact I.hok.laidN (fun _ _ z => z) na (exT_ok ha hz hd)
end
/-- what «except x as n: y = n» wishes, i the place of n, j of y -/
def wKeep (K : PySem.W.Frag) (c : Value) (i j : Nat) (Wout : WX) (D : Ends) : WX := fun cls d σ H =>
  ∃ b, PySem.W.exmOne K cls c = some b ∧ (b = true → ∀ a, H a = none → D.nx (((σ.set i (some (.ref a))).set j (some (.ref a))).set i none) (upd H a (ExT cls d a))) ∧ (b = false → Wout cls d σ H)
section
variable {X : Cx} {x n y : Str} {c : Value} {i j : Nat} {body : List Stmt} {np pos pos' q1 q2 q3 : Pos} {tb : WX → TS} {Wout : WX}
theorem ps_try_keep (hs : X.stack = X.env :: X.outer) (hex : X.ex = []) (hf : X.env.frame = some X.env.locals) (hN : X.N.Nodup) (hi : X.N[i]? = some n) (hln : X.env.kindOf n = some .local) (hj : X.N[j]? = some y) (hly : X.env.kindOf y = some .local)
    (hd1 : (n == ("__debug__" : Str)) = false) (hd2 : (n == ("__classdict__" : Str)) = false) (hlen : i < X.N.length)
    (hc : Names X x c) (tk : Takes X Wout)
    (hb : ∀ (W : WX) (pn : List (Addr × Obj)) (xe : Value → Shared → Prop), Takes (X.tr pn xe) W → PassesOwn (model X.prog X.w) X.A X.env xe → PSs (X.tr pn xe) body (tb W)) :
    PS X (.Try body [.ExceptHandler (some (.Name x np)) (some n) [.Assign [.Name y q1] (.Name n q2) q3] pos'] [] [] pos) (fun D σ H => tb (wKeep X.K c i j Wout D) D σ H) := by
  refine ⟨fun pins s σ H D I h => ?_⟩
  have ok := I.ok
  have hfr : X.A.frames = some (X.env :: X.outer) := by rw [ok.frames, hs]
  refine wpAny_Try_except (wpAny_mono ((hb (wKeep X.K c i j Wout D) (X.pn ++ pins) _ (fun u s' xx => ?_) PassesOwn.looking).run [] s σ H D (I.toTry _) h) (fun f s1 hsp => ?_) fun _ _ z => z)
  · obtain ⟨a, B, sI, pins', σ', H', cls, d, rfl, J', nb, up, sky, na, os, ag, b, hb1, hyes, hno⟩ := xx
    have J : Inv X pins σ' H' sI := J'.ofTry ok
    have sky' : Sky B (X.env :: X.outer) a (Zc cls d) X.env.locals s'.heap := by rw [← hs]; exact sky
    show wpAny (model X.prog X.w) X.A (noteFrame (.ref a) X.env) _ _ _
    have B0 : B.get? a = none := by
      rcases sky with z | z | z
      · exact z.2.1
      · exact z.2.1
      · exact z.2.1
    refine Sky.land Zc.steady hfr hf sky' fun h3 fl3 up3 => ?_
    have J3 : Inv X pins σ' H' { s' with heap := h3 } := J.landed nb fl3.1 (up.trans up3) os ag
    obtain ⟨oe3, vs3, he3, hz3, hd3⟩ := fl3.there
    have nfr : a ∉ frs (X.env :: X.outer) := fun hm => by
      obtain ⟨_, o', e', hnf⟩ := fl3.2.2.1.mem hm
      rw [he3] at e'
      cases e'
      exact hnf _ hd3
    have nfs : a ∉ frs X.stack := by rw [hs]; exact nfr
    have nL : a ≠ X.env.locals := fun z => nfr (List.mem_filterMap.mpr ⟨X.env, List.mem_cons_self, by rw [hf, z]⟩)
    have nF : a ∉ X.fs := fun hm => by
      obtain ⟨e, he, q⟩ := List.mem_filterMap.mp hm
      exact nfr (List.mem_filterMap.mpr ⟨e, List.mem_cons_of_mem _ he, q⟩)
    have I0 : sI.heap.get? a = none := by
      cases q : sI.heap.get? a with
      | none => rfl
      | some o =>
        rw [nb a o q nfs] at B0
        cases B0
    have S0 : X.s_0.heap.get? a = none := by
      cases q : X.s_0.heap.get? a with
      | none => rfl
      | some o =>
        obtain ⟨o', z⟩ := J.base.there a o q (by rw [hex]; exact fun z => nomatch z)
        rw [I0] at z
        cases z
    have P0 : ∀ p ∈ X.pn ++ pins, p.1 ≠ a := fun p hp z => by
      have q := (J.pin p hp).1
      rw [z, I0] at q
      cases q
    have S3 := J3.suite he3 hd3 na nL nF
    refine wpAny_handleBy_cons (codeAny_handlers_test ?_) (by intro q; cases q)
    have LT : PySem.W.Looks (model X.prog X.w) h3 (typeOf (.ref a)) cls := fun A Q E s k q => wpAny_typeOf_ref (k _ _ he3) (by rw [hz3.1]; exact q)
    have LM := PySem.W.exm_one (M := model X.prog X.w) (J3.kIn) LT hb1
    have test : ∀ {Q : Value → Shared → Prop} {E : Value → Shared → Prop}, Q c { s' with heap := h3 } → wpAny (model X.prog X.w) (X.A.mark (some (.ref a))) (eval (.Name x np) X.env) Q E { s' with heap := h3 } := fun {Q E} q => by
      obtain ⟨hg, hdbg, hm | ⟨hm, hv, hnn⟩⟩ := hc
      · exact ld_glob (X := X.suite a ((a, oe3) :: (X.pn ++ pins))) S3 hg hm q hdbg
      · exact ld_blt (X := X.suite a ((a, oe3) :: (X.pn ++ pins))) S3 hg hm hv q hnn hdbg
    refine test (LM.here ?_)
    cases b with
    | true =>
      refine codeAny_handlers_suite_as ?_
      refine HandSPX.lands_againZ fl3 fun h4 fl4 up4 => ?_
      have J4 : Inv X pins σ' H' { s' with heap := h4 } := J.landed nb fl4.1 ((up.trans up3).trans up4) os ag
      obtain ⟨oe4, vs4, he4, hz4, hd4⟩ := fl4.there
      have S4 := J4.suite he4 hd4 na nL nF
      refine store_ok (X := X.suite a ((a, oe4) :: (X.pn ++ pins))) (v := .ref a) S4 hN hi (.inl hln) rfl (fun s5 S5 => ?_) (.inr hln)
      have one : PSs (X.suite a ((a, oe4) :: (X.pn ++ pins))) [.Assign [.Name y q1] (.Name n q2) q3] (tAsg (tVar i) (gName j)) :=
        pss_one (ps_set hN hj (.inl hly) (pe_var hi (.inl hln) hd1 hd2) rfl (.inr hly))
      have lσ : i < σ'.length := by rw [J.len]; exact hlen
      refine wpAny_mono (one.run [] s5 _ H' { nx := fun σ6 H6 => σ6 = (σ'.set i (some (.ref a))).set j (some (.ref a)) ∧ H6 = H', rt := fun _ _ => False } S5 ⟨.ref a, List.getElem?_set_self lσ, rfl, rfl⟩) (fun f s6 hsp => ?_) fun _ _ z => False.elim z
      cases f with
      | next =>
        obtain ⟨σ6, H6, S6, e1, e2⟩ := hsp
        subst e1 e2
        have K6 : Inv X ((a, oe4) :: pins) ((σ'.set i (some (.ref a))).set j (some (.ref a))) H6 s6 := ⟨ok, S6.os, S6.bare, S6.base, S6.loc, S6.cell, S6.free, S6.freeC, fun p hp => S6.pin p (by
          rcases List.mem_append.mp hp with z | z
          · exact List.mem_append_left _ (List.mem_cons_of_mem _ (List.mem_append_left _ z))
          · rcases List.mem_cons.mp z with z | z
            · rw [z]
              exact List.mem_append_left _ List.mem_cons_self
            · exact List.mem_append_left _ (List.mem_cons_of_mem _ (List.mem_append_right _ z))), S6.hok, S6.len⟩
        exact gone_ok K6 hN hi hln fun s7 J7 => ⟨_, _, inv_track J7 hd4 hz4 S0 P0, hyes rfl a na⟩
      | brk => obtain ⟨_, _, _, z⟩ := hsp; exact z.elim
      | cont => obtain ⟨_, _, _, z⟩ := hsp; exact z.elim
      | ret u => obtain ⟨_, _, _, _, _, z⟩ := hsp; exact z.elim
    | false =>
      show wpAny _ X.A (handleBy (.ref a) X.env []) _ _ _
      refine wpAny_handleBy_nil ?_
      obtain ⟨_, _, _, oe, vs, T, oT, ts', he, hz, hd, h1, hr⟩ := id fl3
      unfold PySem.passOn
      refine wpAny_bind (wpAny_field he hd h1 ?_)
      rw [if_neg (show ¬ ((Value.ref T == Value.none) = true) from by simp)]
      have fin : wpAny (model X.prog X.w) X.A (setFlight (.ref a) X.env.frame) (fun _ s4 => wpAny (model X.prog X.w) X.A (throw (.ref a) : Sem Flow) (SP X pins D) X.xe s4) X.xe { s' with heap := h3 } := by
        rw [hf]
        refine HandSPX.setFlight_upZ fl3 fun h4 hh4 up4 => wpAny_throw (tk _ _ ?_)
        exact ⟨a, B, sI, pins, σ', H', cls, d, rfl, J, nb, (up.trans up3).trans up4, .inr (.inr (by rw [hs]; exact hh4)), na, os, ag, hno rfl⟩
      first
        | exact wpAny_bind (wpAny_pure (wpAny_bind fin))
        | exact wpAny_bind fin
  · cases f with
    | next =>
      obtain ⟨σ', H', J', q⟩ := hsp
      exact wpAny_execs_nil ⟨σ', H', J'.ofTry ok, q⟩
    | brk =>
      obtain ⟨σ', H', J', q⟩ := hsp
      exact ⟨σ', H', J'.ofTry ok, q⟩
    | cont =>
      obtain ⟨σ', H', J', q⟩ := hsp
      exact ⟨σ', H', J'.ofTry ok, q⟩
    | ret u =>
      obtain ⟨v, σ', H', J', r, q⟩ := hsp
      exact ⟨v, σ', H', J'.ofTry ok, r, q⟩
end
/-! ### a kept exception: isinstance, a field -/
/-- its own dict, if any, is known -/
def DkX (H : Hp) (d : Option Addr) : Prop := d = none ∨ ∃ dd fs, d = some dd ∧ H dd = some (.xd fs)
theorem exT_inst {P : Program} {w : World} {H : Hp} {h : Heap} {a D : Addr} {d : Option Addr} (hok : HOk P w H h) (e : H a = some (ExT (.ref D) d a)) (k : DkX H d) : ∃ oe od, PySem.W.InstAt h a oe D od := by
  obtain ⟨oe, vs, ho, hz, hd⟩ := exT_at hok e
  have no : PySem.W.notCls oe = true := by unfold PySem.W.notCls; rw [hd]
  rcases k with rfl | ⟨dd, fs, rfl, q⟩
  · exact ⟨oe, none, ho, hz.1, no, by rw [hz.2]; trivial⟩
  · obtain ⟨mA, hns, _⟩ := (show ObjOk P w H h dd (.xd fs) from hok dd _ q)
    obtain ⟨od, hod, _⟩ := lookIn_ns hns
    exact ⟨oe, some od, ho, hz.1, no, by rw [hz.2]; exact hod⟩
def rIsX (K : PySem.W.Frag) : List V → Hp → VK → Prop := fun xs H Q => ∃ (a : Addr) (c : V) (cv : Value) (D : Addr) (d : Option Addr) (b : Bool), xs = [.ref a, c] ∧ H a = some (ExT (.ref D) d a) ∧ DkX H d ∧ ExcC K D ∧ ClsV c cv ∧ PySem.W.kitOne K (.ref D) cv = some b ∧ Q (.bl b) H
section
variable {X : Cx}
theorem call_isX : CallR X (.builtin "isinstance") (rIsX X.K) := by
  intro pins s σ H xs us Q I r h
  obtain ⟨a, c, cv, D, d, b, rfl, ha, kd, C, k, e, q⟩ := h
  obtain ⟨u1, u2, rfl, r1, r2⟩ := vals2 r
  cases (show u1 = Value.ref a from r1)
  have e2 := k.eq r2
  subst e2
  obtain ⟨oe, od, J⟩ := exT_inst I.hok ha kd
  obtain ⟨cd, hcd, _⟩ := PySem.W.any_some C.hd
  exact PySem.W.kia_one (PySem.W.kitx_exc (by rw [hcd]; rfl) C.hg C.hk C.hs C.ha C.hn C.ht C.hm) I.kIn J e (fun z => nomatch z) fun tk => ⟨.bl b, H, I.tok tk, rfl, q⟩
def tXt (K : PySem.W.Frag) (te : TE) (f : Str) : TE := fun σ H Q => te σ H fun x H1 => ∃ (a C dd : Addr) (fs : List (Str × V)) (v : V), x = .ref a ∧ H1 a = some (ExT (.ref C) (some dd) a) ∧ H1 dd = some (.xd fs) ∧ XfC K C ∧ PySem.W.findIn K (.ref C) f = some none ∧ fs.lookup f = some v ∧ Q v H1
theorem pe_xt {e : Expr} {te : TE} {pos : Pos} {f : Str} (he : PE X e te) (hb : attributeBase e f X.env (eval e X.env) = eval e X.env := by rfl) : PE X (.Attribute e f pos) (tXt X.K te f) := by
  refine ⟨fun pins s σ H Q I h => ?_⟩
  refine attr_of hb (thn (he.run pins s σ H _ I h) fun u s1 hh => ?_)
  obtain ⟨x, H1, I1, rx, a, C, dd, fs, v, rfl, ha, hdd, T, hno, l, q⟩ := hh
  cases (show u = Value.ref a from rx)
  obtain ⟨oe, vs, ho, hz, hd⟩ := exT_at I1.hok ha
  obtain ⟨mA, hns, hr⟩ := (show ObjOk X.prog X.w H1 s1.heap dd (.xd fs) from I1.hok dd _ hdd)
  obtain ⟨od, hod, hl⟩ := lookIn_ns hns
  obtain ⟨u, hu, ru⟩ := RelO.some_of (v := v) (o := mA f) (by rw [← l]; exact hr f)
  have J : PySem.W.InstAt s1.heap a oe C (some od) := ⟨ho, hz.1, by unfold PySem.W.notCls; rw [hd], by rw [hz.2]; exact hod⟩
  exact HandSPX.exc_get I1.kIn J T.ga T.gg T.exC (PySem.W.findObj_own T.hdC hno rfl (by rw [hl, hu])) (handed_of ru) ⟨v, H1, I1.tok _, ru, q⟩
end
/-! ### caught = None; try: work() / except B as error: caught = error; return caught -/
def TKeep (K : PySem.W.Frag) (CB : Addr) : (XK → Hp → VK → Prop) → Hp → VK → Prop := fun tl H Q =>
  tl (fun cls d H' => ∃ b, PySem.W.exmOne K cls (.ref CB) = some b ∧ (b = true → ∀ a, H' a = none → Q (.ref a) (upd H' a (ExT cls d a))) ∧ (b = false → False)) H (fun _ H' => Q .non H')
theorem takes_len {X : Cx} {W : WX} (t : Takes X W) : Takes X (fun c d σ H => σ.length = X.N.length → W c d σ H) := fun u s' ⟨a, B, sI, pins, σ, H, cls, d, e, I, nb, up, sky, na, os, ag, w⟩ =>
  t u s' ⟨a, B, sI, pins, σ, H, cls, d, e, I, nb, up, sky, na, os, ag, w I.len⟩
theorem keep_gives {X : Cx} {x a e y b q : Str} {sg : Scope} {g CB : Addr} {cdg : Value} {j0 : Nat} {p1 p2 p3 p4 p5 p6 p7 p8 p9 p10 p11 p12 p13 p14 : Pos}
    (hnd : ([a, y, e] : List Str).Nodup) (hge : sg.names.lookup b = some .globalImplicit) (hme : X.mg b = some (.ref CB)) (hde : (b == ("__debug__" : Str)) = false)
    (hly : sg.names.lookup y = some .local) (hle : sg.names.lookup e = some .local) (hd1 : (e == ("__debug__" : Str)) = false) (hd2 : (e == ("__classdict__" : Str)) = false)
    (hd3 : (y == ("__debug__" : Str)) = false) (hd4 : (y == ("__classdict__" : Str)) = false) :
    LamX.GivesTo X [a, y, e] x sg g cdg [.Assign [.Name y p1] (.Constant .none j0 p2) p3, .Try [.Expr (.Call (.Name a p4) [] [] p5) p6] [.ExceptHandler (some (.Name b p7)) (some e) [.Assign [.Name y p8] (.Name e p9) p10] p11] [] [] p12, .Return (some (.Name y p13)) p14] a q (TKeep X.K CB) := by
  intro f c' s H Q tl act hc h
  have hgl : Gl (cxOf C8.CX0 X.prog X.w X.K X.mg X.base [a, y, e] x sg g cdg X.A X.stack s H C8.E0).nox b := hge
  refine ⟨_, pss_cons (ps_set (i := 1) hnd rfl (.inl hly) pe_non) (pss_cons
    (ps_try_keep (X := (cxOf C8.CX0 X.prog X.w X.K X.mg X.base [a, y, e] x sg g cdg X.A X.stack s H C8.E0).nox) (c := .ref CB) (i := 2) (j := 1)
      (tb := fun W D σ H => ∃ Ech : XK, (∀ (cls : Value) (d : Option Addr) (σ' : L2.St) (H' : Hp), Ech cls d H' → σ'.length = 3 → W cls d σ' H') ∧ σ[0]? = some (some (.ref f)) ∧ H c' = some (LamX.CodeO c' q) ∧ tl Ech H (fun _ H' => D.nx σ H'))
      rfl rfl rfl hnd rfl hle rfl hly hd1 hd2 (by show 2 < 3; decide) ⟨hgl, hde, .inl hme⟩ LamX.takes0 (fun W pn xe tk _ => ?_))
    (pss_one (ps_ret (pe_var (i := 1) rfl (.inl hly) hd3 hd4)))), ?_⟩
  · refine ⟨fun pins s' σ H' D I h' => ?_⟩
    obtain ⟨Ech, hW, h1, h2, h3⟩ := h'
    exact (pss_one (ps_expr (act (fun c d σ H => σ.length = 3 → W c d σ H) pn xe Ech p4 p5 (takes_len tk) fun cls d σ' H' e l => hW cls d σ' H' e l))).run pins s' σ H' D I ⟨h1, h2, h3⟩
  · refine ⟨fun cls d H' => ∃ b, PySem.W.exmOne X.K cls (.ref CB) = some b ∧ (b = true → ∀ a, H' a = none → Q (.ref a) (upd H' a (ExT cls d a))) ∧ (b = false → False), fun cls d σ' H' ⟨b, e1, e2, e3⟩ l => ⟨b, e1, fun hb a na => ?_, fun hb => e3 hb⟩, rfl, hc, ?_⟩
    · refine ⟨.ref a, ?_, e2 hb a na⟩
      match σ', l with
      | [_, _, _], _ => rfl
    · have eq : (fun (_ : V) (H' : Hp) => Q .non H') = fun (_ : V) (H' : Hp) => ∃ v, ([some (.ref f), some V.non, none] : L2.St)[1]? = some (some v) ∧ Q v H' := by
        funext _ H'
        exact propext ⟨fun q => ⟨.non, rfl, q⟩, fun ⟨v, e, q⟩ => by cases e; exact q⟩
      have h2 : tl _ H (fun _ H' => Q .non H') := h
      rw [eq] at h2
      exact h2
end Q
set_option maxHeartbeats 4000000
namespace Q
open PySem PySem.Spec PyProof.Rows L2 Evl
abbrev S (l : List Nat) : Str := SX.S l
theorem S_tl (l : List Nat) : (S l).cps.toList = l := by simp [S, SX.S]
theorem S_len (l : List Nat) : (S l).length = l.length := SX.S_len l
theorem S_size (l : List Nat) : (S l).cps.size = l.length := by simp [S, SX.S]
theorem str_S (z : Str) : z = S z.cps.toList := (SX.S_tl z).symm
/-! ### names of the module -/
section
variable {X : Cx} {x : Str} {pos : Pos}
theorem pe_gs {z : Str} (hg : Gl X x) (h : ∃ t, X.mg x = some (.str z t)) (hd : (x == ("__debug__" : Str)) = false := by decide) : PE X (.Name x pos) (tC (.str z)) := by
  obtain ⟨t, h⟩ := h
  exact pe_glob hg h ⟨t, rfl⟩ hd
theorem pe_gi {i : Int} (hg : Gl X x) (h : ∃ t, X.mg x = some (.int i t)) (hd : (x == ("__debug__" : Str)) = false := by decide) : PE X (.Name x pos) (tC (.int i)) := by
  obtain ⟨t, h⟩ := h
  exact pe_glob hg h ⟨t, rfl⟩ hd
theorem pe_gr {a : Addr} (hg : Gl X x) (h : X.mg x = some (.ref a)) (hd : (x == ("__debug__" : Str)) = false := by decide) : PE X (.Name x pos) (tC (.ref a)) := pe_glob hg h rfl hd
/-! ### list(text), text.index -/
def rListStr : List V → Hp → VK → Prop := fun xs H Q => ∃ z : Str, xs = [.str z] ∧ z.length ≤ sizeLine ∧ ∀ p, H p = none → Q (.ref p) (upd H p (.lst (z.cps.toList.map fun c => .str (S [c]))))
theorem call_list_str (hh : X.calm = true) : CallR X (.type "list") rListStr := by
  intro pins s σ H xs us Q I r h
  obtain ⟨z, rfl, hz, q⟩ := h
  obtain ⟨u, rfl, t, rfl⟩ := vals1 r
  refine PySem.call_list_str (I.ok.hd hh) z t (fun h' tk acc' c' kp e ia => ?_) hz
  have ei : acc'.toList.toArray = acc' := by simp
  refine ⟨.ref s.heap.objs.size, _, I.laid (t' := tk) kp (Nat.le_refl _) (show ObjOk X.prog X.w _ h' _ (.lst (z.cps.toList.map fun c => .str (S [c]))) from ⟨?_, acc'.toList, c', ?_, by rw [ei]; exact e⟩), rfl, q _ (I.hok.fresh (Nat.le_refl _))⟩
  · rw [List.length_map]
    exact hz
  · obtain ⟨hsz, hit⟩ := ia
    have go : ∀ (l : List Nat) (us : List Value), us.length = l.length → (∀ (j : Nat) (u : Value), us[j]? = some u → ∃ c t, l[j]? = some c ∧ u = Value.str ⟨#[c]⟩ t) → Vals (l.map fun c => V.str (S [c])) us := by
      intro l
      induction l with
      | nil =>
        intro us hl _
        have : us = [] := List.length_eq_zero_iff.mp hl
        subst this
        exact .nil
      | cons c l ih =>
        intro us hl hu
        cases us with
        | nil => cases hl
        | cons u us =>
          refine .cons ?_ (ih us (by simpa using hl) fun j v hv => ?_)
          · obtain ⟨c', t, e1, e2⟩ := hu 0 u rfl
            cases e1
            exact ⟨t, e2⟩
          · exact hu (j + 1) v hv
    refine go _ _ (by rw [Array.length_toList, Array.length_toList]; exact hsz) fun j u hu => ?_
    obtain ⟨c, t, e1, e2⟩ := hit j u (by rw [← Array.getElem?_toList]; exact hu)
    exact ⟨c, t, by rw [Array.getElem?_toList]; exact e1, e2⟩
def rIdx : V → List V → Hp → VK → Prop := fun x xs H Q => ∃ (a b : Str) (k : Nat), x = .str a ∧ xs = [.str b] ∧ Txt.index0 a b = some k ∧ Q (.int (k : Nat)) H
theorem mt_idx : MtM X "str.index" rIdx := by
  intro pins s σ H x xs v us Q I rx rs h
  obtain ⟨a, b, k, rfl, rfl, hk, w⟩ := h
  obtain ⟨t, rfl⟩ := rx
  cases rs with
  | cons r1 rs =>
    cases rs
    obtain ⟨u, rfl⟩ := r1
    cases q : Builtin.Str.occurrences a b 0 a.length 1 with
    | nil =>
      unfold Txt.index0 at hk
      rw [q] at hk
      cases hk
    | cons j rest =>
      unfold Txt.index0 at hk
      rw [q] at hk
      cases hk
      exact PySem.SC.index q ⟨.int (k : Nat), H, I.tok _, ⟨_, rfl⟩, w⟩
end
/-! ### names for inline relations -/
def rLenStr : List V → Hp → VK → Prop := fun xs H Q => ∃ z, xs = [.str z] ∧ z.length ≤ sizeLine ∧ Q (.int z.length) H
theorem call_lenS {X : Cx} : CallR X (.builtin "len") rLenStr := call_len_str
theorem call_lenL {X : Cx} : CallR X (.builtin "len") (rLenS X.K) := call_len_seq
theorem op_addS {X : Cx} : OpR X (binaryOp .Add) rAddS := op_add_str
/-! ### evaluation -/
section
variable {K : PySem.W.Frag} {σ : L2.St} {H H' : Hp} {ta tb tc te : TE} {t u : TT} {x y z v : V}
theorem rv_lt {i j : Int} : RV (rI0 fun i j => .bl (decide (i < j))) (.int i) (.int j) H (.bl (decide (i < j))) := rv_I0
theorem rv_addS {a b : Str} (h : a.length + b.length ≤ 1000000) : RV rAddS (.str a) (.str b) H (.str (a ++ b)) := fun H1 _ _ q => ⟨a, b, rfl, rfl, Nat.le_trans h (by decide), q H1 (Ex.refl H1)⟩
theorem rv_inS {c : Nat} {w : Str} : RV rInS (.str ⟨#[c]⟩) (.str w) H (.bl (decide (c ∈ w.cps.toList))) := fun H1 _ _ q => ⟨c, w, rfl, rfl, q H1 (Ex.refl H1)⟩
theorem rv_niS {c : Nat} {w : Str} : RV rNotInS (.str ⟨#[c]⟩) (.str w) H (.bl (!decide (c ∈ w.cps.toList))) := fun H1 _ _ q => ⟨c, w, rfl, rfl, q H1 (Ex.refl H1)⟩
theorem ev_lenS {w : Str} (ha : Ev ta σ H (.str w)) (h : w.length ≤ 1000000) : Ev (tCB rLenStr (tCons ta tNil)) σ H (.int (w.length : Int)) := fun H1 e Q q =>
  ha H1 e _ fun H2 e2 => ⟨w, rfl, Nat.le_trans h (by decide), q H2 e2⟩
theorem ev_slS {tl th : TO} {w : Str} {lo hi : Option Int} (h : Ev te σ H (.str w)) (h1 : EvO tl σ H lo) (h2 : EvO th σ H hi) (hs : w.length ≤ 1000000) : Ev (tSl rSlS te tl th) σ H (.str (cutS w lo hi)) := fun H1 e _ q =>
  h H1 e _ fun H2 e2 => h1 H2 (e.trans e2) _ fun H3 e3 => h2 H3 ((e.trans e2).trans e3) _ fun H4 e4 =>
    ⟨w, rfl, Nat.le_trans hs (by decide), q H4 ((e2.trans e3).trans e4)⟩
theorem ev_ixS {w : Str} {i : Int} {c : Nat} (ha : Ev ta σ H (.str w)) (hb : Ev tb σ H (.int i)) (h : w.length ≤ 1000000) (hc : atI w.cps.toList i = some c) : Ev (tOp rIxS ta tb) σ H (.str ⟨#[c]⟩) :=
  ev_op ha hb fun H1 _ _ q => ⟨w, i, c, rfl, rfl, Nat.le_trans h (by decide), hc, q H1 (Ex.refl H1)⟩
theorem ev_ca {sp : Sp} {vs : List V} {E : XK} {ta : TA} (h : EvA ta σ H vs) (hs : SpV sp vs H z) : Ev (tCa sp E ta) σ H z := fun H1 e Q q =>
  h H1 e _ fun H2 e2 => hs H2 (e.trans e2) Q (fun H3 e3 => q H3 (e2.trans e3)) E
theorem et_chain {i j k : Int} (ha : Ev ta σ H (.int i)) (hb : Ev tb σ H (.int j)) (hc : Ev tc σ H (.int k)) : Ev (tChain (rI0 fun i j => .bl (decide (i ≤ j))) (rI0 fun i j => .bl (decide (i ≤ j))) ta tb tc) σ H (.bl (decide (i ≤ j) && decide (j ≤ k))) := fun H1 e Q q =>
  ha H1 e _ fun H2 e2 => hb H2 (e.trans e2) _ fun H3 e3 => ⟨i, j, rfl, rfl, decide (i ≤ j), rfl, by
    cases h : decide (i ≤ j) with
    | true => exact hc H3 ((e.trans e2).trans e3) _ fun H4 e4 => ⟨j, k, rfl, rfl, by
        have z := q H4 ((e2.trans e3).trans e4)
        rw [h, Bool.true_and] at z
        exact z⟩
    | false =>
      have z := q H3 (e2.trans e3)
      rw [h, Bool.false_and] at z
      exact z⟩
theorem pt_chainT {X : Cx} {op op' : CmpOp} {a b c : Expr} {pos : Pos} {r r' : R2} (ho : OpR X (compareOp op) r) (ho' : OpR X (compareOp op') r') (ha : PE X a ta) (hb : PE X b tb) (hc : PE X c tc) (hp : PT X (.Compare a [op, op'] [b, c] pos) t) : PT X (.Compare a [op, op'] [b, c] pos) t := hp
end
theorem sgn (c : Nat) : (⟨#[c]⟩ : Str) = S [c] := rfl
theorem atI_nat {α : Type} {l : List α} {i : Nat} {x : α} (h : l[i]? = some x) : atI l (i : Int) = some x := by
  have hi : i < l.length := (List.getElem?_eq_some_iff.mp h).1
  unfold atI
  rw [ixN_nat hi]
  exact h
theorem atI_last {α : Type} {l : List α} {x : α} : atI (l ++ [x]) (-1) = some x := by
  unfold atI ixN
  have e : (l ++ [x]).length = l.length + 1 := by simp
  rw [if_neg (by decide), e, if_pos (by omega)]
  show (l ++ [x])[((-1 : Int) + ((l.length + 1 : Nat) : Int)).toNat]? = some x
  rw [show ((-1 : Int) + ((l.length + 1 : Nat) : Int)).toNat = l.length by omega]
  simp
theorem cutS_nat (l : List Nat) (a b : Nat) : cutS (S l) (some (a : Int)) (some (b : Int)) = S ((l.drop a).take (b - a)) := by
  unfold cutS
  rw [HT.sIx_nat, HT.sIx_nat, S_len, S_tl]
  apply congrArg S
  by_cases h : a ≤ l.length
  · rw [Nat.min_eq_left h]
    by_cases h2 : b ≤ l.length
    · rw [Nat.min_eq_left h2]
    · rw [Nat.min_eq_right (by omega), List.take_of_length_le (by rw [List.length_drop]; omega), List.take_of_length_le (by rw [List.length_drop]; omega)]
  · rw [show min a l.length = l.length from by omega, List.drop_of_length_le (Nat.le_refl _), List.drop_of_length_le (show l.length ≤ a by omega)]
    simp
theorem cutS_from (l : List Nat) (a : Nat) : cutS (S l) (some (a : Int)) none = S (l.drop a) := by
  unfold cutS
  rw [HT.sIx_nat, HT.sIx_none, S_len, S_tl]
  apply congrArg S
  by_cases h : a ≤ l.length
  · rw [Nat.min_eq_left h, List.take_of_length_le (by rw [List.length_drop]; omega)]
  · rw [Nat.min_eq_right (by omega), List.drop_of_length_le (Nat.le_refl _), List.drop_of_length_le (by omega)]
    simp
theorem cutS_to (l : List Nat) (b : Nat) : cutS (S l) none (some (b : Int)) = S (l.take b) := by
  unfold cutS
  rw [HT.sIx_nat, HT.sIx_none, S_len, S_tl]
  apply congrArg S
  rw [List.drop_zero, Nat.sub_zero]
  by_cases h : b ≤ l.length
  · rw [Nat.min_eq_left h]
  · rw [Nat.min_eq_right (by omega), List.take_of_length_le (Nat.le_refl _), List.take_of_length_le (by omega)]
theorem cutS_last (l : List Nat) (c : Nat) : cutS (S (l ++ [c])) none (some (-1)) = S l := by
  rw [C8.cutS_slice]
  exact SX.butlast_snoc l c
end Q
set_option maxHeartbeats 4000000
namespace Q
open PySem PySem.Spec PyProof.Rows L2 Evl
/-! ### the plain law of tokens -/
def sm : List Nat := [97, 98, 99, 100, 101, 102, 103, 104, 105, 106, 107, 108, 109, 110, 111, 112, 113, 114, 115, 116, 117, 118, 119, 120, 121, 122]
def gr : List Nat := [65, 66, 67, 68, 69, 70, 71, 72, 73, 74, 75, 76, 77, 78, 79, 80, 81, 82, 83, 84, 85, 86, 87, 88, 89, 90]
def fg : List Nat := [48, 49, 50, 51, 52, 53, 54, 55, 56, 57]
def sg : List Nat := [40, 41, 123, 125, 44, 58, 59, 43, 45, 42, 60]
def lt : List Nat := sm ++ gr
def tongue : List (List Nat) := [[99, 97, 115, 101], [102, 117, 110], [105, 110], [108, 101, 116]]
def singles : List (List Nat) := [[40], [41], [123], [125], [44], [58], [59], [43], [45], [42], [60], [61], [61, 61]]
def inL (cs : List Nat) (l : List Nat) : Bool := l.all fun c => decide (c ∈ cs)
def lAll (l cs : List Nat) : Bool := !decide (l = []) && inL cs l
def nm (l : List Nat) : Bool := decide (1 ≤ l.length) && decide (l.length ≤ 8) && !decide (l ∈ tongue) && inL sm l
def lnm (l : List Nat) : Bool := lAll l sm && (decide (l.length ≤ 8) && !decide (l ∈ tongue))
def wd (l : List Nat) : Bool := decide (1 ≤ l.length) && decide (l.length ≤ 8) && inL gr (l.take 1) && inL sm (l.drop 1)
def lwd (l : List Nat) : Bool := (lAll (l.take 1) gr && decide (l.length ≤ 8)) && (decide (l.length = 1) || lAll (l.drop 1) sm)
def gn (l : List Nat) : Bool := decide (l.length ≤ 9) && (decide (l = [48]) || !decide (l.take 1 = [48]))
def ltk (l : List Nat) : Bool := if lAll l fg = true then gn l else if lAll l lt = true then lnm l || (lwd l || decide (l ∈ tongue)) else decide (l ∈ singles)
theorem nm_eq (l : List Nat) : lnm l = nm l := by
  unfold lnm nm lAll
  cases l with
  | nil => rfl
  | cons c r =>
    have h1 : decide (c :: r = []) = false := by simp
    have h2 : decide (1 ≤ (c :: r).length) = true := by simp
    rw [h1, h2]
    simp only [Bool.not_false, Bool.true_and]
    generalize inL sm (c :: r) = a
    generalize decide ((c :: r).length ≤ 8) = b
    generalize decide ((c :: r) ∈ tongue) = d
    cases a <;> cases b <;> cases d <;> rfl
theorem wd_eq (l : List Nat) : lwd l = wd l := by
  unfold lwd wd lAll
  cases l with
  | nil => rfl
  | cons c r =>
    have h1 : decide (List.take 1 (c :: r) = []) = false := by simp
    have h2 : decide (1 ≤ (c :: r).length) = true := by simp
    have h3 : decide ((c :: r).length = 1) = decide (r = []) := by
      cases r <;> simp
    rw [h1, h2, h3]
    show _ = (true && decide ((c :: r).length ≤ 8) && inL gr (List.take 1 (c :: r)) && inL sm r)
    show (!false && inL gr (List.take 1 (c :: r)) && decide ((c :: r).length ≤ 8) && (decide (r = []) || (!decide (r = []) && inL sm r))) = _
    have h4 : (decide (r = []) || (!decide (r = []) && inL sm r)) = inL sm r := by
      cases r with
      | nil => rfl
      | cons _ _ => simp
    rw [h4]
    generalize inL gr (List.take 1 (c :: r)) = a
    generalize decide ((c :: r).length ≤ 8) = b
    generalize inL sm r = d
    cases a <;> cases b <;> cases d <;> rfl
def run (cs l : List Nat) : Nat := (l.takeWhile fun c => decide (c ∈ cs)).length
def rlen : List Nat → Nat
  | [] => 0
  | c :: t => if c ∈ lt then 1 + run lt t else if c ∈ fg then 1 + run fg t else if c = 61 ∧ t.take 1 = [61] then 2 else 1
def tok1 : List Nat → Option (List Nat)
  | [] => none
  | c :: t => if c ∈ sg then some [c] else if c = 61 then some (if t.take 1 = [61] then [61, 61] else [61])
    else if c ∈ fg ∧ gn ((c :: t).take (run fg (c :: t))) = true then some ((c :: t).take (run fg (c :: t)))
    else if (nm ((c :: t).take (run lt (c :: t))) || (wd ((c :: t).take (run lt (c :: t))) || decide ((c :: t).take (run lt (c :: t)) ∈ tongue))) = true then some ((c :: t).take (run lt (c :: t))) else none
theorem tok1_cons (c : Nat) (t : List Nat) : tok1 (c :: t) = if c ∈ sg then some [c] else if c = 61 then some (if t.take 1 = [61] then [61, 61] else [61])
    else if c ∈ fg ∧ gn ((c :: t).take (run fg (c :: t))) = true then some ((c :: t).take (run fg (c :: t)))
    else if (nm ((c :: t).take (run lt (c :: t))) || (wd ((c :: t).take (run lt (c :: t))) || decide ((c :: t).take (run lt (c :: t)) ∈ tongue))) = true then some ((c :: t).take (run lt (c :: t))) else none := rfl
theorem rlen_cons (c : Nat) (t : List Nat) : rlen (c :: t) = if c ∈ lt then 1 + run lt t else if c ∈ fg then 1 + run fg t else if c = 61 ∧ t.take 1 = [61] then 2 else 1 := rfl
theorem run_no {cs t : List Nat} {c : Nat} (h : c ∉ cs) : run cs (c :: t) = 0 := by simp [run, h]
theorem run_yes {cs t : List Nat} {c : Nat} (h : c ∈ cs) : run cs (c :: t) = 1 + run cs t := by simp [run, h]; omega
theorem take_run (cs : List Nat) : ∀ l : List Nat, inL cs (l.take (run cs l)) = true
  | [] => rfl
  | c :: t => by
    by_cases h : c ∈ cs
    · rw [run_yes h, Nat.add_comm, List.take_succ_cons]
      show (decide (c ∈ cs) && inL cs (t.take (run cs t))) = true
      rw [take_run cs t, decide_eq_true h]
      rfl
    · rw [run_no h]
      rfl
theorem sg_no : ∀ c ∈ sg, c ∉ lt ∧ c ∉ fg ∧ c ≠ 61 ∧ [c] ∈ singles := by decide
theorem fg_no : ∀ c ∈ fg, c ∉ lt ∧ c ∉ sg ∧ c ≠ 61 := by decide
theorem lt_no : ∀ c ∈ lt, c ∉ fg ∧ c ∉ sg ∧ c ≠ 61 := by decide
theorem lAll_one {cs : List Nat} {c : Nat} {t : List Nat} (h : c ∉ cs) : lAll (c :: t) cs = false := by simp [lAll, inL, h]
theorem tok_law (c : Nat) (t : List Nat) : tok1 (c :: t) = if ltk ((c :: t).take (rlen (c :: t))) = true then some ((c :: t).take (rlen (c :: t))) else none := by
  by_cases h1 : c ∈ sg
  · obtain ⟨a, b, d, e⟩ := sg_no c h1
    have hr : rlen (c :: t) = 1 := by simp [rlen, a, b, d]
    have hk : ltk [c] = true := by simp [ltk, lAll_one a, lAll_one b, e]
    rw [hr]
    show tok1 (c :: t) = if ltk [c] = true then some [c] else none
    rw [if_pos hk]
    simp [tok1, h1]
  by_cases h2 : c = 61
  · subst h2
    by_cases h3 : t.take 1 = [61]
    · have hr : rlen (61 :: t) = 2 := by simp [rlen, h3, lt, sm, gr, fg]
      rw [hr]
      have ht : List.take 2 (61 :: t) = [61, 61] := by rw [List.take_succ_cons, h3]
      rw [ht, if_pos (by decide)]
      simp [tok1, sg, h3]
    · have hr : rlen (61 :: t) = 1 := by simp [rlen, h3, lt, sm, gr, fg]
      rw [hr]
      show tok1 (61 :: t) = if ltk [61] = true then some [61] else none
      rw [if_pos (by decide)]
      simp [tok1, sg, h3]
  by_cases h3 : c ∈ fg
  · obtain ⟨a, _, _⟩ := fg_no c h3
    have hr : rlen (c :: t) = run fg (c :: t) := by rw [run_yes h3]; simp [rlen, a, h3]
    rw [hr]
    have hl : lAll ((c :: t).take (run fg (c :: t))) fg = true := by
      have z := take_run fg (c :: t)
      unfold lAll
      rw [z, run_yes h3, Nat.add_comm, List.take_succ_cons]
      simp
    have hk : ltk ((c :: t).take (run fg (c :: t))) = gn ((c :: t).take (run fg (c :: t))) := by
      unfold ltk
      rw [if_pos hl]
    rw [hk]
    by_cases hg : gn ((c :: t).take (run fg (c :: t))) = true
    · rw [if_pos hg]
      rw [tok1_cons, if_neg h1, if_neg h2, if_pos ⟨h3, hg⟩]
    · rw [if_neg hg]
      rw [tok1_cons, if_neg h1, if_neg h2, if_neg (fun z => hg z.2), run_no a]
      rfl
  by_cases h4 : c ∈ lt
  · have hr : rlen (c :: t) = run lt (c :: t) := by rw [run_yes h4]; simp [rlen, h4]
    rw [hr]
    have hl : lAll ((c :: t).take (run lt (c :: t))) lt = true := by
      have z := take_run lt (c :: t)
      unfold lAll
      rw [z, run_yes h4, Nat.add_comm, List.take_succ_cons]
      simp
    have hf : lAll ((c :: t).take (run lt (c :: t))) fg = false := by
      rw [run_yes h4, Nat.add_comm, List.take_succ_cons]
      exact lAll_one h3
    unfold ltk
    rw [tok1_cons, if_neg h1, if_neg h2, if_neg (fun z => h3 z.1), hf, if_neg Bool.false_ne_true, if_pos hl, nm_eq, wd_eq]
  · have hr : rlen (c :: t) = 1 := by simp [rlen, h4, h3, h2]
    rw [hr]
    show tok1 (c :: t) = if ltk [c] = true then some [c] else none
    have hs : ¬ [c] ∈ singles := by
      intro z
      simp [singles] at z
      simp [sg] at h1
      omega
    have hk : ltk [c] = false := by
      unfold ltk
      rw [lAll_one h3, lAll_one h4, if_neg Bool.false_ne_true, if_neg Bool.false_ne_true]
      exact decide_eq_false hs
    rw [hk, if_neg Bool.false_ne_true]
    rw [tok1_cons, if_neg h1, if_neg h2, if_neg (fun z => h3 z.1), run_no h4]
    rfl
/-! ### rows -/
abbrev blank (c : Nat) : Prop := c = 32 ∨ c = 10
inductive Rws : List Nat → Nat → List (List Nat × Nat) → Prop
  | nil (a : Nat) : Rws [] a []
  | skip {c : Nat} {t : List Nat} {a : Nat} {r : List (List Nat × Nat)} : blank c → Rws t (a + 1) r → Rws (c :: t) a r
  | row {c : Nat} {t : List Nat} {a : Nat} {r : List (List Nat × Nat)} : ¬ blank c → Rws ((c :: t).drop (rlen (c :: t))) (a + rlen (c :: t)) r → Rws (c :: t) a (((c :: t).take (rlen (c :: t)), a) :: r)
theorem rlen_pos (c : Nat) (t : List Nat) : 1 ≤ rlen (c :: t) := by
  rw [rlen_cons]
  repeat' split
  all_goals omega
theorem run_le (cs : List Nat) (l : List Nat) : run cs l ≤ l.length := (List.takeWhile_sublist _).length_le
theorem rlen_le (s : List Nat) : rlen s ≤ s.length := by
  cases s with
  | nil => exact Nat.le_refl _
  | cons c t =>
    have h1 := run_le lt t
    have h2 := run_le fg t
    rw [rlen_cons, List.length_cons]
    by_cases a : c ∈ lt
    · rw [if_pos a]
      omega
    rw [if_neg a]
    by_cases b : c ∈ fg
    · rw [if_pos b]
      omega
    rw [if_neg b]
    by_cases d : c = 61 ∧ t.take 1 = [61]
    · rw [if_pos d]
      have z := congrArg List.length d.2
      rw [List.length_take, List.length_singleton] at z
      omega
    · rw [if_neg d]
      omega
theorem rws_ex : ∀ (n : Nat) (l : List Nat) (a : Nat), l.length ≤ n → ∃ r, Rws l a r
  | _, [], a, _ => ⟨_, .nil a⟩
  | n + 1, c :: t, a, h => by
    by_cases b : blank c
    · obtain ⟨r, hr⟩ := rws_ex n t (a + 1) (by simp at h; omega)
      exact ⟨r, .skip b hr⟩
    · have := rlen_pos c t
      obtain ⟨r, hr⟩ := rws_ex n ((c :: t).drop (rlen (c :: t))) (a + rlen (c :: t)) (by rw [List.length_drop]; simp at h ⊢; omega)
      exact ⟨_, .row b hr⟩
/-- the sizes -/
theorem rws_size {l : List Nat} {a : Nat} {r : List (List Nat × Nat)} (h : Rws l a r) : (r.map fun p => p.1.length).sum ≤ l.length ∧ r.length ≤ l.length ∧ ∀ p ∈ r, p.2 ≤ a + l.length ∧ p.1.length ≤ l.length := by
  induction h with
  | nil => exact ⟨Nat.le_refl _, Nat.le_refl _, fun p h => by cases h⟩
  | skip _ _ ih =>
    refine ⟨by simp; omega, by simp; omega, fun p hp => ?_⟩
    have := ih.2.2 p hp
    simp
    omega
  | @row c t a r _ _ ih =>
    have h1 := rlen_pos c t
    have h2 := rlen_le (c :: t)
    rw [List.length_drop] at ih
    refine ⟨?_, ?_, fun p hp => ?_⟩
    · rw [List.map_cons, List.sum_cons, List.length_take]
      omega
    · rw [List.length_cons]
      omega
    · rcases List.mem_cons.mp hp with e | hp
      · subst e
        refine ⟨by show a ≤ _; omega, by show (List.take _ _).length ≤ _; rw [List.length_take]; omega⟩
      · have := ih.2.2 p hp
        omega
end Q
set_option maxHeartbeats 4000000
namespace Q
open PySem PySem.Spec PyProof.Rows L2 Evl
/-! ### the plain law of fresh names -/
def nxtR : List Nat → List Nat
  | [] => [97]
  | c :: r => if c = 122 then 97 :: nxtR r else (c + 1) :: r
def nxt (w : List Nat) : List Nat := (nxtR w.reverse).reverse
theorem nxtR_z : ∀ (k : Nat) (r : List Nat), nxtR (List.replicate k 122 ++ r) = List.replicate k 97 ++ nxtR r
  | 0, _ => rfl
  | k + 1, r => by
    show nxtR (122 :: (List.replicate k 122 ++ r)) = 97 :: (List.replicate k 97 ++ nxtR r)
    rw [← nxtR_z k r]
    rfl
theorem nxt_all (k : Nat) : nxt (List.replicate k 122) = List.replicate k 97 ++ [97] := by
  unfold nxt
  have h := nxtR_z k []
  rw [List.append_nil] at h
  rw [List.reverse_replicate, h, List.reverse_append, List.reverse_replicate]
  show [97] ++ List.replicate k 97 = List.replicate k 97 ++ [97]
  induction k with
  | zero => rfl
  | succ k ih =>
    show [97] ++ (97 :: List.replicate k 97) = 97 :: (List.replicate k 97 ++ [97])
    rw [← ih (by have h := nxtR_z k []; rw [List.append_nil] at h; exact h)]
    rfl
theorem nxt_one (m : List Nat) (c k : Nat) (hc : c ≠ 122) : nxt (m ++ [c] ++ List.replicate k 122) = m ++ [c + 1] ++ List.replicate k 97 := by
  unfold nxt
  rw [List.reverse_append, List.reverse_replicate, nxtR_z, List.reverse_append, List.reverse_append, List.reverse_replicate]
  show (nxtR (c :: m.reverse)).reverse ++ _ = _
  show (if c = 122 then 97 :: nxtR m.reverse else (c + 1) :: m.reverse).reverse ++ _ = _
  rw [if_neg hc]
  simp
def wl : Nat → List Nat → List (List Nat)
  | 0, _ => []
  | n + 1, w => w :: wl n (nxt w)
def wrd : Nat → List Nat
  | 0 => [97]
  | n + 1 => nxt (wrd n)
theorem wl_get : ∀ (n k i : Nat), i < n → (wl n (wrd k))[i]? = some (wrd (k + i))
  | n + 1, k, 0, _ => rfl
  | n + 1, k, i + 1, h => by
    show (wl n (wrd (k + 1)))[i]? = _
    rw [wl_get n (k + 1) i (by omega)]
    congr 2
    omega
def code (w : List Nat) : Nat := w.foldl (fun a c => 26 * a + (c - 96)) 0
def rowsW : List (List Nat) := wl 703 [97]
theorem rowsW_len : rowsW.length = 703 := by decide +kernel
theorem rowsW_get (i : Nat) (h : i < 703) : rowsW[i]? = some (wrd i) := by
  have z := wl_get 703 0 i h
  rw [Nat.zero_add] at z
  exact z
theorem codes : rowsW.map code = List.range' 1 703 := by decide +kernel
theorem code_wrd (i : Nat) (h : i < 703) : code (wrd i) = i + 1 := by
  have z := congrArg (fun l => l[i]?) codes
  simp only [List.getElem?_map, rowsW_get i h, Option.map_some] at z
  rw [List.getElem?_range' (by omega)] at z
  have := Option.some.inj z
  omega
theorem rowsW_fine : rowsW.all (fun w => inL sm w && decide (w.length ≤ 3) && decide (w ≠ [])) = true := by decide +kernel
theorem wrd_fine (i : Nat) (h : i < 703) : inL sm (wrd i) = true ∧ (wrd i).length ≤ 3 ∧ wrd i ≠ [] := by
  have z := List.all_eq_true.mp rowsW_fine (wrd i) (List.mem_of_getElem? (rowsW_get i h))
  simp only [Bool.and_eq_true, decide_eq_true_eq] at z
  exact ⟨z.1.1, z.1.2, z.2⟩
/-- the names of the law, and 'aaa' behind them -/
def nam : List (List Nat) := rowsW.take 247 ++ rowsW.drop 248
def cj (j : Nat) : Nat := if j < 247 then j else j + 1
theorem nam_len : nam.length = 702 := by decide +kernel
theorem nam_get (j : Nat) (h : j < 702) : nam[j]? = some (wrd (cj j)) := by
  unfold nam cj
  by_cases hj : j < 247
  · rw [if_pos hj, List.getElem?_append_left (by rw [List.length_take, rowsW_len]; omega), List.getElem?_take_of_lt hj]
    exact rowsW_get j (by omega)
  · rw [if_neg hj, List.getElem?_append_right (by rw [List.length_take, rowsW_len]; omega), List.length_take, rowsW_len, List.getElem?_drop]
    rw [show 248 + (j - min 247 703) = j + 1 by omega]
    exact rowsW_get (j + 1) (by omega)
theorem wrd_in : wrd 247 = [105, 110] := by decide +kernel
theorem wrd_aaa : wrd 702 = [97, 97, 97] := by decide +kernel
theorem tongue_codes : tongue.map code = [53903, 4616, 248, 8262] := by decide +kernel
theorem wrd_tongue (i : Nat) (h : i < 703) (hi : i ≠ 247) : wrd i ∉ tongue := fun z => by
  have c := code_wrd i h
  have m := List.mem_map_of_mem (f := code) z
  rw [tongue_codes, c] at m
  simp at m
  omega
theorem cj_lt (j : Nat) (h : j < 702) : cj j < 703 ∧ cj j ≠ 247 := by
  unfold cj
  split <;> omega
theorem cj_inj {i j : Nat} (h : cj i = cj j) : i = j := by
  unfold cj at h
  split at h <;> split at h <;> omega
/-- every word ahead of the g-th name is kept, or a name ahead of it -/
theorem ahead {g i : Nat} (hg : g < 702) (hi : i < cj g) : wrd i ∈ tongue ∨ ∃ j, j < g ∧ i = cj j := by
  by_cases h : i = 247
  · subst h
    left
    rw [wrd_in]
    decide
  · right
    unfold cj at *
    by_cases h2 : i < 247
    · exact ⟨i, by split at hi <;> omega, by rw [if_pos h2]⟩
    · refine ⟨i - 1, by split at hi <;> omega, ?_⟩
      rw [if_neg (by omega)]
      omega
/-- what the law makes of the row of names: some of the first many, one of them left out -/
theorem fresh_law {g : Nat} {us : List (List Nat)} (hg : g < 702) (h1 : ∀ j, j < g → wrd (cj j) ∈ us) (h2 : ∀ w ∈ us, (∃ j, j < 702 ∧ j ≠ g ∧ w = wrd (cj j)) ∨ 703 < code w) :
    (∀ i, i < cj g → wrd i ∈ us ∨ wrd i ∈ tongue) ∧ wrd (cj g) ∉ us ∧ wrd (cj g) ∉ tongue ∧ cj g ≤ 702 := by
  obtain ⟨a, b⟩ := cj_lt g hg
  refine ⟨fun i hi => ?_, fun z => ?_, wrd_tongue _ a b, by omega⟩
  · rcases ahead hg hi with h | ⟨j, hj, rfl⟩
    · exact .inr h
    · exact .inl (h1 j hj)
  · rcases h2 _ z with ⟨j, hj, hne, e⟩ | h
    · obtain ⟨a', _⟩ := cj_lt j hj
      have c := congrArg code e
      rw [code_wrd _ a, code_wrd _ a'] at c
      exact hne (cj_inj (by omega))
    · rw [code_wrd _ a] at h
      omega
/-- the names, as the law writes them -/
def nmF (f : List Nat) : List (List Nat) := (sm.filter fun c => !decide (f ++ [c] = [105, 110])).map fun c => f ++ [c]
def nmAll : List (List Nat) := ([] :: sm.map fun c => [c]).flatMap nmF
theorem nam_law : nmAll ++ [[97, 97, 97]] = nam := by decide +kernel
theorem nmAll_len : nmAll.length = 701 := by decide +kernel
theorem nmAll_get (j : Nat) (h : j < 701) : nmAll[j]? = some (wrd (cj j)) := by
  have z := nam_get j (by omega)
  rw [← nam_law, List.getElem?_append_left (by rw [nmAll_len]; exact h)] at z
  exact z
theorem nmAll_nm : nmAll.all (fun w => nm w && decide (w.length ≤ 2)) = true := by decide +kernel
end Q
set_option maxHeartbeats 4000000
namespace Q
open PySem PySem.Spec PyProof.Rows L2 Evl
def top (i : Nat) : Stmt := PySem.Challenge.pw_runsbilled_k02_whole_tokens_and_fresh_na.main.body.getD i (.Pass ⟨0, 0, 0, 0⟩)
/-- a def of the text stands behind its name -/
def FunAt (D : Wd) (x : Str) (i : Nat) : Prop := ∃ (f : Addr) (fd : FuncData), FunD D.K x x (defArgs (top i)) (defBody (top i)) (defScope (top i)) [] [] f fd ∧ D.mg x = some (.ref f)
/-- what the head leaves -/
structure Tx (D : Wd) (aT cB cT cN fI : Addr) (fdI : FuncData) : Prop where
  n_len : D.mg "len" = none
  n_isinstance : D.mg "isinstance" = none
  n_all : D.mg "all" = none
  n_abs : D.mg "abs" = none
  n_repr : D.mg "repr" = none
  n_str : D.mg "str" = none
  n_tuple : D.mg "tuple" = none
  n_int : D.mg "int" = none
  n_list : D.mg "list" = none
  n_range : D.mg "range" = none
  n_min : D.mg "min" = none
  g_SMALL : ∃ t, D.mg "SMALL" = some (.str "abcdefghijklmnopqrstuvwxyz" t)
  g_GREAT : ∃ t, D.mg "GREAT" = some (.str "ABCDEFGHIJKLMNOPQRSTUVWXYZ" t)
  g_FIGURES : ∃ t, D.mg "FIGURES" = some (.str "0123456789" t)
  g_SINGLE : ∃ t, D.mg "SINGLE" = some (.str "(){},:;+-*<" t)
  g_MOST_SIGNS : ∃ t, D.mg "MOST_SIGNS" = some (.int 40000 t)
  g_MOST_FIGURES : ∃ t, D.mg "MOST_FIGURES" = some (.int 9 t)
  g_MOST_LETTERS : ∃ t, D.mg "MOST_LETTERS" = some (.int 8 t)
  g_TONGUE : D.mg "TONGUE" = some (.ref aT)
  s_TONGUE : ∀ H, SqT D.K H aT (tongue.map fun l => .str (S l))
  g_BadText : D.mg "BadText" = some (.ref cT)
  g_BadNames : D.mg "BadNames" = some (.ref cN)
  g_BillError : D.mg "BillError" = some (.ref cB)
  oT : OexC D.K cT
  iT : PySem.W.findIn D.K (.ref cT) "__init__" = some (some (.ref fI))
  tI : PySem.W.typeIn D.K (.ref fI) = some (.type "function")
  ini : IniC D.P D.K D.mg cT fI "at" fdI
  bI : Binds D.K fdI ["self", "at"] []
  eN : PySem.W.excIn D.K cN He.veBase "ValueError.__new__" = true ∧ PySem.W.keepIn D.K (.ref cN) = true ∧ PySem.W.subIn D.K (.ref cN) (.type "BaseException") = some true ∧ PySem.W.typeIn D.K (.ref cN) = some (.type "type")
  xT : PySem.W.exmOne D.K (.ref cT) (.ref cB) = some true
  xN : PySem.W.exmOne D.K (.ref cN) (.ref cB) = some true
  eT' : ExcC D.K cT
  eN' : ExcC D.K cN
  fT : XfC D.K cT
  nT : PySem.W.findIn D.K (.ref cT) "at" = some none
  kTT : PySem.W.kitOne D.K (.ref cT) (.ref cT) = some true
  kNN : PySem.W.kitOne D.K (.ref cN) (.ref cN) = some true
  f13 : FunAt D "kept_words" 13
  f14 : FunAt D "is_name" 14
  f15 : FunAt D "is_word" 15
  f16 : FunAt D "end_of_row" 16
  f17 : FunAt D "token_at" 17
  f18 : FunAt D "tokens_of" 18
  f19 : FunAt D "next_word" 19
  f20 : FunAt D "fresh_told" 20
  f21 : FunAt D "fresh_name" 21
  f23 : FunAt D "_law_begun" 23
  f24 : FunAt D "_law_mixed" 24
  f25 : FunAt D "_law_take" 25
  f26 : FunAt D "_law_pick" 26
  f27 : FunAt D "_law_caught" 27
  f28 : FunAt D "_law_same" 28
  f29 : FunAt D "_law_name" 29
  f30 : FunAt D "_law_word" 30
  f31 : FunAt D "_law_row" 31
  f32 : FunAt D "_law_letters" 32
  f33 : FunAt D "_law_all_in" 33
  f34 : FunAt D "_law_is_name" 34
  f35 : FunAt D "_law_is_word" 35
  f36 : FunAt D "_law_is_token" 36
  f37 : FunAt D "_law_piece" 37
  f38 : FunAt D "_law_tokens_right" 38
  f39 : FunAt D "_law_words_right" 39
  f40 : FunAt D "_law_fresh_right" 40
  f41 : FunAt D "law" 41
/-- a def that only reads: from values to a value -/
def spF (n : Nat) (R : Hp → List V → V → Prop) : Sp := fun vs H Q _ => vs.length = n ∧ ∃ z, R H vs z ∧ ∀ H2, Ex H H2 → Q z H2
theorem spF_v {n : Nat} {R : Hp → List V → V → Prop} {vs : List V} {H : Hp} {z : V} (hn : vs.length = n) (h : ∀ H1, Ex H H1 → R H1 vs z) : SpV (spF n R) vs H z := fun H1 e Q q E => ⟨hn, z, h H1 e, fun H2 e2 => q H2 e2⟩
/-- the promises of the defs that only read texts -/
abbrev rKept (aT : Addr) : Hp → List V → V → Prop := fun _ vs z => vs = [] ∧ z = .ref aT
abbrev rEnd : Hp → List V → V → Prop := fun _ vs z => ∃ (l g : List Nat) (a : Nat), vs = [.str (S l), .int (a : Int), .str (S g)] ∧ l.length ≤ 1000000 ∧ a ≤ l.length ∧ z = .int ((a + run g (l.drop a) : Nat) : Int)
/-- a predicate of values: of texts p, of other kinds false -/
def rIs (K : PySem.W.Frag) (p : List Nat → Bool) : Hp → List V → V → Prop := fun H vs z => ∃ x, vs = [x] ∧ ((∃ l, x = .str (S l) ∧ l.length ≤ 1000000 ∧ z = .bl (p l)) ∨ ((∃ t, TyX K H x t ∧ PySem.W.kitOne K t (.type "str") = some false) ∧ z = .bl false))
abbrev rAllIn : Hp → List V → V → Prop := fun _ vs z => ∃ l g, vs = [.str (S l), .str (S g)] ∧ l.length ≤ 40001 ∧ z = .bl (lAll l g)
abbrev rOn (p : List Nat → Bool) : Hp → List V → V → Prop := fun _ vs z => ∃ l, vs = [.str (S l)] ∧ l.length ≤ 40001 ∧ z = .bl (p l)
/-- texts of the program, as codes -/
theorem t_small : (("abcdefghijklmnopqrstuvwxyz" : Str)) = S sm := by decide +kernel
theorem t_great : (("ABCDEFGHIJKLMNOPQRSTUVWXYZ" : Str)) = S gr := by decide +kernel
theorem t_fig : (("0123456789" : Str)) = S fg := by decide +kernel
theorem t_sing : (("(){},:;+-*<" : Str)) = S sg := by decide +kernel
theorem t_let : (("abcdefghijklmnopqrstuvwxyzABCDEFGHIJKLMNOPQRSTUVWXYZ" : Str)) = S lt := by decide +kernel
theorem in_tongue (l : List Nat) (ts : List (List Nat)) : inV (.str (S l)) (ts.map fun l => .str (S l)) = decide (l ∈ ts) := by
  induction ts with
  | nil => rfl
  | cons t ts ih =>
    show (eqV (.str (S t)) (.str (S l)) || inV (.str (S l)) (ts.map fun l => .str (S l))) = _
    rw [ih]
    show ((S t == S l) || _) = _
    rw [SX.S_beq_eq]
    by_cases h : t = l
    · subst h
      simp
    · simp [h, Ne.symm h]
theorem flat_strs (ts : List (List Nat)) : (ts.map fun l => V.str (S l)).all flatV = true := by
  rw [List.all_map]
  exact List.all_eq_true.mpr fun _ _ => rfl
end Q
set_option maxHeartbeats 4000000
namespace Q
open PySem PySem.Spec PyProof.Rows L2 Evl
section
variable {K : PySem.W.Frag} {σ : L2.St} {H H' : Hp} {ta tb tc te ts : TE} {t u : TT} {x y z v : V}
theorem tyx_mono {x : V} {ty : Value} (e : Ex H H') (h : TyX K H x ty) : TyX K H' x ty := by
  cases h with
  | base b =>
    cases b with
    | non => exact .base .non
    | bl y => exact .base (.bl y)
    | int i => exact .base (.int i)
    | str y => exact .base (.str y)
    | flt y => exact .base (.flt y)
    | lst ea => exact .base (.lst (e _ _ ea))
    | frz ea => exact .base (.frz (e _ _ ea))
    | tup ea => exact .base (.tup (e _ _ ea))
    | dK ea => exact .base (.dK (e _ _ ea))
    | dT ea => exact .base (.dT (e _ _ ea))
    | ins ea cl ha hn htk hm => exact .base (.ins (e _ _ ea) cl ha hn htk hm)
  | byt b => exact .byt b
  | set ea => exact .set (e _ _ ea)
  | kList ea c => exact .kList ea c
  | kTuple ea c => exact .kTuple ea c
  | kDict ea c => exact .kDict ea c
  | fTuple ea => exact .fTuple (e _ _ ea)
  | fDict ea => exact .fDict (e _ _ ea)
theorem ev_isi {ty : Value} {n : String} {b : Bool} (ha : Ev ta σ H x) (ht : TyX K H x ty) (hk : PySem.W.kitOne K ty (.type n) = some b) : Ev (tCB (rIsi K) (tCons ta (tCons (tC (.ty n)) tNil))) σ H (.bl b) :=
  ev_cb (ea_cons ha (ea_cons ev_c ea_nil)) fun H1 e Q q => ⟨x, .ty n, ty, .type n, b, rfl, .ty n, tyx_mono e ht, hk, q H1 (Ex.refl H1)⟩
theorem kit_ss {n : String} : PySem.W.kitOne K (.type n) (.type n) = some true := by
  unfold PySem.W.kitOne
  exact if_pos (by simp)
theorem et_yes : EvT tYes σ H true := fun H1 _ _ q => q H1 (Ex.refl H1)
theorem ev_all {bs : List Bool} (h : EvL ta σ H (bs.map V.bl)) : Ev (tCB (rAll K) (tCons ta tNil)) σ H (.bl (bs.all id)) := fun H1 e Q q =>
  h H1 e _ fun p H2 _ e2 h2 => ⟨p, bs, rfl, sq_of h2, q H2 e2⟩
/-- a comprehension over n things, one after another -/
theorem lc_go {J : It} {n : Nat} {G : Hp → Prop} {xs : List V} {j : Nat} {vs : List Nat} {Qd : Hp → Prop} {H1 : Hp} {Dl : Addr} (w : Walk J xs.length G (YAt xs)) (p : V → Bool) (g : V → V) (hG : ∀ H', Ex H1 H' → G H') (hz : xs.length ≤ 1000000)
    (hw : ∀ x, wipe ((wipe σ vs).set j (some x)) vs = wipe σ vs) (ht : ∀ x, x ∈ xs → EvT t ((wipe σ vs).set j (some x)) H1 (p x)) (he : ∀ x, x ∈ xs → p x = true → Ev te ((wipe σ vs).set j (some x)) H1 (g x)) (hD : H1 Dl = none)
    (hd : ∀ H', Ex H1 H' → H' Dl = some (.lst ((xs.filter p).map g)) → Qd H') :
    ∃ W : Nat → Nat → Hp → Prop, (∃ m, W 0 m (upd H1 Dl (.lst []))) ∧ ∀ i m H, W i m H →
      (J.stop i H ∧ Qd H) ∨ (J.go i H ∧ ∃ Nx : Hp → Prop, (∀ H', Nx H' → ∃ m', m' < m ∧ W (i + 1) m' H') ∧ ∀ x H', J.yld i H x H' → gName j x (wipe σ vs) H' fun σ2 H2 => wipe σ2 vs = wipe σ vs ∧ t σ2 H2 fun b H3 =>
        if b = true then te σ2 H3 fun y H4 => ∃ acc, H4 Dl = some (.lst acc) ∧ acc.length < sizeLine ∧ Nx (upd H4 Dl (.lst (acc ++ [y]))) else Nx H3) := by
  refine lc_it w (fun i H' => Ex H1 H' ∧ H' Dl = some (.lst (((xs.take i).filter p).map g))) ⟨Ex.new hD, by rw [List.take_zero]; exact upd_same⟩ (fun i H' hi q => hG H' q.1) ?_ ?_
  · rintro i x H2 H3 hi ⟨e, h⟩ ⟨rfl, hx⟩
    have hm : x ∈ xs := List.mem_of_getElem? hx
    have tk : xs.take (i + 1) = xs.take i ++ [x] := by rw [List.take_succ, hx]; rfl
    have hl : (((xs.take i).filter p).map g).length ≤ 1000000 := by
      rw [List.length_map]
      exact Nat.le_trans (List.length_filter_le _ _) (Nat.le_trans (by rw [List.length_take]; exact Nat.min_le_right _ _) hz)
    refine ⟨hw x, ht x hm H3 e _ fun H4 e4 => ?_⟩
    cases hp : p x with
    | true =>
      refine he x hm hp H4 (e.trans e4) _ fun H5 e5 => ⟨_, e5 _ _ (e4 _ _ h), Nat.lt_of_le_of_lt hl (by decide), Ex.mut ((e.trans e4).trans e5) hD, ?_⟩
      rw [tk, List.filter_append, List.map_append, List.filter_cons, if_pos hp]
      exact upd_same
    | false =>
      refine ⟨e.trans e4, ?_⟩
      rw [tk, List.filter_append, List.map_append, List.filter_cons, if_neg (by rw [hp]; decide)]
      show H4 Dl = some (.lst (_ ++ []))
      rw [List.append_nil]
      exact e4 _ _ h
  · rintro H2 ⟨e, h⟩
    rw [List.take_length] at h
    exact hd H2 e h
theorem walk_strV {w : Str} : Walk (Its w) (w.cps.toList.map fun c => V.str ⟨#[c]⟩).length (fun _ => True) (YAt (w.cps.toList.map fun c => V.str ⟨#[c]⟩)) := by
  have e : (w.cps.toList.map fun c => V.str ⟨#[c]⟩).length = w.cps.size := by simp
  refine ⟨fun i _ hi _ => by rw [e] at hi; exact hi, fun _ _ => Nat.le_of_eq e.symm, fun i H x H' _ _ y => ?_⟩
  obtain ⟨h1, c, hc, rfl⟩ := y
  refine ⟨h1, ?_⟩
  rw [List.getElem?_map, Array.getElem?_toList, hc]
  rfl
theorem el_lcS {w : Str} {j : Nat} {vs : List Nat} (p : V → Bool) (g : V → V) (h : Ev ts σ H (.str w)) (hz : w.length ≤ 1000000) (hw : ∀ x, wipe ((wipe σ vs).set j (some x)) vs = wipe σ vs)
    (ht : ∀ c H1, Ex H H1 → c ∈ w.cps.toList → EvT t ((wipe σ vs).set j (some (.str ⟨#[c]⟩))) H1 (p (.str ⟨#[c]⟩))) (he : ∀ c H1, Ex H H1 → c ∈ w.cps.toList → p (.str ⟨#[c]⟩) = true → Ev te ((wipe σ vs).set j (some (.str ⟨#[c]⟩))) H1 (g (.str ⟨#[c]⟩))) :
    EvL (tLc (iStr ts) (gName j) t te vs) σ H (((w.cps.toList.map fun c => V.str ⟨#[c]⟩).filter p).map g) := fun H0 e Q q => h H0 e _ fun H1 e1 => ⟨w, rfl, fun Dl hD =>
  lc_go (n := 0) walk_strV p g (fun _ _ => True.intro) (by rw [List.length_map, Array.length_toList]; exact hz) hw
    (fun x hx => by
      obtain ⟨c, hc, rfl⟩ := List.mem_map.mp hx
      exact ht c H1 (e.trans e1) hc)
    (fun x hx hp => by
      obtain ⟨c, hc, rfl⟩ := List.mem_map.mp hx
      exact he c H1 (e.trans e1) hc hp) hD fun H' e' h' => q Dl H' (fresh_back e1 hD) (e1.trans e') h'⟩
theorem el_lcLv {a : Addr} {xs : List V} {j : Nat} {vs : List Nat} (p : V → Bool) (g : V → V) (h : Ev ts σ H (.ref a)) (hx : SqL K H a xs) (hz : xs.length ≤ 1000000) (hw : ∀ x, wipe ((wipe σ vs).set j (some x)) vs = wipe σ vs)
    (ht : ∀ x H1, Ex H H1 → x ∈ xs → EvT t ((wipe σ vs).set j (some x)) H1 (p x)) (he : ∀ x H1, Ex H H1 → x ∈ xs → p x = true → Ev te ((wipe σ vs).set j (some x)) H1 (g x)) :
    EvL (tLc (iList K ts) (gName j) t te vs) σ H ((xs.filter p).map g) := fun H0 e Q q => h H0 e _ fun H1 e1 => ⟨a, rfl, ⟨xs, ex_l (e.trans e1) hx⟩, fun Dl hD =>
  lc_go (n := 0) walk_list p g (fun _ e' => ex_l ((e.trans e1).trans e') hx) hz hw (fun x hx => ht x H1 (e.trans e1) hx) (fun x hx hp => he x H1 (e.trans e1) hx hp) hD fun H' e' h' => q Dl H' (fresh_back e1 hD) (e1.trans e') h'⟩
theorem el_lcTv {a : Addr} {xs : List V} {j : Nat} {vs : List Nat} (p : V → Bool) (g : V → V) (h : Ev ts σ H (.ref a)) (hx : SqT K H a xs) (hz : xs.length ≤ 1000000) (hw : ∀ x, wipe ((wipe σ vs).set j (some x)) vs = wipe σ vs)
    (ht : ∀ x H1, Ex H H1 → x ∈ xs → EvT t ((wipe σ vs).set j (some x)) H1 (p x)) (he : ∀ x H1, Ex H H1 → x ∈ xs → p x = true → Ev te ((wipe σ vs).set j (some x)) H1 (g x)) :
    EvL (tLc (iTup K ts) (gName j) t te vs) σ H ((xs.filter p).map g) := fun H0 e Q q => h H0 e _ fun H1 e1 => ⟨a, rfl, ⟨xs, ex_t (e.trans e1) hx⟩, fun Dl hD =>
  lc_go (n := 0) walk_tup p g (fun _ e' => ex_t ((e.trans e1).trans e') hx) hz hw (fun x hx => ht x H1 (e.trans e1) hx) (fun x hx hp => he x H1 (e.trans e1) hx hp) hD fun H' e' h' => q Dl H' (fresh_back e1 hD) (e1.trans e') h'⟩
theorem el_is {xs : List V} {bs : List Bool} (h : EvL te σ H xs) (e : xs = bs.map V.bl) : EvL te σ H (bs.map V.bl) := e ▸ h
theorem ev_sub {v : V} (h : Ev te σ H v) (e : v = x) : Ev te σ H x := e ▸ h
/-- == of data -/
theorem rv_eqD {d e : PyData} (hx : Dp K H x d) (hy : ∀ H1, Ex H H1 → Dp K H1 x d ∧ Dp K H1 y e) (s1 : SeqAt.shaped d = true) (s2 : SeqAt.shaped e = true) : RV (rEqD K) x y H (.bl (PyData.eqv d e)) := fun H1 e' Q q => ⟨d, e, (hy H1 e').1, (hy H1 e').2, s1, s2, q H1 (Ex.refl H1)⟩
end
end Q
set_option maxHeartbeats 4000000
namespace Q
open PySem PySem.Spec PyProof.Rows L2 Evl
variable {D : Wd} {aT cB cT cN fI : Addr} {fdI : FuncData}
abbrev s_kept_words : Stmt := top 13
abbrev N_kept_words : List Str := []
theorem sc_kept_words : FnScope N_kept_words [] (defScope s_kept_words) := ⟨rfl, rfl, rfl, by decide +kernel, rfl, by decide +kernel, by decide +kernel⟩
theorem c_kept_words (T : Tx D aT cB cT cN fI fdI) : Ca D false 1 "kept_words" 0 (spF 0 (rKept aT)) := by
  obtain ⟨f, fd, F, gm⟩ := T.f13
  refine ca_mk (st := s_kept_words) (N := N_kept_words) (ps := []) false F gm sc_kept_words (F.bindsN fun _ _ _ _ _ _ us hl => match us, hl with | [], _ => rfl) (fun vs H Q E h => h.1) fun cdv A outer s H vs Q E hG hr h => ?_
  refine ⟨_, (pss_one (ps_ret (pe_gr rfl T.g_TONGUE))), ?_⟩
  obtain ⟨_, z, ⟨rfl, rfl⟩, q⟩ := h
  exact s_ret ev_c q
abbrev s_is_name : Stmt := top 14
abbrev N_is_name : List Str := ["thing", "sign"]
theorem sc_is_name : FnScope N_is_name ["thing"] (defScope s_is_name) := ⟨rfl, rfl, rfl, by decide +kernel, rfl, by decide +kernel, by decide +kernel⟩
theorem all_in {l : List Nat} {z : Str} {g : List Nat} (e : z = S g) : (((S l).cps.toList.map fun c => V.str ⟨#[c]⟩).filter (fun _ => true)).map (fun x => match x with | .str w => V.bl (decide (w.cps.toList.headD 0 ∈ z.cps.toList)) | _ => V.bl false) = (l.map fun c => decide (c ∈ g)).map V.bl := by
  subst e
  rw [S_tl, S_tl]
  induction l with
  | nil => rfl
  | cons c l ih =>
    show V.bl (decide (c ∈ g)) :: _ = V.bl (decide (c ∈ g)) :: _
    exact congrArg (V.bl (decide (c ∈ g)) :: ·) ih
theorem all_id (l g : List Nat) : (l.map fun c => decide (c ∈ g)).all id = inL g l := by
  unfold inL
  rw [List.all_map]
  rfl
theorem c_is_name (T : Tx D aT cB cT cN fI fdI) : Ca D false 1 "is_name" 1 (spF 1 (rIs D.K nm)) := by
  obtain ⟨f, fd, F, gm⟩ := T.f14
  refine ca_mk (st := s_is_name) (N := N_is_name) (ps := ["thing"]) false F gm sc_is_name (F.bindsN fun _ _ _ _ _ _ us hl => match us, hl with | [_], _ => rfl) (fun vs H Q E h => h.1) fun cdv A outer s H vs Q E hG hr h => ?_
  have nd := sc_is_name.nd
  refine ⟨_, (pss_cons (ps_if (PW.pt (pw_or (pt_not (pt_val (pe_callB call_isi (by rfl) T.n_isinstance (by decide +kernel) (pa_cons (pv 0) (pa_cons (pe_bltn (v := .ty "str") rfl T.n_str (by decide +kernel) rfl) pa_nil))))) (pw_or (pt_not (pt_chain op_le op_le pe_int (pe_callB call_lenS (by rfl) T.n_len (by decide +kernel) (pa_cons (pv 0) pa_nil)) (pe_gi rfl T.g_MOST_LETTERS))) (pw_or1 (pt_cmpR op_in_seq (pv 0) (pe_gr rfl T.g_TONGUE) (by rfl)))))) (pss_one (ps_ret pe_bl)) pss_nil)
    (pss_one (ps_ret (pe_callB (cr_all rfl) (by rfl) T.n_all (by decide +kernel) (pa_cons (pe_lc (own := [("sign", 1)]) (g := gName 1) rfl nd (pi_str (pv 0)) (blkOk_by (own := [("sign", 1)]) (N := N_is_name) (sc := defScope s_is_name) (by decide +kernel)) (fun _ _ _ _ _ => pg_name (i := 1) nd rfl (Or.inl rfl)) (fun _ _ _ _ _ => pts_nil) (fun _ _ _ _ _ => (pe_cmpR op_inS (pv 1) (pe_gs rfl T.g_SMALL) (by rfl)))) pa_nil))))), ?_⟩
  obtain ⟨_, z, ⟨x, rfl, hx⟩, q⟩ := h
  rcases hx with ⟨l, rfl, hl, rfl⟩ | ⟨⟨t, ht, hk⟩, rfl⟩
  · have hL : (S l).length ≤ 1000000 := by rw [S_len]; exact hl
    refine q_when (b := !true || (!(decide ((1 : Int) ≤ ((S l).length : Int)) && decide (((S l).length : Int) ≤ 8)) || decide (l ∈ tongue))) (et_or (et_not (et_B (ev_isi (ev_var rfl) (.base (.str _)) kit_ss))) fun _ => et_or (et_not (et_test (et_chain ev_c (ev_lenS (ev_var rfl) hL) ev_c))) fun _ => et_test (ev_sub (ev_op (ev_var rfl) ev_c (rv_isT (T.s_TONGUE _) rfl (flat_strs _))) (congrArg V.bl (in_tongue _ _)))) (fun hb H1 e1 => ?_) fun hb H1 e1 => ?_
    · refine s_ret ev_c fun H2 e2 => ?_
      have hn : nm l = false := by
        rw [S_len] at hb
        unfold nm
        by_cases h1 : 1 ≤ l.length
        · by_cases h2 : l.length ≤ 8
          · have h3 : l ∈ tongue := by
              simp only [Bool.not_true, Bool.false_or, Bool.or_eq_true, Bool.not_eq_true', Bool.and_eq_false_iff, decide_eq_false_iff_not, decide_eq_true_eq] at hb
              rcases hb with (z | z) | z
              · omega
              · omega
              · exact z
            simp [h3]
          · simp [h2]
        · simp [h1]
      have z := q H2 (e1.trans e2)
      rw [hn] at z
      exact z
    · refine s_ret (ev_all (el_is (bs := l.map fun c => decide (c ∈ sm)) (el_lcS (fun _ => true) (fun x => match x with | .str w => V.bl (decide (w.cps.toList.headD 0 ∈ ("abcdefghijklmnopqrstuvwxyz" : Str).cps.toList)) | _ => V.bl false) (ev_var rfl) hL (fun _ => rfl) (fun c H1 _ _ => et_yes) (fun c H1 _ _ _ => ev_op (ev_var rfl) ev_c rv_inS)) (all_in t_small))) fun H2 e2 => ?_
      have hn : (l.map fun c => decide (c ∈ sm)).all id = nm l := by
        rw [all_id]
        rw [S_len] at hb
        unfold nm
        simp only [Bool.not_true, Bool.false_or, Bool.or_eq_false_iff, Bool.not_eq_false', Bool.and_eq_true, decide_eq_false_iff_not, decide_eq_true_eq] at hb
        obtain ⟨⟨h1, h2⟩, h3⟩ := hb
        have a1 : decide (1 ≤ l.length) = true := decide_eq_true (by omega)
        have a2 : decide (l.length ≤ 8) = true := decide_eq_true (by omega)
        rw [a1, a2, decide_eq_false h3]
        rfl
      rw [hn]
      exact q H2 (e1.trans e2)
  · refine q_when (b := !false || true) (et_or (et_not (et_B (ev_isi (ev_var rfl) ht hk))) fun hb => absurd hb (by decide)) (fun hb H1 e1 => ?_) fun hb H1 e1 => absurd hb (by decide)
    exact s_ret ev_c fun H2 e2 => q H2 (e1.trans e2)
end Q
set_option maxHeartbeats 4000000
namespace Q
open PySem PySem.Spec PyProof.Rows L2 Evl
variable {D : Wd} {aT cB cT cN fI : Addr} {fdI : FuncData}
theorem dle1 (l : List Nat) : decide ((1 : Int) ≤ ((S l).length : Int)) = decide (1 ≤ l.length) := by
  rw [S_len]
  exact decide_eq_decide.mpr (by omega)
theorem dle8 (l : List Nat) (n : Nat) : decide (((S l).length : Int) ≤ (n : Int)) = decide (l.length ≤ n) := by
  rw [S_len]
  exact decide_eq_decide.mpr (by omega)
abbrev s_is_word : Stmt := top 15
abbrev N_is_word : List Str := ["thing", "sign"]
theorem sc_is_word : FnScope N_is_word ["thing"] (defScope s_is_word) := ⟨rfl, rfl, rfl, by decide +kernel, rfl, by decide +kernel, by decide +kernel⟩
theorem c_is_word (T : Tx D aT cB cT cN fI fdI) : Ca D false 1 "is_word" 1 (spF 1 (rIs D.K wd)) := by
  obtain ⟨f, fd, F, gm⟩ := T.f15
  refine ca_mk (st := s_is_word) (N := N_is_word) (ps := ["thing"]) false F gm sc_is_word (F.bindsN fun _ _ _ _ _ _ us hl => match us, hl with | [_], _ => rfl) (fun vs H Q E h => h.1) fun cdv A outer s H vs Q E hG hr h => ?_
  have nd := sc_is_word.nd
  refine ⟨_, (pss_cons (ps_if (PW.pt (pw_or (pt_not (pt_val (pe_callB call_isi (by rfl) T.n_isinstance (by decide +kernel) (pa_cons (pv 0) (pa_cons (pe_bltn (v := .ty "str") rfl T.n_str (by decide +kernel) rfl) pa_nil))))) (pw_or (pt_not (pt_chain op_le op_le pe_int (pe_callB call_lenS (by rfl) T.n_len (by decide +kernel) (pa_cons (pv 0) pa_nil)) (pe_gi rfl T.g_MOST_LETTERS))) (pw_or1 (pt_cmpR op_notInS (pe_ix ix_str (pv 0) pe_int (fun _ _ => rfl)) (pe_gs rfl T.g_GREAT) (by rfl)))))) (pss_one (ps_ret pe_bl)) pss_nil)
    (pss_one (ps_ret (pe_callB (cr_all rfl) (by rfl) T.n_all (by decide +kernel) (pa_cons (pe_lc (own := [("sign", 1)]) (g := gName 1) rfl nd (pi_str (pe_slice sl_str (pv 0) (po_some pe_int) po_none)) (blkOk_by (own := [("sign", 1)]) (N := N_is_word) (sc := defScope s_is_word) (by decide +kernel)) (fun _ _ _ _ _ => pg_name (i := 1) nd rfl (Or.inl rfl)) (fun _ _ _ _ _ => pts_nil) (fun _ _ _ _ _ => (pe_cmpR op_inS (pv 1) (pe_gs rfl T.g_SMALL) (by rfl)))) pa_nil))))), ?_⟩
  obtain ⟨_, z, ⟨x, rfl, hx⟩, q⟩ := h
  rcases hx with ⟨l, rfl, hl, rfl⟩ | ⟨⟨t, ht, hk⟩, rfl⟩
  · have hL : (S l).length ≤ 1000000 := by rw [S_len]; exact hl
    cases l with
    | nil =>
      refine q_when (b := !true || (!(decide ((1 : Int) ≤ ((S []).length : Int)) && decide (((S []).length : Int) ≤ 8)) || true)) (et_or (et_not (et_B (ev_isi (ev_var rfl) (.base (.str _)) kit_ss))) fun _ => et_or (et_not (et_test (et_chain ev_c (ev_lenS (ev_var rfl) hL) ev_c))) fun hb => absurd hb (by decide)) (fun hb H1 e1 => s_ret ev_c fun H2 e2 => q H2 (e1.trans e2)) fun hb H1 e1 => absurd hb (by decide)
    | cons c r =>
      have hw : wd (c :: r) = (!(!true || (!(decide ((1 : Int) ≤ ((S (c :: r)).length : Int)) && decide (((S (c :: r)).length : Int) ≤ ((8 : Nat) : Int))) || !decide (c ∈ gr))) && inL sm r) := by
        rw [dle1, dle8]
        unfold wd
        show (_ && _ && (decide (c ∈ gr) && true) && inL sm r) = _
        generalize decide (1 ≤ (c :: r).length) = a
        generalize decide ((c :: r).length ≤ 8) = b
        generalize decide (c ∈ gr) = d
        generalize inL sm r = e
        cases a <;> cases b <;> cases d <;> cases e <;> rfl
      have hg : ((V.bl (!decide (c ∈ ("ABCDEFGHIJKLMNOPQRSTUVWXYZ" : Str).cps.toList)))) = V.bl (!decide (c ∈ gr)) := by rw [t_great, S_tl]
      refine q_when (b := !true || (!(decide ((1 : Int) ≤ ((S (c :: r)).length : Int)) && decide (((S (c :: r)).length : Int) ≤ ((8 : Nat) : Int))) || !decide (c ∈ gr))) (et_or (et_not (et_B (ev_isi (ev_var rfl) (.base (.str _)) kit_ss))) fun _ => et_or (et_not (et_test (et_chain ev_c (ev_lenS (ev_var rfl) hL) ev_c))) fun _ => et_test (ev_sub (ev_op (ev_ixS (ev_var rfl) ev_c hL (by rw [S_tl]; exact atI_nat (i := 0) rfl)) ev_c rv_niS) hg)) (fun hb H1 e1 => ?_) fun hb H1 e1 => ?_
      · rw [hw, hb] at q
        exact s_ret ev_c fun H2 e2 => q H2 (e1.trans e2)
      · rw [hw, hb, ← all_id] at q
        refine s_ret (ev_all (el_is (bs := r.map fun c => decide (c ∈ sm)) (el_lcS (w := S r) (fun _ => true) (fun x => match x with | .str w => V.bl (decide (w.cps.toList.headD 0 ∈ ("abcdefghijklmnopqrstuvwxyz" : Str).cps.toList)) | _ => V.bl false)
          (ev_sub (ev_slS (ev_var rfl) (eo_some ev_c) eo_none hL) (congrArg V.str (cutS_from (c :: r) 1))) (Nat.le_trans (by rw [S_len, S_len]; simp) hL) (fun _ => rfl) (fun c H1 _ _ => et_yes) (fun c H1 _ _ _ => ev_op (ev_var rfl) ev_c rv_inS)) (all_in t_small))) fun H2 e2 => q H2 (e1.trans e2)
  · refine q_when (b := !false || true) (et_or (et_not (et_B (ev_isi (ev_var rfl) ht hk))) fun hb => absurd hb (by decide)) (fun hb H1 e1 => ?_) fun hb H1 e1 => absurd hb (by decide)
    exact s_ret ev_c fun H2 e2 => q H2 (e1.trans e2)
abbrev s_end_of_row : Stmt := top 16
abbrev N_end_of_row : List Str := ["text", "at", "signs", "end"]
theorem sc_end_of_row : FnScope N_end_of_row ["text", "at", "signs"] (defScope s_end_of_row) := ⟨rfl, rfl, rfl, by decide +kernel, rfl, by decide +kernel, by decide +kernel⟩
theorem run_drop {g l : List Nat} {a : Nat} (h : a < l.length) : run g (l.drop a) = if l[a] ∈ g then 1 + run g (l.drop (a + 1)) else 0 := by
  rw [List.drop_eq_getElem_cons h]
  by_cases hc : l[a] ∈ g
  · rw [if_pos hc, run_yes hc]
  · rw [if_neg hc, run_no hc]
theorem run_end {g l : List Nat} {a : Nat} (h : l.length ≤ a) : run g (l.drop a) = 0 := by
  rw [List.drop_of_length_le h]
  rfl
theorem c_end_of_row (T : Tx D aT cB cT cN fI fdI) : Ca D false 1 "end_of_row" 3 (spF 3 rEnd) := by
  obtain ⟨f, fd, F, gm⟩ := T.f16
  refine ca_mk (st := s_end_of_row) (N := N_end_of_row) (ps := ["text", "at", "signs"]) false F gm sc_end_of_row (F.bindsN fun _ _ _ _ _ _ us hl => match us, hl with | [_, _, _], _ => rfl) (fun vs H Q E h => h.1) fun cdv A outer s H vs Q E hG hr h => ?_
  have nd := sc_end_of_row.nd
  refine ⟨_, (pss_cons (ps_set (i := 3) nd rfl (Or.inl rfl) (pv 1))
    (pss_cons (ps_while (passes_of rfl) (PW.pt (pw_and (pt_cmpR op_lt (pv 3) (pe_callB call_lenS (by rfl) T.n_len (by decide +kernel) (pa_cons (pv 0) pa_nil)) (nomark _)) (pw_and1 (pt_cmpR op_inS (pe_ix ix_str (pv 0) (pv 3) (fun _ _ => rfl)) (pv 2) (by rfl))))) (pss_one (ps_aug (i := 3) nd rfl (.inl rfl) pe_int ip_add)))
    (pss_one (ps_ret (pv 3))))), ?_⟩
  obtain ⟨_, z, ⟨l, g, a, rfl, hl, ha, rfl⟩, q⟩ := h
  have hL : (S l).length ≤ 1000000 := by rw [S_len]; exact hl
  refine q_asg (ev_var rfl) fun H1 e1 => ?_
  refine q_while (fun m σ' H' => ∃ b : Nat, m = l.length - b ∧ b ≤ l.length ∧ b + run g (l.drop b) = a + run g (l.drop a) ∧ Ex H H' ∧ σ' = [some (.str (S l)), some (.int (a : Int)), some (.str (S g)), some (.int (b : Int))]) (l.length - a) ⟨a, rfl, ha, rfl, e1, rfl⟩ ?_
  rintro m σ' H' ⟨b, rfl, hb, hrun, eH, rfl⟩
  by_cases hlt : b < l.length
  · refine ⟨decide ((b : Int) < ((S l).length : Int)) && decide (l[b] ∈ (S g).cps.toList), et_and (et_test (ev_op (ev_var rfl) (ev_lenS (ev_var rfl) hL) rv_I0)) fun _ => et_test (ev_op (ev_ixS (ev_var rfl) (ev_var rfl) hL (by rw [S_tl]; exact atI_nat (List.getElem?_eq_getElem hlt))) (ev_var rfl) rv_inS), fun hb' H2 e2 => ?_, fun hb' H2 e2 => ?_⟩
    · rw [Bool.and_eq_true, S_tl] at hb'
      have hin := of_decide_eq_true hb'.2
      refine ⟨_, fun σ2 H3 n => n, ?_⟩
      refine s_aug rfl ev_c fun H3 e3 => ⟨l.length - (b + 1), by omega, b + 1, rfl, by omega, ?_, (eH.trans e2).trans e3, ?_⟩
      · rw [run_drop hlt, if_pos hin] at hrun
        omega
      · rfl
    · have hd : decide ((b : Int) < ((S l).length : Int)) = true := by rw [S_len]; exact decide_eq_true (by omega)
      rw [hd, Bool.true_and, S_tl] at hb'
      have hin := of_decide_eq_false hb'
      rw [run_drop hlt, if_neg hin] at hrun
      refine s_ret (ev_var rfl) fun H3 e3 => ?_
      have z := q H3 ((eH.trans e2).trans e3)
      rw [← hrun] at z
      exact z
  · refine ⟨decide ((b : Int) < ((S l).length : Int)) && false, et_and (et_test (ev_op (ev_var rfl) (ev_lenS (ev_var rfl) hL) rv_I0)) fun hd => ?_, fun hb' H2 e2 => ?_, fun hb' H2 e2 => ?_⟩
    · rw [S_len] at hd
      have := of_decide_eq_true hd
      omega
    · rw [Bool.and_false] at hb'
      cases hb'
    · rw [run_end (by omega)] at hrun
      refine s_ret (ev_var rfl) fun H3 e3 => ?_
      have z := q H3 ((eH.trans e2).trans e3)
      rw [← hrun] at z
      exact z
end Q
set_option maxHeartbeats 4000000
namespace Q
open PySem PySem.Spec PyProof.Rows L2 Evl
variable {D : Wd} {aT cB cT cN fI : Addr} {fdI : FuncData}
/-- raise BadText(at) -/
def RaT (cT : Addr) (v : V) (H : Hp) (E : XK) : Prop := ∀ H2 d, Ex H H2 → H2 d = none → E (.ref cT) (some d) (upd H2 d (.xd [("at", v)]))
theorem s_raiseT {ta : TA} {σ : L2.St} {H : Hp} {C : Addr} {v : V} {Q : XK} (h : EvA ta σ H [v]) (k : RaT C v H Q) : tMkO C (spIni C "at") [] ta σ H Q := h H (Ex.refl H) _ fun H1 e1 => ⟨(by decide : (1 : Nat) ≤ 1000), fun a ha => ⟨a, v, rfl, upd_same, fun dx hd hne => by
  have hd1 : H1 dx = none := by rw [upd_ne hne] at hd; exact hd
  refine ⟨rfl, dx, [("at", v)], upd_same, ?_, hd1, ?_⟩
  · rw [upd_ne hne]
    exact upd_same
  · have e : upd (del (upd (upd (upd H1 a (exo a C none)) dx (exd dx [("at", v)])) a (exo a C (some dx))) a) dx (.xd [("at", v)]) = upd H1 dx (.xd [("at", v)]) := by
      funext b
      by_cases hb : b = dx
      · subst hb
        rw [upd_same, upd_same]
      · rw [upd_ne hb, upd_ne hb]
        by_cases hba : b = a
        · subst hba
          rw [del_same, ha]
        · rw [del_ne hba, upd_ne hba, upd_ne hb, upd_ne hba]
    rw [e]
    exact k H1 dx e1 hd1⟩⟩
/-- token_at -/
def spTok (cT : Addr) : Sp := fun vs H Q E => vs.length = 2 ∧ ∃ (l : List Nat) (a : Nat), vs = [.str (S l), .int (a : Int)] ∧ l.length ≤ 100000 ∧ a < l.length ∧ match tok1 (l.drop a) with
  | some r => ∀ H2, Ex H H2 → Q (.str (S r)) H2
  | none => RaT cT (.int (a : Int)) H E
abbrev s_token_at : Stmt := top 17
abbrev N_token_at : List Str := ["text", "at", "sign", "row"]
theorem sc_token_at : FnScope N_token_at ["text", "at"] (defScope s_token_at) := ⟨rfl, rfl, rfl, by decide +kernel, rfl, by decide +kernel, by decide +kernel⟩
theorem t_lets : ("abcdefghijklmnopqrstuvwxyz" : Str) ++ ("ABCDEFGHIJKLMNOPQRSTUVWXYZ" : Str) = S lt := by
  rw [t_small, t_great]
  exact SX.S_cat sm gr
theorem t_eq1 : ("=" : Str) = S [61] := by decide +kernel
theorem t_eq2 : ("==" : Str) = S [61, 61] := by decide +kernel
theorem t_0 : ("0" : Str) = S [48] := by decide +kernel
theorem dec_S (a b : List Nat) : decide (V.str (S a) = V.str (S b)) = decide (a = b) := decide_eq_decide.mpr ⟨fun h => SX.S_inj (V.str.inj h), fun h => by rw [h]⟩
theorem c_token_at (T : Tx D aT cB cT cN fI fdI) : Ca D false 2 "token_at" 2 (spTok cT) := by
  have c_end_of_row := c_end_of_row T
  have c_is_name := c_is_name T
  have c_is_word := c_is_word T
  obtain ⟨f, fd, F, gm⟩ := T.f17
  refine ca_mk (st := s_token_at) (N := N_token_at) (ps := ["text", "at"]) false F gm sc_token_at (F.bindsN fun _ _ _ _ _ _ us hl => match us, hl with | [_, _], _ => rfl) (fun vs H Q E h => h.1) fun cdv A outer s H vs Q E hG hr h => ?_
  have nd := sc_token_at.nd
  refine ⟨_, (pss_cons (ps_set (i := 2) nd rfl (Or.inl rfl) (pe_ix ix_str (pv 0) (pv 1) (fun _ _ => rfl)))
    (pss_cons (ps_if (pt_cmpR op_inS (pv 2) (pe_gs rfl T.g_SINGLE) (by rfl)) (pss_one (ps_ret (pv 2))) pss_nil)
    (pss_cons (ps_if (pt_cmpR op_eq (pv 2) pe_str (nomark _)) (pss_one (ps_ret (pe_ifExp (pt_cmpR op_eq (pe_slice sl_str (pv 0) (po_some (pv 1)) (po_some (pe_op op_add (pv 1) pe_int))) pe_str (nomark _)) pe_str pe_str))) pss_nil)
    (Evl.pss_cut (ps_if (pt_cmpR op_inS (pv 2) (pe_gs rfl T.g_FIGURES) (by rfl)) (pss_cons (ps_set (i := 3) nd rfl (Or.inl rfl) (pe_slice sl_str (pv 0) (po_some (pv 1)) (po_some (pe_ca c_end_of_row (fun z => nomatch z) hr (by decide) passL rfl (pa_cons (pv 0) (pa_cons (pv 1) (pa_cons (pe_gs rfl T.g_FIGURES) pa_nil)))))))
      (pss_one (ps_if (PW.pt (pw_and (pt_cmpR op_le (pe_callB call_lenS (by rfl) T.n_len (by decide +kernel) (pa_cons (pv 3) pa_nil)) (pe_gi rfl T.g_MOST_FIGURES) (nomark _)) (pw_and1 (PW.pt (pw_or (pt_cmpR op_eq (pv 3) pe_str (nomark _)) (pw_or1 (pt_cmpR op_ne (pe_ix ix_str (pv 3) pe_int (fun _ _ => rfl)) pe_str (nomark _)))))))) (pss_one (ps_ret (pv 3))) pss_nil))) pss_nil)
    (pss_cons (ps_set (i := 3) nd rfl (Or.inl rfl) (pe_slice sl_str (pv 0) (po_some (pv 1)) (po_some (pe_ca c_end_of_row (fun z => nomatch z) hr (by decide) passL rfl (pa_cons (pv 0) (pa_cons (pv 1) (pa_cons (pe_op op_addS (pe_gs rfl T.g_SMALL) (pe_gs rfl T.g_GREAT)) pa_nil)))))))
    (pss_cons (ps_if (PW.pt (pw_or (pt_val (pe_ca c_is_name (fun z => nomatch z) hr (by decide) passL rfl (pa_cons (pv 3) pa_nil))) (pw_or (pt_val (pe_ca c_is_word (fun z => nomatch z) hr (by decide) passL rfl (pa_cons (pv 3) pa_nil))) (pw_or1 (pt_cmpR op_in_seq (pv 3) (pe_gr rfl T.g_TONGUE) (by rfl)))))) (pss_one (ps_ret (pv 3))) pss_nil)
    (pss_one (ps_raise rfl (takes_of rfl rfl rfl rfl) (pmk_oex T.oT T.iT T.tI (ini_ok (k := 0) T.ini) (hr.mono (by decide)) T.bI .nil passL rfl T.g_BadText (pa_cons (pv 1) pa_nil)))))))))), ?_⟩
  obtain ⟨_, l, a, rfl, hl, ha, q⟩ := h
  have hL : (S l).length ≤ 1000000 := by rw [S_len]; omega
  have hs : l.drop a = l[a] :: l.drop (a + 1) := List.drop_eq_getElem_cons ha
  have hlen : ∀ n, ((l.drop a).take n).length ≤ 1000000 := fun n => by rw [List.length_take, List.length_drop]; omega
  have hcut : ∀ n : Nat, cutS (S l) (some (a : Int)) (some ((a + n : Nat) : Int)) = S ((l.drop a).take n) := fun n => by rw [cutS_nat, show a + n - a = n by omega]
  have hend : ∀ (g : List Nat) H1, SpV (spF 3 rEnd) [.str (S l), .int (a : Int), .str (S g)] H1 (.int ((a + run g (l.drop a) : Nat) : Int)) := fun g H1 => spF_v rfl fun H2 _ => ⟨l, g, a, rfl, by omega, by omega, rfl⟩
  rw [hs] at q hcut hlen
  generalize hc : l[a] = c at q hcut hlen hs
  generalize ht : l.drop (a + 1) = t at q hcut hlen hs
  rw [hs] at hend
  rw [tok1_cons] at q
  have hat : atI (S l).cps.toList (a : Int) = some c := by rw [S_tl]; exact atI_nat (by rw [List.getElem?_eq_getElem ha, hc])
  refine q_asg (ev_ixS (ev_var rfl) (ev_var rfl) hL hat) fun H1 e1 => ?_
  refine q_when (b := decide (c ∈ sg)) (et_test (ev_sub (ev_op (ev_var rfl) ev_c rv_inS) (by rw [t_sing, S_tl]))) (fun hb H2 e2 => ?_) fun hb H2 e2 => ?_
  · rw [if_pos (of_decide_eq_true hb)] at q
    exact s_ret (ev_var rfl) fun H3 e3 => q H3 ((e1.trans e2).trans e3)
  rw [if_neg (of_decide_eq_false hb)] at q
  refine q_when (b := decide (c = 61)) (et_test (ev_sub (ev_op (ev_var rfl) ev_c (rv_eq rfl)) (by rw [t_eq1, sgn, dec_S]; simp))) (fun hb H3 e3 => ?_) fun hb H3 e3 => ?_
  · have h61 := of_decide_eq_true hb
    subst h61
    rw [if_pos rfl] at q
    refine s_ret (v := .str (S (if t.take 1 = [61] then [61, 61] else [61]))) (ev_if (b := decide (t.take 1 = [61])) (et_test (ev_sub (ev_op (ev_slS (ev_var rfl) (eo_some (ev_var rfl)) (eo_some (ev_op (ev_var rfl) ev_c rv_I0)) hL) ev_c (rv_eq rfl)) ?_)) (fun hb2 => ev_sub ev_c ?_) fun hb2 => ev_sub ev_c ?_) fun H4 e4 => q H4 (((e1.trans e2).trans e3).trans e4)
    · rw [show ((a : Int) + 2) = ((a + 2 : Nat) : Int) from rfl, hcut 2, t_eq2, dec_S]
      simp
    · rw [if_pos (of_decide_eq_true hb2), t_eq2]
    · rw [if_neg (of_decide_eq_false hb2), t_eq1]
  rw [if_neg (of_decide_eq_false hb)] at q
  refine q_cut (M := fun σ' H' => ∃ v3, σ' = [some (.str (S l)), some (.int (a : Int)), some (.str ⟨#[c]⟩), v3] ∧ Ex H H' ∧ ¬ (c ∈ fg ∧ gn ((c :: t).take (run fg (c :: t))) = true)) ?_ ?_
  · refine s_when (b := decide (c ∈ fg)) (et_test (ev_sub (ev_op (ev_var rfl) ev_c rv_inS) (by rw [t_fig, S_tl]))) (fun hb2 H4 e4 => ?_) fun hb2 H4 e4 => ⟨_, rfl, ((e1.trans e2).trans e3).trans e4, fun z => of_decide_eq_false hb2 z.1⟩
    have hf := of_decide_eq_true hb2
    have hrow : cutS (S l) (some (a : Int)) (some ((a + run fg (c :: t) : Nat) : Int)) = S ((c :: t).take (run fg (c :: t))) := hcut _
    refine q_asg (ev_sub (ev_slS (ev_var rfl) (eo_some (ev_var rfl)) (eo_some (ev_ca (ea_cons (ev_var rfl) (ea_cons (ev_var rfl) (ea_cons ev_c ea_nil))) (by rw [t_fig]; exact hend fg H4))) hL) (congrArg V.str hrow)) fun H5 e5 => ?_
    have hR := hlen (run fg (c :: t))
    have hR' : (S ((c :: t).take (run fg (c :: t)))).length ≤ 1000000 := by rw [S_len]; exact hR
    have hne : ∃ r', (c :: t).take (run fg (c :: t)) = c :: r' := by
      rw [run_yes hf, Nat.add_comm, List.take_succ_cons]
      exact ⟨_, rfl⟩
    generalize hrr : (c :: t).take (run fg (c :: t)) = row at hR' hne q
    obtain ⟨r', rfl⟩ := hne
    have hg : (decide (((S (c :: r')).length : Int) ≤ ((9 : Nat) : Int)) && (decide (c :: r' = [48]) || !decide (c = 48))) = gn (c :: r') := by
      rw [dle8]
      unfold gn
      have e : decide (c = 48) = decide (List.take 1 (c :: r') = [48]) := decide_eq_decide.mpr (by simp)
      rw [e]
    refine s_when (b := gn (c :: r')) (et_is (et_and (et_test (ev_op (ev_lenS (ev_var rfl) hR') ev_c rv_I0)) fun _ => et_or (et_test (ev_sub (ev_op (ev_var rfl) ev_c (rv_eq rfl)) (by rw [t_0, dec_S]))) fun _ => et_test (ev_sub (ev_op (ev_ixS (ev_var rfl) ev_c hR' (by rw [S_tl]; exact atI_nat (i := 0) rfl)) ev_c (rv_ne rfl)) (by rw [t_0, sgn, dec_S]; simp))) hg) (fun hb3 H6 e6 => ?_) fun hb3 H6 e6 => ⟨_, rfl, ((((e1.trans e2).trans e3).trans e4).trans e5).trans e6, fun z => by rw [z.2] at hb3; cases hb3⟩
    rw [if_pos ⟨hf, hb3⟩] at q
    exact s_ret (ev_var rfl) fun H7 e7 => q H7 ((((((e1.trans e2).trans e3).trans e4).trans e5).trans e6).trans e7)
  · rintro σ' H4 ⟨v3, rfl, e4, hno⟩
    rw [if_neg hno] at q
    have hrow : cutS (S l) (some (a : Int)) (some ((a + run lt (c :: t) : Nat) : Int)) = S ((c :: t).take (run lt (c :: t))) := hcut _
    refine q_asg (ev_sub (ev_slS (ev_var rfl) (eo_some (ev_var rfl)) (eo_some (ev_ca (ea_cons (ev_var rfl) (ea_cons (ev_var rfl) (ea_cons (ev_sub (ev_op ev_c ev_c (rv_addS (by decide))) (congrArg V.str t_lets)) ea_nil))) (hend lt H4))) hL) (congrArg V.str hrow)) fun H5 e5 => ?_
    have hR := hlen (run lt (c :: t))
    generalize hrr : (c :: t).take (run lt (c :: t)) = row at hR q
    have call : ∀ (p : List Nat → Bool) H6, SpV (spF 1 (rIs D.K p)) [.str (S row)] H6 (.bl (p row)) := fun p H6 => spF_v rfl fun H7 _ => ⟨_, rfl, .inl ⟨row, rfl, hR, rfl⟩⟩
    refine q_when (b := nm row || (wd row || decide (row ∈ tongue))) (et_or (et_B (ev_ca (ea_cons (ev_var rfl) ea_nil) (call nm _))) fun _ => et_or (et_B (ev_ca (ea_cons (ev_var rfl) ea_nil) (call wd _))) fun _ => et_test (ev_sub (ev_op (ev_var rfl) ev_c (rv_isT (T.s_TONGUE _) rfl (flat_strs _))) (congrArg V.bl (in_tongue _ _)))) (fun hb2 H6 e6 => ?_) fun hb2 H6 e6 => ?_
    · rw [if_pos hb2] at q
      exact s_ret (ev_var rfl) fun H7 e7 => q H7 (((e4.trans e5).trans e6).trans e7)
    · rw [if_neg (by rw [hb2]; decide)] at q
      exact s_raiseT (ea_cons (ev_var rfl) ea_nil) fun H7 d e7 hd => q H7 d (((e4.trans e5).trans e6).trans e7) hd
end Q
set_option maxHeartbeats 4000000
namespace Q
open PySem PySem.Spec PyProof.Rows L2 Evl
variable {D : Wd} {aT cB cT cN fI : Addr} {fdI : FuncData}
section
variable {K : PySem.W.Frag} {σ : L2.St} {H H' : Hp} {ta tb te : TE} {D : Ends} {tz : TS} {v w : V} {i j : Nat}
theorem q_asgX {sp : Sp} {E : XK} {t : TA} {vs : List V} (h : EvA t σ H vs) (k : ∀ H1, Ex H H1 → sp vs H1 (fun v H2 => tz D (σ.set i (some v)) H2) E) : tSeq (tAsg (tCa sp E t) (gName i)) tz D σ H := h H (Ex.refl H) _ k
theorem s_retX {sp : Sp} {E : XK} {t : TA} {vs : List V} (h : EvA t σ H vs) (k : ∀ H1, Ex H H1 → sp vs H1 D.rt E) : tRet (tCa sp E t) D σ H := h H (Ex.refl H) _ k
theorem q_parL {xs : List V} (h : EvL ta σ H xs) (h2 : ∀ H1, Ex H H1 → Ev tb σ H1 w) (k : ∀ p H1, H p = none → Ex H H1 → H1 p = some (.lst xs) → tz D ((σ.set i (some (.ref p))).set j (some w)) H1) : tSeq (tPar i j (tCons ta (tCons tb tNil))) tz D σ H :=
  h H (Ex.refl H) _ fun p H1 hp e1 h1 => h2 H1 e1 H1 (Ex.refl H1) _ fun H2 e2 => ⟨.ref p, w, rfl, k p H2 hp (e1.trans e2) (e2 _ _ h1)⟩
theorem q_parV {t : TA} (h : EvA t σ H [v, w]) (k : ∀ H1, Ex H H1 → tz D ((σ.set i (some v)).set j (some w)) H1) : tSeq (tPar i j t) tz D σ H := h H (Ex.refl H) _ fun H1 e1 => ⟨v, w, rfl, k H1 e1⟩
theorem s_parV {t : TA} (h : EvA t σ H [v, w]) (k : ∀ H1, Ex H H1 → D.nx ((σ.set i (some v)).set j (some w)) H1) : tPar i j t D σ H := h H (Ex.refl H) _ fun H1 e1 => ⟨v, w, rfl, k H1 e1⟩
theorem el_nil : EvL (tLst tNil) σ H [] := el_lst ea_nil (by decide)
end
/-- values that are rows with their places -/
def TokV (H : Hp) : List V → List (List Nat × Nat) → Prop
  | [], [] => True
  | v :: vs, r :: rs => (∃ a, v = .ref a ∧ H a = some (.tup [.str (S r.1), .int (r.2 : Int)])) ∧ TokV H vs rs
  | _, _ => False
theorem TokV.mono {H H' : Hp} (h : ∀ a xs, H a = some (.tup xs) → H' a = some (.tup xs)) : ∀ {vs : List V} {rs : List (List Nat × Nat)}, TokV H vs rs → TokV H' vs rs
  | [], [], _ => trivial
  | v :: vs, r :: rs, ⟨⟨a, e, q⟩, t⟩ => ⟨⟨a, e, h _ _ q⟩, TokV.mono h t⟩
theorem TokV.len {H : Hp} : ∀ {vs : List V} {rs : List (List Nat × Nat)}, TokV H vs rs → vs.length = rs.length
  | [], [], _ => rfl
  | _ :: vs, _ :: rs, ⟨_, t⟩ => congrArg (· + 1) (TokV.len t)
theorem TokV.snoc {H : Hp} {a : Addr} {r : List Nat × Nat} (h : H a = some (.tup [.str (S r.1), .int (r.2 : Int)])) : ∀ {vs : List V} {rs : List (List Nat × Nat)}, TokV H vs rs → TokV H (vs ++ [.ref a]) (rs ++ [r])
  | [], [], _ => ⟨⟨a, rfl, h⟩, trivial⟩
  | _ :: vs, _ :: rs, ⟨q, t⟩ => ⟨q, TokV.snoc h t⟩
theorem tup_upd {H : Hp} {p : Addr} {vs ws : List V} (hp : H p = some (.lst vs)) : ∀ a xs, H a = some (.tup xs) → upd H p (.lst ws) a = some (.tup xs) := fun a xs h => by
  rw [upd_ne (ne_of h hp (by simp))]
  exact h
def spToks (K : PySem.W.Frag) (cT : Addr) : Sp := fun vs H Q E => vs.length = 1 ∧ ∃ x, vs = [x] ∧
  ((∃ l R, x = .str (S l) ∧ l.length ≤ 100000 ∧ Rws l 0 R ∧ (40000 < l.length → RaT cT (.int 0) H E) ∧
    (l.length ≤ 40000 → ((∀ p ∈ R, ltk p.1 = true) → ∀ p H2 ws, H p = none → Ex H H2 → H2 p = some (.lst ws) → TokV H2 ws R → Q (.ref p) H2) ∧
      ∀ pre row at_ post, R = pre ++ (row, at_) :: post → (∀ p ∈ pre, ltk p.1 = true) → ltk row = false → RaT cT (.int ((at_ : Nat) : Int)) H E)) ∨
   ((∃ t, TyX K H x t ∧ PySem.W.kitOne K t (.type "str") = some false) ∧ RaT cT (.int 0) H E))
abbrev s_tokens_of : Stmt := top 18
abbrev N_tokens_of : List Str := ["text", "found", "at", "token"]
theorem sc_tokens_of : FnScope N_tokens_of ["text"] (defScope s_tokens_of) := ⟨rfl, rfl, rfl, by decide +kernel, rfl, by decide +kernel, by decide +kernel⟩
theorem t_blank : (" \n" : Str) = S [32, 10] := by decide +kernel
theorem dlt (n m : Nat) : decide ((n : Int) < (m : Int)) = decide (n < m) := decide_eq_decide.mpr (by omega)
theorem rws_inv {c : Nat} {t : List Nat} {a : Nat} {r : List (List Nat × Nat)} (h : Rws (c :: t) a r) : (blank c ∧ Rws t (a + 1) r) ∨ (¬ blank c ∧ ∃ r', r = ((c :: t).take (rlen (c :: t)), a) :: r' ∧ Rws ((c :: t).drop (rlen (c :: t))) (a + rlen (c :: t)) r') := by
  cases h with
  | skip b h => exact .inl ⟨b, h⟩
  | row b h => exact .inr ⟨b, _, rfl, h⟩
theorem c_tokens_of (T : Tx D aT cB cT cN fI fdI) : Ca D false 3 "tokens_of" 1 (spToks D.K cT) := by
  have c_token_at := c_token_at T
  obtain ⟨f, fd, F, gm⟩ := T.f18
  refine ca_mk (st := s_tokens_of) (N := N_tokens_of) (ps := ["text"]) false F gm sc_tokens_of (F.bindsN fun _ _ _ _ _ _ us hl => match us, hl with | [_], _ => rfl) (fun vs H Q E h => h.1) fun cdv A outer s H vs Q E hG hr h => ?_
  have nd := sc_tokens_of.nd
  refine ⟨_, (pss_cons (ps_if (PW.pt (pw_or (pt_not (pt_val (pe_callB call_isi (by rfl) T.n_isinstance (by decide +kernel) (pa_cons (pv 0) (pa_cons (pe_bltn (v := .ty "str") rfl T.n_str (by decide +kernel) rfl) pa_nil))))) (pw_or1 (pt_cmpR op_gt (pe_callB call_lenS (by rfl) T.n_len (by decide +kernel) (pa_cons (pv 0) pa_nil)) (pe_gi rfl T.g_MOST_SIGNS) (nomark _))))) (pss_one (ps_raise rfl (takes_of rfl rfl rfl rfl) (pmk_oex T.oT T.iT T.tI (ini_ok (k := 0) T.ini) (hr.mono (by decide)) T.bI .nil passL rfl T.g_BadText (pa_cons pe_int pa_nil)))) pss_nil)
    (pss_cons (ps_par (i := 1) (j := 2) (by rfl) nd rfl rfl (by decide) rfl rfl (pa_cons (pe_lst pa_nil) (pa_cons pe_int pa_nil)) (by rfl))
    (pss_cons (ps_while (passes_of rfl) (pt_cmpR op_lt (pv 2) (pe_callB call_lenS (by rfl) T.n_len (by decide +kernel) (pa_cons (pv 0) pa_nil)) (nomark _)) (pss_one (ps_if (pt_cmpR op_inS (pe_ix ix_str (pv 0) (pv 2) (fun _ _ => rfl)) pe_str (by rfl)) (pss_one (ps_aug (i := 2) nd rfl (.inl rfl) pe_int ip_add)) (pss_cons (ps_set (i := 3) nd rfl (Or.inl rfl) (pe_ca c_token_at (fun z => nomatch z) hr (by decide) (passes_call (takes_of rfl rfl rfl rfl) fun _ _ _ _ h => h) rfl (pa_cons (pv 0) (pa_cons (pv 2) pa_nil))))
        (pss_cons (ps_expr (pe_bm PySem.F.plainAttrs_list PySem.F.slot_list_append PySem.F.type_list_append mt_append (pv 1) (pa_cons (pe_tup (pa_cons (pv 3) (pa_cons (pv 2) pa_nil))) pa_nil)))
        (pss_one (ps_aug (i := 2) nd rfl (.inl rfl) (pe_callB call_lenS (by rfl) T.n_len (by decide +kernel) (pa_cons (pv 3) pa_nil)) ip_add)))))))
    (pss_one (ps_ret (pv 1)))))), ?_⟩
  obtain ⟨_, x, rfl, hx⟩ := h
  rcases hx with ⟨l, R, rfl, hl, hR, qbig, qsmall⟩ | ⟨⟨t, ht, hk⟩, q⟩
  · have hL : (S l).length ≤ 1000000 := by rw [S_len]; omega
    refine q_when (b := !true || decide (40000 < l.length)) (et_or (et_not (et_B (ev_isi (ev_var rfl) (.base (.str _)) kit_ss))) fun _ => et_test (ev_sub (ev_op (ev_lenS (ev_var rfl) hL) ev_c rv_I0) (by rw [S_len]; exact congrArg V.bl (dlt 40000 l.length)))) (fun hb H1 e1 => ?_) fun hb H1 e1 => ?_
    · have hb' : 40000 < l.length := of_decide_eq_true (by simpa using hb)
      exact s_raiseT (ea_cons ev_c ea_nil) fun H2 d e2 hd => qbig hb' H2 d (e1.trans e2) hd
    have hs : l.length ≤ 40000 := by
      have z : decide (40000 < l.length) = false := by simpa using hb
      have := of_decide_eq_false z
      omega
    obtain ⟨qok, qbad⟩ := qsmall hs
    refine q_parL el_nil (fun H2 _ => ev_c) fun p H2 hp e2 hlp => ?_
    have np : H p = none := fresh_back e1 hp
    refine q_while (fun m σ' H' => ∃ (a : Nat) (v3 : Option V) (ws : List V) (done rest : List (List Nat × Nat)), m = l.length - a ∧ a ≤ l.length ∧ Rws (l.drop a) a rest ∧ R = done ++ rest ∧ (∀ p ∈ done, ltk p.1 = true) ∧ H' p = some (.lst ws) ∧ TokV H' ws done ∧ Ex H H' ∧
      σ' = [some (.str (S l)), some (.ref p), some (.int (a : Int)), v3]) (l.length - 0) ⟨0, none, [], [], R, rfl, Nat.zero_le _, hR, rfl, fun _ z => (by cases z), hlp, trivial, e1.trans e2, rfl⟩ ?_
    rintro m σ' H' ⟨a, v3, ws, done, rest, rfl, ha, hrest, hRe, hdone, hp', htv, eH, rfl⟩
    have hsz : done.length ≤ 40000 := by
      have := (rws_size hR).2.1
      rw [hRe, List.length_append] at this
      omega
    refine ⟨decide ((a : Int) < ((S l).length : Int)), et_test (ev_op (ev_var rfl) (ev_lenS (ev_var rfl) hL) rv_I0), fun hb' H3 e3 => ?_, fun hb' H3 e3 => ?_⟩
    · have hlt : a < l.length := by rw [S_len] at hb'; have := of_decide_eq_true hb'; omega
      have hs' : l.drop a = l[a] :: l.drop (a + 1) := List.drop_eq_getElem_cons hlt
      have hat : atI (S l).cps.toList (a : Int) = some l[a] := by rw [S_tl]; exact atI_nat (List.getElem?_eq_getElem hlt)
      rw [hs'] at hrest
      refine ⟨_, fun σ2 H4 n => n, ?_⟩
      refine s_if (b := decide (l[a] ∈ [32, 10])) (et_test (ev_sub (ev_op (ev_ixS (ev_var rfl) (ev_var rfl) hL hat) ev_c rv_inS) (by rw [t_blank, S_tl]))) (fun hbl H4 e4 => ?_) fun hbl H4 e4 => ?_
      · have hbk : blank l[a] := by
          have z := of_decide_eq_true hbl
          simpa using z
        rcases rws_inv hrest with ⟨_, h2⟩ | ⟨nb, _⟩
        · refine s_aug rfl ev_c fun H5 e5 => ?_
          have e := (e3.trans e4).trans e5
          exact ⟨_, by omega, a + 1, v3, ws, done, rest, rfl, hlt, h2, hRe, hdone, e _ _ hp', htv.mono fun b xs z => e _ _ z, eH.trans e, rfl⟩
        · exact absurd hbk nb
      · have nbk : ¬ blank l[a] := fun z => of_decide_eq_false hbl (by simpa using z)
        rcases rws_inv hrest with ⟨z, _⟩ | ⟨_, rest', hre, h2⟩
        · exact absurd z nbk
        have hlaw := tok_law l[a] (l.drop (a + 1))
        have hk := rlen_pos l[a] (l.drop (a + 1))
        have hk2 := rlen_le (l[a] :: l.drop (a + 1))
        rw [← hs'] at hlaw hre h2 hk hk2
        rw [List.length_drop] at hk2
        have hrl : ((l.drop a).take (rlen (l.drop a))).length = rlen (l.drop a) := by rw [List.length_take, List.length_drop]; omega
        refine q_asgX (ea_cons (ev_var rfl) (ea_cons (ev_var rfl) ea_nil)) fun H5 e5 => ⟨rfl, l, a, rfl, by omega, hlt, ?_⟩
        rw [hlaw]
        have e35 := (e3.trans e4).trans e5
        by_cases hkk : ltk ((l.drop a).take (rlen (l.drop a))) = true
        · rw [if_pos hkk]
          show ∀ H2, Ex H5 H2 → _
          intro H6 e6
          have e36 := e35.trans e6
          refine q_appU (e36 _ _ hp') (ev_var rfl) (eu_tup (ea_cons (ev_var rfl) (ea_cons (ev_var rfl) ea_nil)) (by simp)) (by rw [htv.len]; omega) fun q H7 hq e7 hq7 => ?_
          have hp7 := e7 _ _ (e36 _ _ hp')
          refine s_aug rfl (ev_lenS (ev_var rfl) (by rw [S_len, hrl]; omega)) fun H8 e8 => ?_
          have eU : Ex H H8 := Ex.trans (Ex.mut ((eH.trans e36).trans e7) np) e8
          refine ⟨_, by omega, a + rlen (l.drop a), some (.str (S ((l.drop a).take (rlen (l.drop a))))), ws ++ [.ref q], done ++ [((l.drop a).take (rlen (l.drop a)), a)], rest', rfl, by omega, ?_, ?_, ?_, e8 _ _ upd_same, ?_, eU, ?_⟩
          · rw [List.drop_drop] at h2
            exact h2
          · rw [hRe, hre, List.append_assoc]
            rfl
          · intro r hr'
            rcases List.mem_append.mp hr' with z | z
            · exact hdone r z
            · rw [List.mem_singleton.mp z]
              exact hkk
          · refine TokV.mono (fun b xs z => e8 _ _ z) ?_
            refine TokV.mono (tup_upd hp7) ?_
            exact TokV.snoc hq7 (htv.mono fun b xs z => e7 _ _ (e36 _ _ z))
          · show List.set _ _ _ = _
            rw [S_len, hrl]
            rfl
        · rw [if_neg hkk]
          have hf : ltk ((l.drop a).take (rlen (l.drop a))) = false := by simpa using hkk
          exact fun H6 d e6 hd => qbad done _ a rest' (by rw [hRe, hre]) hdone hf H6 d ((eH.trans e35).trans e6) hd
    · have hge : l.length ≤ a := by rw [S_len] at hb'; have := of_decide_eq_false hb'; omega
      rw [List.drop_of_length_le hge] at hrest
      cases hrest
      rw [List.append_nil] at hRe
      subst hRe
      refine s_ret (ev_var rfl) fun H4 e4 => ?_
      have e := e3.trans e4
      exact qok hdone p H4 ws np (eH.trans e) (e _ _ hp') (htv.mono fun b xs z => e _ _ z)
  · refine q_when (b := !false || true) (et_or (et_not (et_B (ev_isi (ev_var rfl) ht hk))) fun hb => absurd hb (by decide)) (fun hb H1 e1 => ?_) fun hb H1 e1 => absurd hb (by decide)
    exact s_raiseT (ea_cons ev_c ea_nil) fun H2 d e2 hd => q H2 d (e1.trans e2) hd
end Q
set_option maxHeartbeats 4000000
namespace Q
open PySem PySem.Spec PyProof.Rows L2 Evl
variable {D : Wd} {aT cB cT cN fI : Addr} {fdI : FuncData}
theorem ev_idx {K : PySem.W.Frag} {σ : L2.St} {H : Hp} {ta tb : TE} {a b : Str} {k : Nat} (ha : Ev ta σ H (.str a)) (hb : Ev tb σ H (.str b)) (h : Txt.index0 a b = some k) : Ev (tBM K "str" rIdx ta (tCons tb tNil)) σ H (.int (k : Int)) := fun H1 e Q q =>
  ha H1 e _ fun H2 e2 => ⟨rfl, hb H2 (e.trans e2) _ fun H3 e3 => ⟨a, b, k, rfl, rfl, h, q H3 (e2.trans e3)⟩⟩
abbrev rNext : Hp → List V → V → Prop := fun _ vs z => ∃ w, vs = [.str (S w)] ∧ w.length ≤ 100 ∧ inL sm w = true ∧ z = .str (S (nxt w))
theorem idx_sm : ∀ c ∈ sm, c ≠ 122 → Txt.index0 (S sm) (S [c]) = some (c - 97) ∧ sm[c - 97 + 1]? = some (c + 1) := by decide +kernel
theorem t_z : ("z" : Str) = S [122] := by decide +kernel
theorem t_a : ("a" : Str) = S [97] := by decide +kernel
theorem t_e : ("" : Str) = S [] := by decide +kernel
abbrev s_next_word : Stmt := top 19
abbrev N_next_word : List Str := ["word", "left", "tail"]
theorem sc_next_word : FnScope N_next_word ["word"] (defScope s_next_word) := ⟨rfl, rfl, rfl, by decide +kernel, rfl, by decide +kernel, by decide +kernel⟩
theorem c_next_word (T : Tx D aT cB cT cN fI fdI) : Ca D false 1 "next_word" 1 (spF 1 rNext) := by
  obtain ⟨f, fd, F, gm⟩ := T.f19
  refine ca_mk (st := s_next_word) (N := N_next_word) (ps := ["word"]) false F gm sc_next_word (F.bindsN fun _ _ _ _ _ _ us hl => match us, hl with | [_], _ => rfl) (fun vs H Q E h => h.1) fun cdv A outer s H vs Q E hG hr h => ?_
  have nd := sc_next_word.nd
  refine ⟨_, (pss_cons (ps_par (i := 1) (j := 2) (by rfl) nd rfl rfl (by decide) rfl rfl (pa_cons (pv 0) (pa_cons pe_str pa_nil)) (by rfl))
    (pss_cons (ps_while (passes_of rfl) (PW.pt (pw_and (pt_cmpR op_ne (pv 1) pe_str (nomark _)) (pw_and1 (pt_cmpR op_eq (pe_ix ix_str (pv 1) (pe_un un_neg pe_int) (fun _ _ => rfl)) pe_str (nomark _))))) (pss_one (ps_par (i := 1) (j := 2) (by rfl) nd rfl rfl (by decide) rfl rfl (pa_cons (pe_slice sl_str (pv 1) po_none (po_some (pe_un un_neg pe_int))) (pa_cons (pe_op op_addS (pv 2) pe_str) pa_nil)) (by rfl))))
    (pss_cons (ps_if (pt_cmpR op_eq (pv 1) pe_str (nomark _)) (pss_one (ps_ret (pe_op op_addS (pv 2) pe_str))) pss_nil)
    (pss_one (ps_ret (pe_op op_addS (pe_op op_addS (pe_slice sl_str (pv 1) po_none (po_some (pe_un un_neg pe_int))) (pe_ix ix_str (pe_gs rfl T.g_SMALL) (pe_op op_add (pe_bm PySem.F.plainAttrs_str PySem.F.slot_str_index PySem.F.type_str_index mt_idx (pe_gs rfl T.g_SMALL) (pa_cons (pe_ix ix_str (pv 1) (pe_un un_neg pe_int) (fun _ _ => rfl)) pa_nil)) pe_int) (fun _ _ => rfl))) (pv 2))))))), ?_⟩
  obtain ⟨_, z, ⟨w, rfl, hl, hw, rfl⟩, q⟩ := h
  refine q_parV (ea_cons (ev_var rfl) (ea_cons ev_c ea_nil)) fun H1 e1 => ?_
  refine q_while (fun m σ' H' => ∃ (l : List Nat) (k : Nat), m = l.length ∧ w = l ++ List.replicate k 122 ∧ Ex H H' ∧ σ' = [some (.str (S w)), some (.str (S l)), some (.str (S (List.replicate k 97)))]) w.length ⟨w, 0, rfl, by simp, e1, rfl⟩ ?_
  rintro m σ' H' ⟨l, k, rfl, hwl, eH, rfl⟩
  have hlen : l.length + k ≤ 100 := by
    rw [hwl, List.length_append, List.length_replicate] at hl
    exact hl
  have hkl : (S (List.replicate k 97)).length ≤ 100 := by rw [S_len, List.length_replicate]; omega
  have hal : ("a" : Str).length = 1 := by decide +kernel
  have happ : S (List.replicate k 97) ++ ("a" : Str) = S (List.replicate (k + 1) 97) := by
    rw [t_a]
    refine (SX.S_cat _ _).trans ?_
    rw [List.replicate_succ']
  rcases List.eq_nil_or_concat l with rfl | ⟨r, c, rfl⟩
  · have hd : decide (V.str (S []) = V.str "") = true := by rw [t_e, dec_S]; rfl
    refine ⟨!decide (V.str (S []) = V.str "") && true, et_and (et_test (ev_op (ev_var rfl) ev_c (rv_ne rfl))) fun hb => ?_, fun hb H2 e2 => ?_, fun hb H2 e2 => ?_⟩
    · rw [hd] at hb
      cases hb
    · rw [hd] at hb
      cases hb
    · refine q_when (b := decide (V.str (S []) = V.str "")) (et_test (ev_op (ev_var rfl) ev_c (rv_eq rfl))) (fun _ H3 e3 => ?_) fun hb3 => ?_
      · refine s_ret (ev_op (ev_var rfl) ev_c (rv_addS (by omega))) fun H4 e4 => ?_
        rw [happ]
        rw [hwl, List.nil_append, nxt_all, ← List.replicate_succ'] at q
        exact q H4 (((eH.trans e2).trans e3).trans e4)
      · rw [hd] at hb3
        cases hb3
  · rw [List.concat_eq_append] at *
    have hd : decide (V.str (S (r ++ [c])) = V.str "") = false := by rw [t_e, dec_S]; simp
    have hL : (S (r ++ [c])).length ≤ 1000000 := by rw [S_len]; omega
    have hlast : atI (S (r ++ [c])).cps.toList (-1) = some c := by rw [S_tl]; exact atI_last
    have hz : decide (V.str ⟨#[c]⟩ = V.str "z") = decide (c = 122) := by rw [t_z, sgn, dec_S]; simp
    refine ⟨!decide (V.str (S (r ++ [c])) = V.str "") && decide (c = 122), et_and (et_test (ev_op (ev_var rfl) ev_c (rv_ne rfl))) fun _ => et_test (ev_sub (ev_op (ev_ixS (ev_var rfl) (ev_un ev_c ru_neg) hL hlast) ev_c (rv_eq rfl)) (congrArg V.bl hz)), fun hb H2 e2 => ?_, fun hb H2 e2 => ?_⟩
    · have hc : c = 122 := by
        rw [hd] at hb
        simpa using hb
      subst hc
      refine ⟨_, fun σ2 H3 n => n, ?_⟩
      refine s_parV (ea_cons (ev_sub (ev_slS (ev_var rfl) eo_none (eo_some (ev_un ev_c ru_neg)) hL) (congrArg V.str (cutS_last r 122))) (ea_cons (ev_sub (ev_op (ev_var rfl) ev_c (rv_addS (by omega))) (congrArg V.str happ)) ea_nil)) fun H3 e3 => ?_
      refine ⟨r.length, by simp, r, k + 1, rfl, ?_, (eH.trans e2).trans e3, rfl⟩
      rw [hwl, List.append_assoc]
      rfl
    · have hc : c ≠ 122 := by
        rw [hd] at hb
        simpa using hb
      have hcm : c ∈ sm := by
        rw [hwl] at hw
        exact of_decide_eq_true (List.all_eq_true.mp hw c (by simp))
      obtain ⟨hi, hn⟩ := idx_sm c hcm hc
      refine q_when (b := decide (V.str (S (r ++ [c])) = V.str "")) (et_test (ev_op (ev_var rfl) ev_c (rv_eq rfl))) (fun hb3 => ?_) fun _ H3 e3 => ?_
      · rw [hd] at hb3
        cases hb3
      rw [hwl, nxt_one r c k hc] at q
      have hsl : ("abcdefghijklmnopqrstuvwxyz" : Str).length ≤ 1000000 := by decide +kernel
      have hone : (⟨#[c + 1]⟩ : Str).length = 1 := rfl
      have e1 : S r ++ (⟨#[c + 1]⟩ : Str) = S (r ++ [c + 1]) := SX.S_cat r [c + 1]
      have e2' : S (r ++ [c + 1]) ++ S (List.replicate k 97) = S (r ++ [c + 1] ++ List.replicate k 97) := SX.S_cat _ _
      have hrl : (S r).length ≤ 100 := by rw [S_len]; simp at hlen; omega
      have hrl2 : (S (r ++ [c + 1])).length ≤ 101 := by rw [S_len]; simp at hlen ⊢; omega
      refine s_ret (ev_sub (ev_op (ev_sub (ev_op (ev_sub (ev_slS (ev_var rfl) eo_none (eo_some (ev_un ev_c ru_neg)) hL) (congrArg V.str (cutS_last r c))) (ev_ixS ev_c (ev_op (ev_idx ev_c (ev_ixS (ev_var rfl) (ev_un ev_c ru_neg) hL hlast) (k := c - 97) (by rw [t_small]; exact hi)) ev_c rv_I0) hsl (c := c + 1) (by rw [t_small, S_tl]; exact atI_nat (i := c - 97 + 1) hn)) (rv_addS (by omega))) (congrArg V.str e1)) (ev_var rfl) (rv_addS (by omega))) (congrArg V.str e2')) fun H4 e4 => q H4 (((eH.trans e2).trans e3).trans e4)
/-- the first word of the row that is not used -/
abbrev rTold (K : PySem.W.Frag) : Hp → List V → V → Prop := fun H vs z => ∃ (t : Addr) (us : List (List Nat)) (n : Nat), vs = [.ref t] ∧ SqT K H t (us.map fun l => .str (S l)) ∧ (∀ i, i < n → wrd i ∈ us ∨ wrd i ∈ tongue) ∧ wrd n ∉ us ∧ wrd n ∉ tongue ∧ n ≤ 702 ∧ z = .str (S (wrd n))
abbrev s_fresh_told : Stmt := top 20
abbrev N_fresh_told : List Str := ["used", "word"]
theorem sc_fresh_told : FnScope N_fresh_told ["used"] (defScope s_fresh_told) := ⟨rfl, rfl, rfl, by decide +kernel, rfl, by decide +kernel, by decide +kernel⟩
theorem c_fresh_told (T : Tx D aT cB cT cN fI fdI) : Ca D false 2 "fresh_told" 1 (spF 1 (rTold D.K)) := by
  have c_next_word := c_next_word T
  obtain ⟨f, fd, F, gm⟩ := T.f20
  refine ca_mk (st := s_fresh_told) (N := N_fresh_told) (ps := ["used"]) false F gm sc_fresh_told (F.bindsN fun _ _ _ _ _ _ us hl => match us, hl with | [_], _ => rfl) (fun vs H Q E h => h.1) fun cdv A outer s H vs Q E hG hr h => ?_
  have nd := sc_fresh_told.nd
  refine ⟨_, (pss_cons (ps_set (i := 1) nd rfl (Or.inl rfl) pe_str)
    (pss_cons (ps_while (passes_of rfl) (PW.pt (pw_or (pt_cmpR op_in_seq (pv 1) (pv 0) (by rfl)) (pw_or1 (pt_cmpR op_in_seq (pv 1) (pe_gr rfl T.g_TONGUE) (by rfl))))) (pss_one (ps_set (i := 1) nd rfl (Or.inl rfl) (pe_ca c_next_word (fun z => nomatch z) hr (by decide) passL rfl (pa_cons (pv 1) pa_nil)))))
    (pss_one (ps_ret (pv 1))))), ?_⟩
  obtain ⟨_, z, ⟨t, us, n, rfl, hs, hin, hu, ht, hn, rfl⟩, q⟩ := h
  refine q_asg ev_c fun H1 e1 => ?_
  refine q_while (fun m σ' H' => ∃ i, m = n - i ∧ i ≤ n ∧ Ex H H' ∧ σ' = [some (.ref t), some (.str (S (wrd i)))]) n ⟨0, rfl, Nat.zero_le _, e1, by rw [show (S (wrd 0)) = ("a" : Str) from t_a.symm]; rfl⟩ ?_
  rintro m σ' H' ⟨i, rfl, hi, eH, rfl⟩
  refine ⟨decide (wrd i ∈ us) || decide (wrd i ∈ tongue), et_or (et_test (ev_sub (ev_op (ev_var rfl) (ev_var rfl) (rv_isT (ex_t eH hs) rfl (flat_strs _))) (congrArg V.bl (in_tongue _ _)))) fun _ => et_test (ev_sub (ev_op (ev_var rfl) ev_c (rv_isT (T.s_TONGUE _) rfl (flat_strs _))) (congrArg V.bl (in_tongue _ _))), fun hb H2 e2 => ?_, fun hb H2 e2 => ?_⟩
  · have hlt : i < n := by
      rcases Nat.lt_or_ge i n with h | h
      · exact h
      · have : i = n := by omega
        subst this
        rw [decide_eq_false hu, decide_eq_false ht] at hb
        cases hb
    refine ⟨_, fun σ2 H3 n => n, ?_⟩
    obtain ⟨f1, f2, f3⟩ := wrd_fine i (by omega)
    refine s_asg (ev_ca (ea_cons (ev_var rfl) ea_nil) (spF_v (z := .str (S (wrd (i + 1)))) rfl fun H3 _ => ⟨wrd i, rfl, by omega, f1, rfl⟩)) fun H3 e3 => ⟨n - (i + 1), by omega, i + 1, rfl, hlt, (eH.trans e2).trans e3, rfl⟩
  · have he : i = n := by
      rcases Nat.lt_or_ge i n with h | h
      · rcases hin i h with z | z
        · rw [decide_eq_true z] at hb
          cases hb
        · rw [decide_eq_true z, Bool.or_true] at hb
          cases hb
      · omega
    subst he
    exact s_ret (ev_var rfl) fun H3 e3 => q H3 ((eH.trans e2).trans e3)
end Q
set_option maxHeartbeats 4000000
namespace Q
open PySem PySem.Spec PyProof.Rows L2 Evl
variable {D : Wd} {aT cB cT cN fI : Addr} {fdI : FuncData}
def pV : V → Bool
  | .str z => nm z.cps.toList
  | _ => false
def okV (y : V) : Prop := (∃ z : Str, y = .str z ∧ z.length ≤ 1000000) ∨ y = .non
theorem all_idB (bs : List Bool) : ((bs.map V.bl).filter (fun _ => true)) = bs.map V.bl := by simp
def spFName (K : PySem.W.Frag) (cN : Addr) : Sp := fun vs H Q E => vs.length = 1 ∧ ∃ x, vs = [x] ∧
  ((∃ (t : Addr) (ys : List V), x = .ref t ∧ SqT K H t ys ∧ TyX K H x (.type "tuple") ∧ ys.length ≤ 100000 ∧ (∀ y ∈ ys, okV y) ∧
    ((ys.map pV).all id = true → ∃ (us : List (List Nat)) (n : Nat), ys = us.map (fun l => .str (S l)) ∧ (∀ i, i < n → wrd i ∈ us ∨ wrd i ∈ tongue) ∧ wrd n ∉ us ∧ wrd n ∉ tongue ∧ n ≤ 702 ∧ ∀ H2, Ex H H2 → Q (.str (S (wrd n))) H2) ∧
    ((ys.map pV).all id = false → ∀ H2, Ex H H2 → E (.ref cN) none H2)) ∨
   ((∃ ty, TyX K H x ty ∧ PySem.W.kitOne K ty (.type "tuple") = some false) ∧ ∀ H2, Ex H H2 → E (.ref cN) none H2))
abbrev s_fresh_name : Stmt := top 21
abbrev N_fresh_name : List Str := ["used", "name"]
theorem sc_fresh_name : FnScope N_fresh_name ["used"] (defScope s_fresh_name) := ⟨rfl, rfl, rfl, by decide +kernel, rfl, by decide +kernel, by decide +kernel⟩
theorem c_fresh_name (T : Tx D aT cB cT cN fI fdI) : Ca D false 3 "fresh_name" 1 (spFName D.K cN) := by
  have c_is_name := c_is_name T
  have c_fresh_told := c_fresh_told T
  obtain ⟨f, fd, F, gm⟩ := T.f21
  refine ca_mk (st := s_fresh_name) (N := N_fresh_name) (ps := ["used"]) false F gm sc_fresh_name (F.bindsN fun _ _ _ _ _ _ us hl => match us, hl with | [_], _ => rfl) (fun vs H Q E h => h.1) fun cdv A outer s H vs Q E hG hr h => ?_
  have nd := sc_fresh_name.nd
  refine ⟨_, (pss_cons (ps_if (PW.pt (pw_or (pt_not (pt_val (pe_callB call_isi (by rfl) T.n_isinstance (by decide +kernel) (pa_cons (pv 0) (pa_cons (pe_bltn (v := .ty "tuple") rfl T.n_tuple (by decide +kernel) rfl) pa_nil))))) (pw_or1 (pt_not (pt_val (pe_callB (cr_all rfl) (by rfl) T.n_all (by decide +kernel) (pa_cons (pe_lc (own := [("name", 1)]) (g := gName 1) rfl nd (pi_tup (pv 0)) (blkOk_by (own := [("name", 1)]) (N := N_fresh_name) (sc := defScope s_fresh_name) (by decide +kernel)) (fun _ _ _ _ _ => pg_name (i := 1) nd rfl (Or.inl rfl)) (fun _ _ _ _ _ => pts_nil) (fun _ _ _ _ _ => (pe_ca c_is_name (fun z => nomatch z) hr (by decide) passL rfl (pa_cons (pv 1) pa_nil)))) pa_nil))))))) (pss_one (ps_raise rfl (takes_of rfl rfl rfl rfl) (pmk_own PySem.F.excBase_ValueError T.eN.1 T.g_BadNames T.eN.2.1 (raises_own T.eN.2.2.1 T.eN.2.2.2) rfl))) pss_nil)
    (pss_one (ps_ret (pe_ca c_fresh_told (fun z => nomatch z) hr (by decide) passL rfl (pa_cons (pv 0) pa_nil))))), ?_⟩
  obtain ⟨_, x, rfl, hx⟩ := h
  rcases hx with ⟨t, ys, rfl, hs, ht, hl, hok, qy, qn⟩ | ⟨⟨ty, ht, hk⟩, q⟩
  · refine q_when (b := !true || !((ys.map pV).all id)) (et_or (et_not (et_B (ev_isi (ev_var rfl) ht kit_ss))) fun _ => et_not (et_B (ev_all (el_is (el_lcTv (fun _ => true) (fun y => V.bl (pV y)) (ev_var rfl) hs (by omega) (fun _ => rfl) (fun y H1 _ _ => et_yes) (fun y H1 e1 hy _ => ev_ca (ea_cons (ev_var rfl) ea_nil) (spF_v rfl fun H2 e2 => ⟨y, rfl, ?_⟩))) ?_)))) (fun hb H1 e1 => ?_) fun hb H1 e1 => ?_
    · rcases hok y hy with ⟨z, rfl, hz⟩ | rfl
      · exact .inl ⟨z.cps.toList, congrArg V.str (str_S z), by rw [Array.length_toList]; exact hz, rfl⟩
      · exact .inr ⟨⟨_, .base .non, rfl⟩, rfl⟩
    · have hft : (ys.filter fun _ => true) = ys := by simp
      rw [hft, List.map_map]
      rfl
    · have hf : (ys.map pV).all id = false := by simpa using hb
      exact qn hf H1 e1
    · have hf : (ys.map pV).all id = true := by simpa using hb
      obtain ⟨us, n, hus, h1, h2, h3, h4, q⟩ := qy hf
      refine s_ret (ev_ca (ea_cons (ev_var rfl) ea_nil) (spF_v rfl fun H2 e2 => ⟨t, us, n, rfl, ?_, h1, h2, h3, h4, rfl⟩)) fun H2 e2 => q H2 (e1.trans e2)
      rw [← hus]
      exact ex_t (e1.trans e2) hs
  · refine q_when (b := !false || true) (et_or (et_not (et_B (ev_isi (ev_var rfl) ht hk))) fun hb => absurd hb (by decide)) (fun hb H1 e1 => ?_) fun hb H1 e1 => absurd hb (by decide)
    exact q H1 e1
/-! ### the law's own readers of texts -/
abbrev s__law_letters : Stmt := top 32
abbrev N__law_letters : List Str := []
theorem sc__law_letters : FnScope N__law_letters [] (defScope s__law_letters) := ⟨rfl, rfl, rfl, by decide +kernel, rfl, by decide +kernel, by decide +kernel⟩
theorem c_l_letters (T : Tx D aT cB cT cN fI fdI) : Ca D false 1 "_law_letters" 0 (spF 0 (fun _ vs z => vs = [] ∧ z = .str (S lt))) := by
  obtain ⟨f, fd, F, gm⟩ := T.f32
  refine ca_mk (st := s__law_letters) (N := N__law_letters) (ps := []) false F gm sc__law_letters (F.bindsN fun _ _ _ _ _ _ us hl => match us, hl with | [], _ => rfl) (fun vs H Q E h => h.1) fun cdv A outer s H vs Q E hG hr h => ?_
  refine ⟨_, (pss_one (ps_ret pe_str)), ?_⟩
  obtain ⟨_, z, ⟨rfl, rfl⟩, q⟩ := h
  exact s_ret (ev_sub ev_c (congrArg V.str t_let)) q
abbrev s__law_all_in : Stmt := top 33
abbrev N__law_all_in : List Str := ["row", "signs", "sign"]
theorem sc__law_all_in : FnScope N__law_all_in ["row", "signs"] (defScope s__law_all_in) := ⟨rfl, rfl, rfl, by decide +kernel, rfl, by decide +kernel, by decide +kernel⟩
theorem dpL_ints (K : PySem.W.Frag) (H : Hp) : ∀ n : Nat, DpAll K H (List.replicate n (V.int 1)) (List.replicate n (PyData.int 1))
  | 0 => .nil
  | n + 1 => .cons (.int 1) (dpL_ints K H n)
theorem shaped_ints (n : Nat) : SeqAt.shaped (.list (List.replicate n (.int 1))) = true := by
  have h1 : PyData.canLayAll0 (List.replicate n (.int 1)) = true := by
    induction n with
    | zero => rfl
    | succ n ih =>
      show (true && PyData.canLayAll0 (List.replicate n (.int 1))) = true
      rw [ih]
      rfl
  have h2 : PyData.depthAll (List.replicate n (.int 1)) = 0 := by
    induction n with
    | zero => rfl
    | succ n ih =>
      have h1' : PyData.canLayAll0 (List.replicate n (.int 1)) = true := by
        have z : (true && PyData.canLayAll0 (List.replicate n (.int 1))) = true := h1
        simpa using z
      show max 0 (PyData.depthAll (List.replicate n (.int 1))) = 0
      rw [ih h1']
      rfl
  show (PyData.canLayAll0 _ && decide (PyData.depthAll _ + 1 ≤ 64)) = true
  rw [h1, h2]
  rfl
theorem ones (l g : List Nat) : (((S l).cps.toList.map fun c => V.str ⟨#[c]⟩).filter (fun x => match x with | .str w => !decide (w.cps.toList.headD 0 ∈ (S g).cps.toList) | _ => false)).map (fun _ => V.int 1) = List.replicate (l.filter fun c => !decide (c ∈ g)).length (V.int 1) := by
  rw [S_tl, S_tl]
  induction l with
  | nil => rfl
  | cons c l ih =>
    rw [List.map_cons, List.filter_cons, List.filter_cons]
    show List.map _ (if (!decide (c ∈ g)) = true then _ else _) = _
    by_cases h : c ∈ g
    · rw [decide_eq_true h, if_neg (by decide), if_neg (by decide)]
      exact ih
    · rw [decide_eq_false h, if_pos (by decide), if_pos (by decide), List.map_cons, ih, List.length_cons, List.replicate_succ]
theorem ones_eq (l g : List Nat) : PyData.eqv (.list (List.replicate (l.filter fun c => !decide (c ∈ g)).length (.int 1))) (.list []) = inL g l := by
  induction l with
  | nil => rfl
  | cons c l ih =>
    rw [List.filter_cons]
    by_cases h : c ∈ g
    · rw [decide_eq_true h, if_neg (by decide), ih]
      show inL g l = (decide (c ∈ g) && inL g l)
      rw [decide_eq_true h]
      rfl
    · rw [decide_eq_false h, if_pos (by decide), List.length_cons, List.replicate_succ]
      show false = (decide (c ∈ g) && inL g l)
      rw [decide_eq_false h]
      rfl
theorem c_l_all_in (T : Tx D aT cB cT cN fI fdI) : Ca D false 1 "_law_all_in" 2 (spF 2 rAllIn) := by
  obtain ⟨f, fd, F, gm⟩ := T.f33
  refine ca_mk (st := s__law_all_in) (N := N__law_all_in) (ps := ["row", "signs"]) false F gm sc__law_all_in (F.bindsN fun _ _ _ _ _ _ us hl => match us, hl with | [_, _], _ => rfl) (fun vs H Q E h => h.1) fun cdv A outer s H vs Q E hG hr h => ?_
  have nd := sc__law_all_in.nd
  have hu := hr.units
  refine ⟨_, (pss_one (ps_ret (pe_and (pe_cmpR op_ne (pv 0) pe_str (nomark _)) (pe_one (pe_cmpR (op_eqD hu) (pe_lc (own := [("sign", 2)]) (g := gName 2) rfl nd (pi_str (pv 0)) (blkOk_by (own := [("sign", 2)]) (N := N__law_all_in) (sc := defScope s__law_all_in) (by decide +kernel)) (fun _ _ _ _ _ => pg_name (i := 2) nd rfl (Or.inl rfl)) (fun _ _ _ _ _ => pts_one (pt_cmpR op_notInS (pv 2) (pv 1) (by rfl))) (fun _ _ _ _ _ => pe_int)) (pe_lst pa_nil) (nomark _)))))), ?_⟩
  obtain ⟨_, z, ⟨l, g, rfl, hl, rfl⟩, q⟩ := h
  have hL : (S l).length ≤ 1000000 := by rw [S_len]; omega
  refine s_ret (ev_sub (ev_andV (a := !decide (V.str (S l) = V.str "")) (b := inL g l) (ev_op (ev_var rfl) ev_c (rv_ne rfl)) fun _ => ev_opLL (el_lcS (fun x => match x with | .str w => !decide (w.cps.toList.headD 0 ∈ (S g).cps.toList) | _ => false) (fun _ => V.int 1) (ev_var rfl) hL (fun _ => rfl) (fun c H1 _ _ => et_test (ev_op (ev_var rfl) (ev_var rfl) rv_niS)) (fun c H1 _ _ _ => ev_c)) el_nil fun p q H1 hp hq e1 => ?_) ?_) q
  · rw [← ones_eq l g]
    exact fun H2 e2 Q q' => ⟨_, _, .lst (sq_of (e2 _ _ hp)) (by rw [ones]; exact dpL_ints _ _ _), .lst (sq_of (e2 _ _ hq)) .nil, shaped_ints _, rfl, q' H2 (Ex.refl H2)⟩
  · rw [t_e, dec_S]
    rfl
end Q
set_option maxHeartbeats 4000000
namespace Q
open PySem PySem.Spec PyProof.Rows L2 Evl
variable {D : Wd} {aT cB cT cN fI : Addr} {fdI : FuncData}
theorem t_tong : [V.str "case", V.str "fun", V.str "in", V.str "let"] = tongue.map fun l => V.str (S l) := by decide +kernel
theorem lt26 : lt.take 26 = sm := by decide
theorem lt26d : lt.drop 26 = gr := by decide
/-- a list of texts written there, looked through -/
theorem ev_niLs {K : PySem.W.Frag} {σ : L2.St} {H : Hp} {ta tb : TE} {l : List Nat} {xs : List V} {ts : List (List Nat)} (ha : Ev ta σ H (.str (S l))) (hb : EvL tb σ H xs) (e : xs = ts.map fun l => V.str (S l)) : Ev (tOp (rIn K true) ta tb) σ H (.bl (!decide (l ∈ ts))) := by
  subst e
  refine ev_sub (ev_opL ha hb fun p H1 hp _ => rv_niL (sq_of hp) rfl (flat_strs _)) ?_
  rw [in_tongue]
theorem ev_isLs {K : PySem.W.Frag} {σ : L2.St} {H : Hp} {ta tb : TE} {l : List Nat} {xs : List V} {ts : List (List Nat)} (ha : Ev ta σ H (.str (S l))) (hb : EvL tb σ H xs) (e : xs = ts.map fun l => V.str (S l)) : Ev (tOp (rIn K false) ta tb) σ H (.bl (decide (l ∈ ts))) := by
  subst e
  refine ev_sub (ev_opL ha hb fun p H1 hp _ => rv_isL (sq_of hp) rfl (flat_strs _)) ?_
  rw [in_tongue]
theorem el4 {σ : L2.St} {H : Hp} {a b c d : V} : EvL (tLst (tCons (tC a) (tCons (tC b) (tCons (tC c) (tCons (tC d) tNil))))) σ H [a, b, c, d] := el_lst (ea_cons ev_c (ea_cons ev_c (ea_cons ev_c (ea_cons ev_c ea_nil)))) (by simp)
abbrev s__law_is_name : Stmt := top 34
abbrev N__law_is_name : List Str := ["row"]
theorem sc__law_is_name : FnScope N__law_is_name ["row"] (defScope s__law_is_name) := ⟨rfl, rfl, rfl, by decide +kernel, rfl, by decide +kernel, by decide +kernel⟩
theorem c_l_is_name (T : Tx D aT cB cT cN fI fdI) : Ca D false 2 "_law_is_name" 1 (spF 1 (rOn lnm)) := by
  have c_l_letters := c_l_letters T
  have c_l_all_in := c_l_all_in T
  obtain ⟨f, fd, F, gm⟩ := T.f34
  refine ca_mk (st := s__law_is_name) (N := N__law_is_name) (ps := ["row"]) false F gm sc__law_is_name (F.bindsN fun _ _ _ _ _ _ us hl => match us, hl with | [_], _ => rfl) (fun vs H Q E h => h.1) fun cdv A outer s H vs Q E hG hr h => ?_
  have nd := sc__law_is_name.nd
  refine ⟨_, (pss_one (ps_ret (pe_and (pe_ca c_l_all_in (fun z => nomatch z) hr (by decide) passL rfl (pa_cons (pv 0) (pa_cons (pe_slice sl_str (pe_ca0 c_l_letters (fun z => nomatch z) hr (by decide) passL rfl) po_none (po_some pe_int)) pa_nil))) (pe_and (pe_cmpR op_le (pe_callB call_lenS (by rfl) T.n_len (by decide +kernel) (pa_cons (pv 0) pa_nil)) pe_int (nomark _)) (pe_one (pe_cmpR op_notIn_seq (pv 0) (pe_lst (pa_cons pe_str (pa_cons pe_str (pa_cons pe_str (pa_cons pe_str pa_nil))))) (by rfl))))))), ?_⟩
  obtain ⟨_, z, ⟨l, rfl, hl, rfl⟩, q⟩ := h
  have hL : (S l).length ≤ 1000000 := by rw [S_len]; omega
  have hlt : (S lt).length ≤ 1000000 := by decide +kernel
  have hls : ∀ H1, SpV (spF 0 (fun _ vs z => vs = [] ∧ z = .str (S lt))) [] H1 (.str (S lt)) := fun H1 => spF_v rfl fun H2 _ => ⟨rfl, rfl⟩
  exact s_ret (ev_andV (a := lAll l sm) (b := decide (l.length ≤ 8) && !decide (l ∈ tongue)) (ev_ca (ea_cons (ev_var rfl) (ea_cons (ev_sub (ev_slS (ev_ca ea_nil (hls _)) eo_none (eo_some ev_c) hlt) (congrArg V.str ((cutS_to lt 26).trans (congrArg S lt26)))) ea_nil)) (spF_v rfl fun H2 _ => ⟨l, sm, rfl, hl, rfl⟩)) fun _ =>
    ev_andV (a := decide (l.length ≤ 8)) (b := !decide (l ∈ tongue)) (ev_sub (ev_op (ev_lenS (ev_var rfl) hL) ev_c rv_I0) (congrArg V.bl (dle8 l 8))) fun _ => ev_niLs (ev_var rfl) el4 t_tong) q
abbrev s__law_is_word : Stmt := top 35
abbrev N__law_is_word : List Str := ["row", "is_begun"]
theorem sc__law_is_word : FnScope N__law_is_word ["row"] (defScope s__law_is_word) := ⟨rfl, rfl, rfl, by decide +kernel, rfl, by decide +kernel, by decide +kernel⟩
theorem dei (l : List Nat) (n : Nat) : decide (V.int ((S l).length : Int) = V.int (n : Int)) = decide (l.length = n) := by
  rw [S_len]
  exact decide_eq_decide.mpr ⟨fun h => by have z := V.int.inj h; omega, fun h => by rw [h]⟩
theorem c_l_is_word (T : Tx D aT cB cT cN fI fdI) : Ca D false 2 "_law_is_word" 1 (spF 1 (rOn lwd)) := by
  have c_l_letters := c_l_letters T
  have c_l_all_in := c_l_all_in T
  obtain ⟨f, fd, F, gm⟩ := T.f35
  refine ca_mk (st := s__law_is_word) (N := N__law_is_word) (ps := ["row"]) false F gm sc__law_is_word (F.bindsN fun _ _ _ _ _ _ us hl => match us, hl with | [_], _ => rfl) (fun vs H Q E h => h.1) fun cdv A outer s H vs Q E hG hr h => ?_
  have nd := sc__law_is_word.nd
  refine ⟨_, (pss_cons (ps_set (i := 1) nd rfl (Or.inl rfl) (pe_and (pe_ca c_l_all_in (fun z => nomatch z) hr (by decide) passL rfl (pa_cons (pe_slice sl_str (pv 0) po_none (po_some pe_int)) (pa_cons (pe_slice sl_str (pe_ca0 c_l_letters (fun z => nomatch z) hr (by decide) passL rfl) (po_some pe_int) po_none) pa_nil))) (pe_one (pe_cmpR op_le (pe_callB call_lenS (by rfl) T.n_len (by decide +kernel) (pa_cons (pv 0) pa_nil)) pe_int (nomark _)))))
    (pss_one (ps_ret (pe_and (pv 1) (pe_one (pe_or (pe_cmpR op_eq (pe_callB call_lenS (by rfl) T.n_len (by decide +kernel) (pa_cons (pv 0) pa_nil)) pe_int (nomark _)) (pe_one (pe_ca c_l_all_in (fun z => nomatch z) hr (by decide) passL rfl (pa_cons (pe_slice sl_str (pv 0) (po_some pe_int) po_none) (pa_cons (pe_slice sl_str (pe_ca0 c_l_letters (fun z => nomatch z) hr (by decide) passL rfl) po_none (po_some pe_int)) pa_nil)))))))))), ?_⟩
  obtain ⟨_, z, ⟨l, rfl, hl, rfl⟩, q⟩ := h
  have hL : (S l).length ≤ 1000000 := by rw [S_len]; omega
  have hlt : (S lt).length ≤ 1000000 := by decide +kernel
  have hls : ∀ H1, SpV (spF 0 (fun _ vs z => vs = [] ∧ z = .str (S lt))) [] H1 (.str (S lt)) := fun H1 => spF_v rfl fun H2 _ => ⟨rfl, rfl⟩
  have h1 : (l.take 1).length ≤ 40001 := by rw [List.length_take]; omega
  have h2 : (l.drop 1).length ≤ 40001 := by rw [List.length_drop]; omega
  refine q_asg (v := .bl (lAll (l.take 1) gr && decide (l.length ≤ 8))) (ev_andV (ev_ca (ea_cons (ev_sub (ev_slS (ev_var rfl) eo_none (eo_some ev_c) hL) (congrArg V.str (cutS_to l 1))) (ea_cons (ev_sub (ev_slS (ev_ca ea_nil (hls _)) (eo_some ev_c) eo_none hlt) (congrArg V.str ((cutS_from lt 26).trans (congrArg S lt26d)))) ea_nil)) (spF_v rfl fun H2 _ => ⟨l.take 1, gr, rfl, h1, rfl⟩)) fun _ => ev_sub (ev_op (ev_lenS (ev_var rfl) hL) ev_c rv_I0) (congrArg V.bl (dle8 l 8))) fun H1 e1 => ?_
  exact s_ret (ev_andV (b := decide (l.length = 1) || lAll (l.drop 1) sm) (ev_var rfl) fun _ => ev_orV (ev_sub (ev_op (ev_lenS (ev_var rfl) hL) ev_c (rv_eq rfl)) (congrArg V.bl (dei l 1))) fun _ => ev_ca (ea_cons (ev_sub (ev_slS (ev_var rfl) (eo_some ev_c) eo_none hL) (congrArg V.str (cutS_from l 1))) (ea_cons (ev_sub (ev_slS (ev_ca ea_nil (hls _)) eo_none (eo_some ev_c) hlt) (congrArg V.str ((cutS_to lt 26).trans (congrArg S lt26)))) ea_nil)) (spF_v rfl fun H2 _ => ⟨l.drop 1, sm, rfl, h2, rfl⟩)) fun H2 e2 => q H2 (e1.trans e2)
abbrev s__law_is_token : Stmt := top 36
abbrev N__law_is_token : List Str := ["row"]
theorem sc__law_is_token : FnScope N__law_is_token ["row"] (defScope s__law_is_token) := ⟨rfl, rfl, rfl, by decide +kernel, rfl, by decide +kernel, by decide +kernel⟩
theorem t_sgls : [V.str "(", V.str ")", V.str "{", V.str "}", V.str ",", V.str ":", V.str ";", V.str "+", V.str "-", V.str "*", V.str "<", V.str "=", V.str "=="] = singles.map fun l => V.str (S l) := by decide +kernel
theorem c_l_is_token (T : Tx D aT cB cT cN fI fdI) : Ca D false 3 "_law_is_token" 1 (spF 1 (rOn ltk)) := by
  have c_l_letters := c_l_letters T
  have c_l_all_in := c_l_all_in T
  have c_l_is_name := c_l_is_name T
  have c_l_is_word := c_l_is_word T
  obtain ⟨f, fd, F, gm⟩ := T.f36
  refine ca_mk (st := s__law_is_token) (N := N__law_is_token) (ps := ["row"]) false F gm sc__law_is_token (F.bindsN fun _ _ _ _ _ _ us hl => match us, hl with | [_], _ => rfl) (fun vs H Q E h => h.1) fun cdv A outer s H vs Q E hG hr h => ?_
  have nd := sc__law_is_token.nd
  refine ⟨_, (pss_cons (ps_if (pt_val (pe_ca c_l_all_in (fun z => nomatch z) hr (by decide) passL rfl (pa_cons (pv 0) (pa_cons pe_str pa_nil)))) (pss_one (ps_ret (pe_and (pe_cmpR op_le (pe_callB call_lenS (by rfl) T.n_len (by decide +kernel) (pa_cons (pv 0) pa_nil)) pe_int (nomark _)) (pe_one (pe_or (pe_cmpR op_eq (pv 0) pe_str (nomark _)) (pe_one (pe_cmpR op_ne (pe_ix ix_str (pv 0) pe_int (fun _ _ => rfl)) pe_str (nomark _)))))))) pss_nil)
    (pss_cons (ps_if (pt_val (pe_ca c_l_all_in (fun z => nomatch z) hr (by decide) passL rfl (pa_cons (pv 0) (pa_cons (pe_ca0 c_l_letters (fun z => nomatch z) hr (by decide) passL rfl) pa_nil)))) (pss_one (ps_ret (pe_or (pe_ca c_l_is_name (fun z => nomatch z) hr (by decide) passL rfl (pa_cons (pv 0) pa_nil)) (pe_or (pe_ca c_l_is_word (fun z => nomatch z) hr (by decide) passL rfl (pa_cons (pv 0) pa_nil)) (pe_one (pe_cmpR op_in_seq (pv 0) (pe_lst (pa_cons pe_str (pa_cons pe_str (pa_cons pe_str (pa_cons pe_str pa_nil))))) (by rfl))))))) pss_nil)
    (pss_one (ps_ret (pe_cmpR op_in_seq (pv 0) (pe_lst (pa_cons pe_str (pa_cons pe_str (pa_cons pe_str (pa_cons pe_str (pa_cons pe_str (pa_cons pe_str (pa_cons pe_str (pa_cons pe_str (pa_cons pe_str (pa_cons pe_str (pa_cons pe_str (pa_cons pe_str (pa_cons pe_str pa_nil)))))))))))))) (by rfl)))))), ?_⟩
  obtain ⟨_, z, ⟨l, rfl, hl, rfl⟩, q⟩ := h
  have hL : (S l).length ≤ 1000000 := by rw [S_len]; omega
  have hlt : (S lt).length ≤ 1000000 := by decide +kernel
  have hls : ∀ H1, SpV (spF 0 (fun _ vs z => vs = [] ∧ z = .str (S lt))) [] H1 (.str (S lt)) := fun H1 => spF_v rfl fun H2 _ => ⟨rfl, rfl⟩
  have hall : ∀ g H1, SpV (spF 2 rAllIn) [.str (S l), .str (S g)] H1 (.bl (lAll l g)) := fun g H1 => spF_v rfl fun H2 _ => ⟨l, g, rfl, hl, rfl⟩
  unfold ltk at q
  refine q_when (b := lAll l fg) (et_B (ev_ca (ea_cons (ev_var rfl) (ea_cons ev_c ea_nil)) (by rw [t_fig]; exact hall fg _))) (fun hb H1 e1 => ?_) fun hb H1 e1 => ?_
  · rw [if_pos hb] at q
    cases l with
    | nil => cases hb
    | cons c r =>
      have e : decide (c = 48) = decide (List.take 1 (c :: r) = [48]) := decide_eq_decide.mpr (by simp)
      refine s_ret (ev_andV (b := decide (c :: r = [48]) || !decide (List.take 1 (c :: r) = [48])) (ev_sub (ev_op (ev_lenS (ev_var rfl) hL) ev_c rv_I0) (congrArg V.bl (dle8 (c :: r) 9))) fun _ => ev_orV (ev_sub (ev_op (ev_var rfl) ev_c (rv_eq rfl)) (by rw [t_0, dec_S])) fun _ => ev_sub (ev_op (ev_ixS (ev_var rfl) ev_c hL (by rw [S_tl]; exact atI_nat (i := 0) rfl)) ev_c (rv_ne rfl)) (by rw [t_0, sgn, dec_S, ← e]; simp)) fun H2 e2 => q H2 (e1.trans e2)
  rw [if_neg (by rw [hb]; decide)] at q
  refine q_when (b := lAll l lt) (et_B (ev_ca (ea_cons (ev_var rfl) (ea_cons (ev_ca ea_nil (hls _)) ea_nil)) (hall lt _))) (fun hb H2 e2 => ?_) fun hb H2 e2 => ?_
  · rw [if_pos hb] at q
    have call : ∀ (p : List Nat → Bool) H6, SpV (spF 1 (rOn p)) [.str (S l)] H6 (.bl (p l)) := fun p H6 => spF_v rfl fun H7 _ => ⟨l, rfl, hl, rfl⟩
    exact s_ret (ev_orV (ev_ca (ea_cons (ev_var rfl) ea_nil) (call lnm _)) fun _ => ev_orV (ev_ca (ea_cons (ev_var rfl) ea_nil) (call lwd _)) fun _ => ev_isLs (ev_var rfl) el4 t_tong) fun H3 e3 => q H3 ((e1.trans e2).trans e3)
  · rw [if_neg (by rw [hb]; decide)] at q
    exact s_ret (ev_isLs (ev_var rfl) (el_lst (ea_cons ev_c (ea_cons ev_c (ea_cons ev_c (ea_cons ev_c (ea_cons ev_c (ea_cons ev_c (ea_cons ev_c (ea_cons ev_c (ea_cons ev_c (ea_cons ev_c (ea_cons ev_c (ea_cons ev_c (ea_cons ev_c ea_nil))))))))))))) (by simp)) t_sgls) fun H3 e3 => q H3 ((e1.trans e2).trans e3)
end Q
set_option maxHeartbeats 4000000
namespace Q
open PySem PySem.Spec PyProof.Rows L2 Evl
variable {D : Wd} {aT cB cT cN fI : Addr} {fdI : FuncData}
theorem s_runloop {l g : List Nat} {b0 : Nat} {σ : Nat → L2.St} {D : Ends} {H : Hp} {t : TT} {tu : TS} (hb0 : b0 ≤ l.length)
    (ht : ∀ (b : Nat) H' (h : b < l.length), Ex H H' → EvT t (σ b) H' (decide (l[b] ∈ g))) (ht2 : ∀ (b : Nat) H', Ex H H' → l.length ≤ b → EvT t (σ b) H' false)
    (hu : ∀ (b : Nat) H' (N : L2.St → Hp → Prop), Ex H H' → (∀ H2, Ex H' H2 → N (σ (b + 1)) H2) → tu { D with nx := N, ct := N, bk := D.nx } (σ b) H')
    (hd : ∀ H', Ex H H' → D.nx (σ (b0 + run g (l.drop b0))) H') : tWhile t tu D (σ b0) H := by
  refine s_while (fun m σ' H' => ∃ b, m = l.length - b ∧ b ≤ l.length ∧ b + run g (l.drop b) = b0 + run g (l.drop b0) ∧ Ex H H' ∧ σ' = σ b) (l.length - b0) ⟨b0, rfl, hb0, rfl, Ex.refl H, rfl⟩ ?_
  rintro m σ' H' ⟨b, rfl, hb, hrun, eH, rfl⟩
  by_cases hlt : b < l.length
  · refine ⟨decide (l[b] ∈ g), ht b H' hlt eH, fun hb' H2 e2 => ⟨fun σ' H' => ∃ m', m' < l.length - b ∧ ∃ b, m' = l.length - b ∧ b ≤ l.length ∧ b + run g (l.drop b) = b0 + run g (l.drop b0) ∧ Ex H H' ∧ σ' = σ b, fun σ2 H3 n => n, hu b H2 _ (eH.trans e2) fun H3 e3 => ⟨l.length - (b + 1), by omega, b + 1, rfl, hlt, ?_, (eH.trans e2).trans e3, rfl⟩⟩, fun hb' H2 e2 => ?_⟩
    · rw [run_drop hlt, if_pos (of_decide_eq_true hb')] at hrun
      omega
    · rw [run_drop hlt, if_neg (of_decide_eq_false hb'), Nat.add_zero] at hrun
      rw [hrun]
      exact hd H2 (eH.trans e2)
  · refine ⟨false, ht2 b H' eH (by omega), fun hb' => absurd hb' (by decide), fun hb' H2 e2 => ?_⟩
    rw [run_end (by omega), Nat.add_zero] at hrun
    rw [hrun]
    exact hd H2 (eH.trans e2)
theorem lAll_sgn (c : Nat) (g : List Nat) : lAll [c] g = decide (c ∈ g) := by simp [lAll, inL]
def spRow : Sp := fun vs H Q _ => vs.length = 1 ∧ ∃ l R, vs = [.str (S l)] ∧ l.length ≤ 40001 ∧ Rws l 0 R ∧ ∀ p H2 ws, H p = none → Ex H H2 → H2 p = some (.lst ws) → TokV H2 ws R → Q (.ref p) H2
abbrev s__law_row : Stmt := top 31
abbrev N__law_row : List Str := ["text", "found", "at", "sign", "end"]
theorem sc__law_row : FnScope N__law_row ["text"] (defScope s__law_row) := ⟨rfl, rfl, rfl, by decide +kernel, rfl, by decide +kernel, by decide +kernel⟩
theorem c_l_row (T : Tx D aT cB cT cN fI fdI) : Ca D false 2 "_law_row" 1 spRow := by
  have c_l_letters := c_l_letters T
  have c_l_all_in := c_l_all_in T
  obtain ⟨f, fd, F, gm⟩ := T.f31
  refine ca_mk (st := s__law_row) (N := N__law_row) (ps := ["text"]) false F gm sc__law_row (F.bindsN fun _ _ _ _ _ _ us hl => match us, hl with | [_], _ => rfl) (fun vs H Q E h => h.1) fun cdv A outer s H vs Q E hG hr h => ?_
  have nd := sc__law_row.nd
  refine ⟨_, (pss_cons (ps_par (i := 1) (j := 2) (by rfl) nd rfl rfl (by decide) rfl rfl (pa_cons (pe_lst pa_nil) (pa_cons pe_int pa_nil)) (by rfl))
    (pss_cons (ps_while (passes_of rfl) (pt_cmpR op_lt (pv 2) (pe_callB call_lenS (by rfl) T.n_len (by decide +kernel) (pa_cons (pv 0) pa_nil)) (nomark _)) (pss_cons (ps_par (i := 3) (j := 4) (by rfl) nd rfl rfl (by decide) rfl rfl (pa_cons (pe_ix ix_str (pv 0) (pv 2) (fun _ _ => rfl)) (pa_cons (pe_op op_add (pv 2) pe_int) pa_nil)) (by rfl))
      (Evl.pss_cut (ps_if (pt_val (pe_ca c_l_all_in (fun z => nomatch z) hr (by decide) passL rfl (pa_cons (pv 3) (pa_cons (pe_ca0 c_l_letters (fun z => nomatch z) hr (by decide) passL rfl) pa_nil)))) (pss_one (ps_while (passes_of rfl) (PW.pt (pw_and (pt_cmpR op_lt (pv 4) (pe_callB call_lenS (by rfl) T.n_len (by decide +kernel) (pa_cons (pv 0) pa_nil)) (nomark _)) (pw_and1 (pt_val (pe_ca c_l_all_in (fun z => nomatch z) hr (by decide) passL rfl (pa_cons (pe_ix ix_str (pv 0) (pv 4) (fun _ _ => rfl)) (pa_cons (pe_ca0 c_l_letters (fun z => nomatch z) hr (by decide) passL rfl) pa_nil))))))) (pss_one (ps_set (i := 4) nd rfl (Or.inl rfl) (pe_op op_add (pv 4) pe_int))))) (pss_one (ps_if (pt_cmpR op_inS (pv 3) pe_str (by rfl)) (pss_one (ps_while (passes_of rfl) (PW.pt (pw_and (pt_cmpR op_lt (pv 4) (pe_callB call_lenS (by rfl) T.n_len (by decide +kernel) (pa_cons (pv 0) pa_nil)) (nomark _)) (pw_and1 (pt_cmpR op_inS (pe_ix ix_str (pv 0) (pv 4) (fun _ _ => rfl)) pe_str (by rfl))))) (pss_one (ps_set (i := 4) nd rfl (Or.inl rfl) (pe_op op_add (pv 4) pe_int))))) (pss_one (ps_if (PW.pt (pw_and (pt_cmpR op_eq (pv 3) pe_str (nomark _)) (pw_and1 (pt_cmpR op_eq (pe_slice sl_str (pv 0) (po_some (pv 2)) (po_some (pe_op op_add (pv 2) pe_int))) pe_str (nomark _))))) (pss_one (ps_set (i := 4) nd rfl (Or.inl rfl) (pe_op op_add (pv 2) pe_int))) pss_nil)))))
      (Evl.pss_cut (ps_if (pt_cmpR op_notInS (pv 3) pe_str (by rfl)) (pss_one (ps_expr (pe_bm PySem.F.plainAttrs_list PySem.F.slot_list_append PySem.F.type_list_append mt_append (pv 1) (pa_cons (pe_tup (pa_cons (pe_slice sl_str (pv 0) (po_some (pv 2)) (po_some (pv 4))) (pa_cons (pv 2) pa_nil))) pa_nil)))) pss_nil)
      (pss_one (ps_set (i := 2) nd rfl (Or.inl rfl) (pv 4)))))))
    (pss_one (ps_ret (pv 1))))), ?_⟩
  obtain ⟨_, l, R, rfl, hl, hR, qok⟩ := h
  have hL : (S l).length ≤ 1000000 := by rw [S_len]; omega
  have hls : ∀ H1, SpV (spF 0 (fun _ vs z => vs = [] ∧ z = .str (S lt))) [] H1 (.str (S lt)) := fun H1 => spF_v rfl fun H2 _ => ⟨rfl, rfl⟩
  have hone : ∀ c H1, SpV (spF 2 rAllIn) [.str ⟨#[c]⟩, .str (S lt)] H1 (.bl (decide (c ∈ lt))) := fun c H1 => spF_v rfl fun H2 _ => ⟨[c], lt, rfl, by simp, by rw [lAll_sgn]⟩
  refine q_parL el_nil (fun H2 _ => ev_c) fun p H2 hp e2 hlp => ?_
  refine q_while (fun m σ' H' => ∃ (a : Nat) (v3 v4 : Option V) (ws : List V) (done rest : List (List Nat × Nat)), m = l.length - a ∧ a ≤ l.length ∧ Rws (l.drop a) a rest ∧ R = done ++ rest ∧ H' p = some (.lst ws) ∧ TokV H' ws done ∧ Ex H H' ∧
    σ' = [some (.str (S l)), some (.ref p), some (.int (a : Int)), v3, v4]) (l.length - 0) ⟨0, none, none, [], [], R, rfl, Nat.zero_le _, hR, rfl, hlp, trivial, e2, rfl⟩ ?_
  rintro m σ' H' ⟨a, v3, v4, ws, done, rest, rfl, ha, hrest, hRe, hp', htv, eH, rfl⟩
  have hsz : done.length ≤ 40001 := by
    have := (rws_size hR).2.1
    rw [hRe, List.length_append] at this
    omega
  refine ⟨decide ((a : Int) < ((S l).length : Int)), et_test (ev_op (ev_var rfl) (ev_lenS (ev_var rfl) hL) rv_I0), fun hb' H3 e3 => ?_, fun hb' H3 e3 => ?_⟩
  · have hlt : a < l.length := by rw [S_len] at hb'; have := of_decide_eq_true hb'; omega
    have hs' : l.drop a = l[a] :: l.drop (a + 1) := List.drop_eq_getElem_cons hlt
    have hat : atI (S l).cps.toList (a : Int) = some l[a] := by rw [S_tl]; exact atI_nat (List.getElem?_eq_getElem hlt)
    have hcut : ∀ n : Nat, cutS (S l) (some (a : Int)) (some ((a + n : Nat) : Int)) = S ((l.drop a).take n) := fun n => by rw [cutS_nat, show a + n - a = n by omega]
    rw [hs'] at hrest
    refine ⟨_, fun σ2 H4 n => n, ?_⟩
    have hend : ∀ (b : Nat) H', l.length ≤ b → ∀ {u : TT} {tx : TE} {x : V}, Ev tx ([some (.str (S l)), some (.ref p), some (.int (a : Int)), some (.str ⟨#[l[a]]⟩), some (.int (b : Int))] : L2.St) H' (.int ((S l).length : Int)) → EvT (tAnd (tTest (tOp (rI0 fun i j => .bl (decide (i < j))) (tVar 4) tx)) u) ([some (.str (S l)), some (.ref p), some (.int (a : Int)), some (.str ⟨#[l[a]]⟩), some (.int (b : Int))] : L2.St) H' false := fun b H' hge u tx x hx => by
      have hf : decide ((b : Int) < ((S l).length : Int)) = false := by rw [S_len]; exact decide_eq_false (by omega)
      have z := et_and (u := u) (b := true) (et_test (ev_op (r := rI0 fun i j => .bl (decide (i < j))) (ev_var (i := 4) rfl) hx rv_I0)) fun hb => by
        rw [hf] at hb
        cases hb
      rw [hf] at z
      exact z
    refine q_parV (v := .str ⟨#[l[a]]⟩) (w := .int ((a + 1 : Nat) : Int)) (ea_cons (ev_ixS (ev_var rfl) (ev_var rfl) hL hat) (ea_cons (ev_op (ev_var rfl) ev_c rv_I0) ea_nil)) fun H4 e4 => ?_
    refine q_cut (M := fun σ' H' => σ' = [some (.str (S l)), some (.ref p), some (.int (a : Int)), some (.str ⟨#[l[a]]⟩), some (.int ((a + rlen (l.drop a) : Nat) : Int))] ∧ Ex H4 H') ?_ ?_
    · rw [hs', rlen_cons]
      refine s_if (b := decide (l[a] ∈ lt)) (et_B (ev_ca (ea_cons (ev_var rfl) (ea_cons (ev_ca ea_nil (hls _)) ea_nil)) (hone _ _))) (fun hb H5 e5 => ?_) fun hb H5 e5 => ?_
      · rw [if_pos (of_decide_eq_true hb)]
        refine s_runloop (σ := fun b => [some (.str (S l)), some (.ref p), some (.int (a : Int)), some (.str ⟨#[l[a]]⟩), some (.int (b : Int))]) (l := l) (g := lt) (b0 := a + 1) hlt (fun b H' h _ => ?_) (fun b H' _ h => hend b H' h (x := .non) (ev_lenS (ev_var rfl) hL)) (fun b H' N _ k => s_asg (ev_op (ev_var rfl) ev_c rv_I0) k) fun H' e' => ⟨by rw [Nat.add_assoc], e5.trans e'⟩
        refine et_is (et_and (et_test (ev_op (ev_var rfl) (ev_lenS (ev_var rfl) hL) rv_I0)) fun _ => et_B (ev_ca (ea_cons (ev_ixS (ev_var rfl) (ev_var rfl) hL (by rw [S_tl]; exact atI_nat (List.getElem?_eq_getElem h))) (ea_cons (ev_ca ea_nil (hls _)) ea_nil)) (hone _ _))) ?_
        rw [S_len, dlt, decide_eq_true h, Bool.true_and]
      rw [if_neg (of_decide_eq_false hb)]
      refine s_if (b := decide (l[a] ∈ fg)) (et_test (ev_sub (ev_op (ev_var rfl) ev_c rv_inS) (by rw [t_fig, S_tl]))) (fun hb H6 e6 => ?_) fun hb H6 e6 => ?_
      · rw [if_pos (of_decide_eq_true hb)]
        refine s_runloop (σ := fun b => [some (.str (S l)), some (.ref p), some (.int (a : Int)), some (.str ⟨#[l[a]]⟩), some (.int (b : Int))]) (l := l) (g := fg) (b0 := a + 1) hlt (fun b H' h _ => ?_) (fun b H' _ h => hend b H' h (x := .non) (ev_lenS (ev_var rfl) hL)) (fun b H' N _ k => s_asg (ev_op (ev_var rfl) ev_c rv_I0) k) fun H' e' => ⟨by rw [Nat.add_assoc], (e5.trans e6).trans e'⟩
        refine et_is (et_and (et_test (ev_op (ev_var rfl) (ev_lenS (ev_var rfl) hL) rv_I0)) fun _ => et_test (ev_sub (ev_op (ev_ixS (ev_var rfl) (ev_var rfl) hL (by rw [S_tl]; exact atI_nat (List.getElem?_eq_getElem h))) ev_c rv_inS) (by rw [t_fig, S_tl]))) ?_
        rw [S_len, dlt, decide_eq_true h, Bool.true_and]
      rw [if_neg (of_decide_eq_false hb)]
      refine s_when (b := decide (l[a] = 61 ∧ (l.drop (a + 1)).take 1 = [61])) (et_is (et_and (et_test (ev_op (ev_var rfl) ev_c (rv_eq rfl))) fun _ => et_test (ev_op (ev_slS (ev_var rfl) (eo_some (ev_var rfl)) (eo_some (ev_op (ev_var rfl) ev_c rv_I0)) hL) ev_c (rv_eq rfl))) ?_) (fun hb H7 e7 => ?_) fun hb H7 e7 => ?_
      · rw [show ((a : Int) + 2) = ((a + 2 : Nat) : Int) from rfl, hcut 2, t_eq1, t_eq2, sgn, dec_S, dec_S, hs', List.take_succ_cons]
        by_cases h1 : l[a] = 61
        · simp [h1]
        · simp [h1]
      · rw [if_pos (of_decide_eq_true hb)]
        exact s_asg (ev_op (ev_var rfl) ev_c rv_I0) fun H8 e8 => ⟨rfl, ((e5.trans e6).trans e7).trans e8⟩
      · rw [if_neg (of_decide_eq_false hb)]
        exact ⟨rfl, (e5.trans e6).trans e7⟩
    rintro σ' H5 ⟨rfl, e5⟩
    have hk := rlen_pos l[a] (l.drop (a + 1))
    have hk2 := rlen_le (l[a] :: l.drop (a + 1))
    rw [← hs'] at hk hk2
    rw [List.length_drop] at hk2
    have e35 := (e3.trans e4).trans e5
    refine q_cut (M := fun σ' H' => ∃ (ws : List V) (done rest : List (List Nat × Nat)), Rws (l.drop (a + rlen (l.drop a))) (a + rlen (l.drop a)) rest ∧ R = done ++ rest ∧ H' p = some (.lst ws) ∧ TokV H' ws done ∧ Ex H H' ∧
      σ' = [some (.str (S l)), some (.ref p), some (.int (a : Int)), some (.str ⟨#[l[a]]⟩), some (.int ((a + rlen (l.drop a) : Nat) : Int))]) ?_ ?_
    · refine s_when (b := !decide (l[a] ∈ [32, 10])) (et_test (ev_sub (ev_op (ev_var rfl) ev_c rv_niS) (by rw [t_blank, S_tl]))) (fun hbl H6 e6 => ?_) fun hbl H6 e6 => ?_
      · have nbk : ¬ blank l[a] := fun z => by
          rw [decide_eq_true (show l[a] ∈ [32, 10] by simpa using z)] at hbl
          cases hbl
        rcases rws_inv hrest with ⟨z, _⟩ | ⟨_, rest', hre, h2⟩
        · exact absurd z nbk
        rw [← hs'] at hre h2
        have e36 := e35.trans e6
        refine s_appU (e36 _ _ hp') (ev_var rfl) (eu_tup (ea_cons (ev_sub (ev_slS (ev_var rfl) (eo_some (ev_var rfl)) (eo_some (ev_var rfl)) hL) (congrArg V.str (hcut _))) (ea_cons (ev_var rfl) ea_nil)) (by simp)) (by rw [htv.len]; omega) fun q H7 hq e7 hq7 => ?_
        have hp7 := e7 _ _ (e36 _ _ hp')
        refine ⟨ws ++ [.ref q], done ++ [((l.drop a).take (rlen (l.drop a)), a)], rest', ?_, ?_, upd_same, ?_, Ex.mut ((eH.trans e36).trans e7) hp, rfl⟩
        · rw [List.drop_drop] at h2
          exact h2
        · rw [hRe, hre, List.append_assoc]
          rfl
        · refine TokV.mono (tup_upd hp7) ?_
          exact TokV.snoc hq7 (htv.mono fun b xs z => e7 _ _ (e36 _ _ z))
      · have hbk : blank l[a] := by
          have z : decide (l[a] ∈ [32, 10]) = true := by
            cases hq : decide (l[a] ∈ [32, 10]) with
            | true => rfl
            | false =>
              rw [hq] at hbl
              cases hbl
          simpa using of_decide_eq_true z
        rcases rws_inv hrest with ⟨_, h2⟩ | ⟨nb, _⟩
        · have e36 := e35.trans e6
          have h1 : rlen (l.drop a) = 1 := by
            rw [hs']
            rcases hbk with z | z
            · rw [z]
              simp [rlen_cons, lt, sm, gr, fg]
            · rw [z]
              simp [rlen_cons, lt, sm, gr, fg]
          rw [h1]
          exact ⟨ws, done, rest, h2, hRe, e36 _ _ hp', htv.mono fun b xs z => e36 _ _ z, eH.trans e36, rfl⟩
        · exact absurd hbk nb
    rintro σ' H6 ⟨ws, done, rest, h1, h2, h3, h4, h5, rfl⟩
    exact s_asg (ev_var rfl) fun H7 e7 => ⟨_, by omega, a + rlen (l.drop a), _, _, ws, done, rest, rfl, by omega, h1, h2, e7 _ _ h3, h4.mono fun b xs z => e7 _ _ z, h5.trans e7, rfl⟩
  · have hge : l.length ≤ a := by rw [S_len] at hb'; have := of_decide_eq_false hb'; omega
    rw [List.drop_of_length_le hge] at hrest
    cases hrest
    rw [List.append_nil] at hRe
    subst hRe
    refine s_ret (ev_var rfl) fun H4 e4 => ?_
    have e := e3.trans e4
    exact qok p H4 ws hp (eH.trans e) (e _ _ hp') (htv.mono fun b xs z => e _ _ z)
end Q
set_option maxHeartbeats 4000000
namespace Q
open PySem PySem.Spec PyProof.Rows L2 Evl
variable {D : Wd} {aT cB cT cN fI : Addr} {fdI : FuncData}
def rAbsI : List V → Hp → VK → Prop := fun xs H Q => ∃ i : Int, xs = [.int i] ∧ Q (.int (if i < 0 then -i else i)) H
theorem call_absI {X : Cx} : CallR X (.builtin "abs") rAbsI := call_abs
def rIntI : List V → Hp → VK → Prop := fun xs H Q => (∃ i : Int, xs = [.int i] ∧ Q (.int i) H) ∨ ∃ k, xs = [.bl k] ∧ Q (.int (if k then 1 else 0)) H
theorem call_intI {X : Cx} : CallR X (.type "int") rIntI := call_int1
def rStrI : List V → Hp → VK → Prop := fun xs H Q => ∃ i : Int, xs = [.int i] ∧ i.natAbs.log2 < 1920 ∧ Q (.str (toString i)) H
theorem call_strI {X : Cx} : CallR X (.type "str") rStrI := call_str_int
theorem call_lenQ {X : Cx} : CallR X (.builtin "len") (rLen X.K) := call_len
section
variable {K : PySem.W.Frag} {σ : L2.St} {H H' : Hp} {ta tb te td ty tv : TE} {t u : TT} {x y z v : V} {D : Ends} {tz : TS}
theorem ev_abs {i : Int} (h : Ev ta σ H (.int i)) : Ev (tCB rAbsI (tCons ta tNil)) σ H (.int (if i < 0 then -i else i)) := fun H1 e Q q => h H1 e _ fun H2 e2 => ⟨i, rfl, q H2 e2⟩
theorem ev_int {i : Int} (h : Ev ta σ H (.int i)) : Ev (tCB rIntI (tCons ta tNil)) σ H (.int i) := fun H1 e Q q => h H1 e _ fun H2 e2 => .inl ⟨i, rfl, q H2 e2⟩
theorem ev_dget {d : Addr} {kvs : List (Key × V)} {k : Key} (hd : Ev td σ H (.ref d)) (hy : Ev ty σ H (kV k)) (hk : H d = some (.dK kvs)) (hv : valV kvs k = some v) : Ev (tDGet td ty) σ H v := fun H1 e Q q =>
  hd H1 e _ fun H2 e2 => hy H2 (e.trans e2) _ fun H3 e3 => ⟨d, v, rfl, by rw [← hv]; exact DGet.k (e3 _ _ (e2 _ _ (e _ _ hk))), q H3 (e2.trans e3)⟩
theorem q_put {d : Addr} {kvs : List (Key × V)} {k : Key} (hv : Ev tv σ H v) (hd : Ev td σ H (.ref d)) (hy : Ev ty σ H (kV k)) (hk : H d = some (.dK kvs)) (hl : kvs.length ≤ 1000) (c : ∀ H1, Ex H H1 → tz D σ (upd H1 d (.dK (putK kvs k v)))) : tSeq (sDPut td ty tv) tz D σ H :=
  hv H (Ex.refl H) _ fun H1 e1 => hd H1 e1 _ fun H2 e2 => hy H2 (e1.trans e2) _ fun H3 e3 => ⟨d, _, rfl, DPut.k (e3 _ _ (e2 _ _ (e1 _ _ hk))) (Nat.lt_of_le_of_lt hl (by decide)), c H3 ((e1.trans e2).trans e3)⟩
end
/-! ### the draws -/
def kv (la ca : Addr) (r t : Int) : List (Key × V) := [(.inr "large", .ref la), (.inr "cells", .ref ca), (.inr "rest", .int r), (.inr "turn", .int t)]
theorem n1 : ¬ ((.inr "large" : Key) = .inr "cells") := by decide +kernel
theorem n2 : ¬ ((.inr "large" : Key) = .inr "rest") := by decide +kernel
theorem n3 : ¬ ((.inr "large" : Key) = .inr "turn") := by decide +kernel
theorem n4 : ¬ ((.inr "cells" : Key) = .inr "rest") := by decide +kernel
theorem n5 : ¬ ((.inr "cells" : Key) = .inr "turn") := by decide +kernel
theorem n6 : ¬ ((.inr "rest" : Key) = .inr "turn") := by decide +kernel
theorem kv_large (la ca : Addr) (r t : Int) : valV (kv la ca r t) (.inr "large") = some (.ref la) := valV_pos rfl
theorem kv_cells (la ca : Addr) (r t : Int) : valV (kv la ca r t) (.inr "cells") = some (.ref ca) := by unfold kv; rw [valV_neg n1, valV_pos rfl]
theorem kv_rest (la ca : Addr) (r t : Int) : valV (kv la ca r t) (.inr "rest") = some (.int r) := by unfold kv; rw [valV_neg n2, valV_neg n4, valV_pos rfl]
theorem kv_turn (la ca : Addr) (r t : Int) : valV (kv la ca r t) (.inr "turn") = some (.int t) := by unfold kv; rw [valV_neg n3, valV_neg n5, valV_neg n6, valV_pos rfl]
theorem kv_prest (la ca : Addr) (r t r' : Int) : putK (kv la ca r t) (.inr "rest") (.int r') = kv la ca r' t := by
  have h : ((kv la ca r t).any fun p => decide (p.1 = (.inr "rest" : Key))) = true := by rw [valV_any, kv_rest]; rfl
  unfold putK
  rw [if_pos h]
  unfold kv
  rw [List.map_cons, List.map_cons, List.map_cons, List.map_cons, if_neg n2, if_neg n4, if_pos rfl, if_neg (fun z => n6 z.symm)]
  rfl
theorem kv_pturn (la ca : Addr) (r t t' : Int) : putK (kv la ca r t) (.inr "turn") (.int t') = kv la ca r t' := by
  have h : ((kv la ca r t).any fun p => decide (p.1 = (.inr "turn" : Key))) = true := by rw [valV_any, kv_turn]; rfl
  unfold putK
  rw [if_pos h]
  unfold kv
  rw [List.map_cons, List.map_cons, List.map_cons, List.map_cons, if_neg n3, if_neg n5, if_neg n6, if_pos rfl]
  rfl
def Dr (H : Hp) (d la : Addr) : Prop := ∃ (ca : Addr) (bs cs : List Int) (r t : Int), la ≠ ca ∧ H d = some (.dK (kv la ca r t)) ∧ H la = some (.lst (bs.map V.int)) ∧ H ca = some (.lst (cs.map V.int)) ∧ bs.length ≤ 1000 ∧ cs.length ≤ 1000
structure Dx (d la : Addr) (H H' : Hp) : Prop where
  keep : ∀ a o, H a = some o → a ≠ d → a ≠ la → H' a = some o
  dr : Dr H' d la
theorem Dr.ex {H H' : Hp} {d la : Addr} (h : Dr H d la) (e : Ex H H') : Dr H' d la := by
  obtain ⟨ca, bs, cs, r, t, n, a, b, c, l1, l2⟩ := h
  exact ⟨ca, bs, cs, r, t, n, e _ _ a, e _ _ b, e _ _ c, l1, l2⟩
theorem Dx.of {H H' : Hp} {d la : Addr} (h : Dr H d la) (e : Ex H H') : Dx d la H H' := ⟨fun a o q _ _ => e a o q, h.ex e⟩
theorem Dx.refl {H : Hp} {d la : Addr} (h : Dr H d la) : Dx d la H H := .of h (Ex.refl H)
theorem Dx.trans {H H' H2 : Hp} {d la : Addr} (a : Dx d la H H') (b : Dx d la H' H2) : Dx d la H H2 := ⟨fun x o q n m => b.keep x o (a.keep x o q n m) n m, b.dr⟩
theorem Dx.ext {H H' H2 : Hp} {d la : Addr} (a : Dx d la H H') (e : Ex H' H2) : Dx d la H H2 := a.trans (.of a.dr e)
theorem Dx.back {H H' : Hp} {d la p : Addr} (a : Dx d la H H') (h : H' p = none) : H p = none := by
  obtain ⟨ca, bs, cs, r, t, n, x, y, c, l1, l2⟩ := a.dr
  cases q : H p with
  | none => rfl
  | some o =>
    have h1 : p ≠ d := fun z => by rw [z, x] at h; cases h
    have h2 : p ≠ la := fun z => by rw [z, y] at h; cases h
    rw [a.keep p o q h1 h2] at h
    cases h
def spMixed : Sp := fun vs H Q _ => vs.length = 1 ∧ ∃ d la, vs = [.ref d] ∧ Dr H d la ∧ ∀ (i : Int) H2, Dx d la H H2 → Q (.int i) H2
abbrev s__law_mixed : Stmt := top 24
abbrev N__law_mixed : List Str := ["draw", "turn", "found", "prime", "stirred", "cell"]
theorem sc__law_mixed : FnScope N__law_mixed ["draw"] (defScope s__law_mixed) := ⟨rfl, rfl, rfl, by decide +kernel, rfl, by decide +kernel, by decide +kernel⟩
theorem c_l_mixed (T : Tx D aT cB cT cN fI fdI) : Ca D false 1 "_law_mixed" 1 spMixed := by
  obtain ⟨f, fd, F, gm⟩ := T.f24
  refine ca_mk (st := s__law_mixed) (N := N__law_mixed) (ps := ["draw"]) false F gm sc__law_mixed (F.bindsN fun _ _ _ _ _ _ us hl => match us, hl with | [_], _ => rfl) (fun vs H Q E h => h.1) fun cdv A outer s H vs Q E hG hr h => ?_
  have nd := sc__law_mixed.nd
  refine ⟨_, (pss_cons (ps_par (i := 1) (j := 2) (by rfl) nd rfl rfl (by decide) rfl rfl (pa_cons (pe_op op_add (pe_dget (hu_of hr) (pv 0) pe_str (fun _ _ => rfl)) pe_int) (pa_cons pe_int pa_nil)) (by rfl))
    (pss_cons (ps_dput (hu_of hr) (pv 0) pe_str (pv 1) rfl)
    (pss_cons (ps_for (passes_of rfl) rfl (pi_list (pe_lst (pa_cons pe_int (pa_cons pe_int (pa_cons pe_int pa_nil))))) (pg_name (i := 3) nd rfl (Or.inl rfl))
      (pss_cons (ps_set (i := 4) nd rfl (Or.inl rfl) (pe_op op_mod (pe_callTy call_intI (by rfl) T.n_int (by decide +kernel) (pa_cons (pe_op op_add (pe_op op_mul (pv 1) pe_int) (pe_op op_fdiv (pv 3) pe_int)) pa_nil)) (pv 3)))
      (pss_cons (ps_for (passes_of rfl) rfl (pi_list (pe_dget (hu_of hr) (pv 0) pe_str (fun _ _ => rfl))) (pg_name (i := 5) nd rfl (Or.inl rfl))
        (pss_one (ps_set (i := 4) nd rfl (Or.inl rfl) (pe_op op_mod (pe_callTy call_intI (by rfl) T.n_int (by decide +kernel) (pa_cons (pe_op op_add (pe_op op_add (pe_op op_mul (pv 4) pe_int) (pv 5)) (pv 1)) pa_nil)) (pv 3)))))
      (pss_one (ps_set (i := 2) nd rfl (Or.inl rfl) (pe_op op_add (pe_op op_mul (pv 2) pe_int) (pe_op op_mod (pe_callTy call_intI (by rfl) T.n_int (by decide +kernel) (pa_cons (pe_op op_pow (pv 4) pe_int) pa_nil)) (pv 3))))))))
    (pss_one (ps_ret (pv 2)))))), ?_⟩
  obtain ⟨_, d, la, rfl, ⟨ca, bs, cs, r, t, nlc, hd, hla, hca, lb, lc⟩, q⟩ := h
  refine q_parV (v := .int (t + 1)) (w := .int 0) (ea_cons (ev_op (ev_dget (ev_var rfl) ev_c hd (kv_turn la ca r t)) ev_c rv_I0) (ea_cons ev_c ea_nil)) fun H1 e1 => ?_
  refine q_put (k := .inr "turn") (ev_var rfl) (ev_var rfl) ev_c (e1 _ _ hd) (show 4 ≤ 1000 by decide) fun H2 e2 => ?_
  rw [kv_pturn]
  have e12 := e1.trans e2
  have ndl : ∀ {a xs}, H2 a = some (.lst xs) → a ≠ d := fun {a xs} h => ne_of h (e12 _ _ hd) (by simp)
  have hla2 : upd H2 d (.dK (kv la ca r (t + 1))) la = some (.lst (bs.map V.int)) := by rw [upd_ne (ndl (e12 _ _ hla))]; exact e12 _ _ hla
  have hca2 : upd H2 d (.dK (kv la ca r (t + 1))) ca = some (.lst (cs.map V.int)) := by rw [upd_ne (ndl (e12 _ _ hca))]; exact e12 _ _ hca
  have D2 : Dx d la H (upd H2 d (.dK (kv la ca r (t + 1)))) := ⟨fun a o h n _ => by rw [upd_ne n]; exact e12 _ _ h, ca, bs, cs, r, t + 1, nlc, upd_same, hla2, hca2, lb, lc⟩
  have hd2 : upd H2 d (.dK (kv la ca r (t + 1))) d = some (.dK (kv la ca r (t + 1))) := upd_same
  generalize upd H2 d (.dK (kv la ca r (t + 1))) = G at D2 hd2 hla2 hca2
  refine q_forNLn (xs := [.int 2147483647, .int 2147483587, .int 2147483579]) (el_lst (ea_cons ev_c (ea_cons ev_c (ea_cons ev_c ea_nil))) (by simp)) (fun p i σ' H' => ∃ (f : Int) (v3 v4 v5 : Option V), σ' = [some (.ref d), some (.int (t + 1)), some (.int f), v3, v4, v5] ∧ Ex G H' ∧ H' p = some (.lst [.int 2147483647, .int 2147483587, .int 2147483579]))
    (fun p H1 hp e h1 => ⟨0, none, none, none, rfl, e, h1⟩) (fun p i σ' H' _ ⟨f, v3, v4, v5, _, _, h⟩ => sq_of h) ?_ ?_
  · rintro p i x σ' H' hx ⟨f, v3, v4, v5, rfl, eG, hp⟩
    obtain ⟨pr, rfl, p1, p2⟩ : ∃ pr : Int, x = .int pr ∧ 0 < pr ∧ pr < 4294967296 := by
      have hm : x ∈ [V.int 2147483647, V.int 2147483587, V.int 2147483579] := List.mem_of_getElem? hx
      simp at hm
      rcases hm with rfl | rfl | rfl
      · exact ⟨_, rfl, by decide, by decide⟩
      · exact ⟨_, rfl, by decide, by decide⟩
      · exact ⟨_, rfl, by decide, by decide⟩
    refine q_asg (ev_op (ev_int (ev_op (ev_op (ev_var rfl) ev_c (rv_I (.inr (by decide)))) (ev_op (ev_var rfl) ev_c (rv_I (by unfold CDiv; decide))) rv_I0)) (ev_var rfl) (rv_I p1)) fun H1 e1 => ?_
    refine q_forLn (ev_dget (ev_var rfl) ev_c ((eG.trans e1) _ _ hd2) (kv_cells la ca r (t + 1))) (sq_of ((eG.trans e1) _ _ hca2)) (fun i σ' H' => ∃ (s : Int) (v5 : Option V), σ' = [some (.ref d), some (.int (t + 1)), some (.int f), some (.int pr), some (.int s), v5] ∧ (0 ≤ s ∧ s < 4294967296) ∧ Ex H1 H') (fun H2 e2 => ⟨_, v5, rfl, ⟨Int.emod_nonneg _ (by omega), Int.lt_trans (Int.emod_lt_of_pos _ p1) p2⟩, e2⟩) (fun i σ' H' _ ⟨s, v5, _, _, e⟩ => sq_of (e _ _ ((eG.trans e1) _ _ hca2))) ?_ ?_
    · rintro i x σ' H' hx ⟨s, v5, rfl, hs, e2⟩
      obtain ⟨c, hc⟩ : ∃ c : Int, x = .int c := by
        obtain ⟨c, _, e⟩ := List.mem_map.mp (List.mem_of_getElem? hx)
        exact ⟨c, e.symm⟩
      subst hc
      exact s_asg (ev_op (ev_int (ev_op (ev_op (ev_op (ev_var rfl) ev_c (rv_I (.inr (by decide)))) (ev_var rfl) rv_I0) (ev_var rfl) rv_I0)) (ev_var rfl) (rv_I p1)) fun H3 e3 => ⟨_, _, rfl, ⟨Int.emod_nonneg _ (by omega), Int.lt_trans (Int.emod_lt_of_pos _ p1) p2⟩, e2.trans e3⟩
    · rintro σ' H' ⟨s, v5, rfl, hs, e2⟩
      exact s_asg (ev_op (ev_op (ev_var rfl) ev_c (rv_I (.inr (by decide)))) (ev_op (ev_int (ev_op (ev_var rfl) ev_c (rv_I (by unfold CPow; exact ⟨by decide, by decide, by omega⟩)))) (ev_var rfl) (rv_I p1)) rv_I0) fun H3 e3 => ⟨_, _, _, _, rfl, ((eG.trans e1).trans e2).trans e3, e3 _ _ (e2 _ _ (e1 _ _ hp))⟩
  · rintro p σ' H' ⟨f, v3, v4, v5, rfl, eG, _⟩
    exact s_ret (ev_var rfl) fun H1 e1 => q _ H1 (D2.ext (eG.trans e1))
end Q
set_option maxHeartbeats 4000000
namespace Q
open PySem PySem.Spec PyProof.Rows L2 Evl
variable {D : Wd} {aT cB cT cN fI : Addr} {fdI : FuncData}
/-- draw, a number: a number below it -/
def spTake : Sp := fun vs H Q _ => vs.length = 2 ∧ ∃ d la n, vs = [.ref d, .int n] ∧ Dr H d la ∧ (0 < n ∧ n < 1073741824) ∧ ∀ (i : Int) H2, (0 ≤ i ∧ i < n) → Dx d la H H2 → Q (.int i) H2
theorem dpL_is (K : PySem.W.Frag) (H : Hp) : ∀ bs : List Int, DpAll K H (bs.map V.int) (bs.map PyData.int)
  | [] => .nil
  | b :: bs => .cons (.int b) (dpL_is K H bs)
theorem shaped_is (bs : List Int) : SeqAt.shaped (.list (bs.map .int)) = true := by
  have h1 : PyData.canLayAll0 (bs.map .int) = true ∧ PyData.depthAll (bs.map .int) = 0 := by
    induction bs with
    | nil => exact ⟨rfl, rfl⟩
    | cons n bs ih =>
      refine ⟨?_, ?_⟩
      · show (true && PyData.canLayAll0 (bs.map .int)) = true
        rw [ih.1]
        rfl
      · show max 0 (PyData.depthAll (bs.map .int)) = 0
        rw [ih.2]
        rfl
  show (PyData.canLayAll0 _ && decide (PyData.depthAll _ + 1 ≤ 64)) = true
  rw [h1.1, h1.2]
  rfl
abbrev s__law_take : Stmt := top 25
abbrev N__law_take : List Str := ["draw", "many", "found"]
theorem sc__law_take : FnScope N__law_take ["draw", "many"] (defScope s__law_take) := ⟨rfl, rfl, rfl, by decide +kernel, rfl, by decide +kernel, by decide +kernel⟩
theorem c_l_take (T : Tx D aT cB cT cN fI fdI) : Ca D false 2 "_law_take" 2 spTake := by
  have c_l_mixed := c_l_mixed T
  obtain ⟨f, fd, F, gm⟩ := T.f25
  refine ca_mk (st := s__law_take) (N := N__law_take) (ps := ["draw", "many"]) false F gm sc__law_take (F.bindsN fun _ _ _ _ _ _ us hl => match us, hl with | [_, _], _ => rfl) (fun vs H Q E h => h.1) fun cdv A outer s H vs Q E hG hr h => ?_
  have nd := sc__law_take.nd
  have hu := hr.units
  refine ⟨_, (Evl.pss_cut (ps_if (pt_cmpR op_eq (pe_dget (hu_of hr) (pv 0) pe_str (fun _ _ => rfl)) pe_int (nomark _)) (pss_one (ps_dput (hu_of hr) (pv 0) pe_str (pe_ifExp (pt_cmpR (op_neD hu) (pe_dget (hu_of hr) (pv 0) pe_str (fun _ _ => rfl)) (pe_lst pa_nil) (nomark _)) (pe_bm PySem.F.plainAttrs_list PySem.F.slot_list_pop PySem.F.type_list_pop mt_popAt (pe_dget (hu_of hr) (pv 0) pe_str (fun _ _ => rfl)) (pa_cons pe_int pa_nil)) (pe_ca c_l_mixed (fun z => nomatch z) hr (by decide) passL rfl (pa_cons (pv 0) pa_nil))) rfl)) pss_nil)
    (pss_cons (ps_set (i := 2) nd rfl (Or.inl rfl) (pe_op op_mod (pe_callTy call_intI (by rfl) T.n_int (by decide +kernel) (pa_cons (pe_dget (hu_of hr) (pv 0) pe_str (fun _ _ => rfl)) pa_nil)) (pv 1)))
    (pss_cons (ps_dput (hu_of hr) (pv 0) pe_str (pe_op op_fdiv (pe_callTy call_intI (by rfl) T.n_int (by decide +kernel) (pa_cons (pe_dget (hu_of hr) (pv 0) pe_str (fun _ _ => rfl)) pa_nil)) (pv 1)) rfl)
    (pss_one (ps_ret (pv 2)))))), ?_⟩
  obtain ⟨_, d, la, n, rfl, D0, ⟨n1', n2'⟩, q⟩ := h
  refine q_cut (M := fun σ' H' => σ' = [some (.ref d), some (.int n), none] ∧ Dx d la H H') ?_ ?_
  · obtain ⟨ca, bs, cs, r, t, nlc, hd, hla, hca, lb, lc⟩ := id D0
    refine s_when (b := decide (V.int r = V.int 0)) (et_test (ev_op (ev_dget (ev_var rfl) ev_c hd (kv_rest la ca r t)) ev_c (rv_eq rfl))) (fun hb H1 e1 => ?_) fun hb H1 e1 => ⟨rfl, .of D0 e1⟩
    -- what comes, then the put
    have put : ∀ (i : Int) H2, Dx d la H H2 → ∀ (td ty : TE), Ev td ([some (.ref d), some (.int n), none] : L2.St) H2 (.ref d) → Ev ty ([some (.ref d), some (.int n), none] : L2.St) H2 (.str "rest") → ∀ D : Ends, (∀ H', Dx d la H H' → D.nx [some (.ref d), some (.int n), none] H') →
        td ([some (.ref d), some (.int n), none] : L2.St) H2 fun x H3 => ty ([some (.ref d), some (.int n), none] : L2.St) H3 fun y H4 => ∃ a H5, x = .ref a ∧ DPut H4 a y (.int i) H5 ∧ D.nx [some (.ref d), some (.int n), none] H5 := by
      intro i H2 D2 td ty htd hty D hD
      refine htd H2 (Ex.refl H2) _ fun H3 e3 => hty H3 e3 _ fun H4 e4 => ?_
      have D4 := D2.ext (e3.trans e4)
      obtain ⟨ca', bs', cs', r', t', nlc', hd', hla', hca', lb', lc'⟩ := D4.dr
      refine ⟨d, _, rfl, DPut.k (k := .inr "rest") hd' (Nat.lt_of_le_of_lt (show 4 ≤ 1000 by decide) (by decide)), ?_⟩
      rw [kv_prest]
      have ndl : ∀ {a xs}, H4 a = some (.lst xs) → a ≠ d := fun {a xs} h => ne_of h hd' (by simp)
      exact hD _ ⟨fun a o h x y => by rw [upd_ne x]; exact D4.keep a o h x y, ca', bs', cs', i, t', nlc', upd_same, by rw [upd_ne (ndl hla')]; exact hla', by rw [upd_ne (ndl hca')]; exact hca', lb', lc'⟩
    have hb2 : EvT (tTest (tOp (rNeD (bodyCx D N__law_take "_law_take" (defScope s__law_take) f cdv A outer s H E).K) (tDGet (tVar 0) (tC (.str "large"))) (tLst tNil))) ([some (.ref d), some (.int n), none] : L2.St) H1 (!PyData.eqv (.list (bs.map .int)) (.list [])) :=
      et_test (ev_opL (ev_dget (ev_var rfl) ev_c (e1 _ _ hd) (kv_large la ca r t)) el_nil fun p H2 hp e2 H3 e3 Q q' => ⟨_, _, .lst (sq_of (e3 _ _ (e2 _ _ (e1 _ _ hla)))) (dpL_is _ _ bs), .lst (sq_of (e3 _ _ hp)) .nil, shaped_is bs, rfl, q' H3 (Ex.refl H3)⟩)
    refine hb2 H1 (Ex.refl H1) _ fun H2 e2 => ?_
    have e12 := e1.trans e2
    cases bs with
    | nil =>
      rw [if_neg (by decide)]
      refine (show EvA (tCons (tVar 0) tNil) ([some (.ref d), some (.int n), none] : L2.St) H2 [.ref d] from ea_cons (ev_var rfl) ea_nil) H2 (Ex.refl H2) _ fun H3 e3 => ⟨rfl, d, la, rfl, D0.ex (e12.trans e3), fun i H4 D4 => put i H4 ((Dx.of D0 (e12.trans e3)).trans D4) _ _ (ev_var rfl) ev_c _ fun H' D' => ⟨rfl, D'⟩⟩
    | cons b bs =>
      rw [if_pos (by rfl)]
      refine (show Ev (tDGet (tVar 0) (tC (.str "large"))) ([some (.ref d), some (.int n), none] : L2.St) H2 (.ref la) from ev_dget (ev_var rfl) ev_c (e12 _ _ hd) (kv_large la ca r t)) H2 (Ex.refl H2) _ fun H3 e3 => ⟨.inl ⟨rfl, _, sq_of (e3 _ _ (e12 _ _ hla))⟩, ?_⟩
      refine (show EvA (tCons (tC (.int 0)) tNil) ([some (.ref d), some (.int n), none] : L2.St) H3 [.int 0] from ea_cons ev_c ea_nil) H3 (Ex.refl H3) _ fun H4 e4 => ⟨la, (b :: bs).map V.int, 0, 0, .int b, rfl, rfl, (e3.trans e4) _ _ (e12 _ _ hla), by decide, by decide, ?_, rfl, ?_⟩
      · have h1 : ((b :: bs).map V.int).length = bs.length + 1 := by simp
        rw [h1]
        unfold seqIndex?
        simp
      · have e14 := e12.trans (e3.trans e4)
        have h4 : H4 ca ≠ none ∧ ca ≠ la := ⟨by rw [e14 _ _ hca]; simp, Ne.symm nlc⟩
        refine put b (upd H4 la (.lst (((b :: bs).map V.int).eraseIdx 0))) ⟨fun a o h x y => by rw [upd_ne y]; exact e14 a o h, ca, bs, cs, r, t, nlc, ?_, upd_same, by rw [upd_ne h4.2]; exact e14 _ _ hca, by simp at lb; omega, lc⟩ _ _ (ev_var rfl) ev_c _ fun H' D' => ⟨rfl, D'⟩
        rw [upd_ne (ne_of (e14 _ _ hd) (e14 _ _ hla) (by simp))]
        exact e14 _ _ hd
  · rintro σ' H1 ⟨rfl, D1⟩
    obtain ⟨ca, bs, cs, r, t, nlc, hd, hla, hca, lb, lc⟩ := D1.dr
    refine q_asg (ev_op (ev_int (ev_dget (ev_var rfl) ev_c hd (kv_rest la ca r t))) (ev_var rfl) (rv_I n1')) fun H2 e2 => ?_
    refine q_put (k := .inr "rest") (ev_op (ev_int (ev_dget (ev_var rfl) ev_c (e2 _ _ hd) (kv_rest la ca r t))) (ev_var rfl) (rv_I ⟨n1', n2'⟩)) (ev_var rfl) ev_c (e2 _ _ hd) (show 4 ≤ 1000 by decide) fun H3 e3 => ?_
    rw [kv_prest]
    have e13 := e2.trans e3
    have ndl : ∀ {a xs}, H3 a = some (.lst xs) → a ≠ d := fun {a xs} h => ne_of h (e13 _ _ hd) (by simp)
    refine s_ret (ev_var rfl) fun H4 e4 => q _ H4 ⟨Int.emod_nonneg _ (by omega), Int.emod_lt_of_pos _ n1'⟩ (Dx.ext (Dx.trans (D1.ext e13) ⟨fun a o h x _ => by rw [upd_ne x]; exact h, ca, bs, cs, r / n, t, nlc, upd_same, by rw [upd_ne (ndl (e13 _ _ hla))]; exact e13 _ _ hla, by rw [upd_ne (ndl (e13 _ _ hca))]; exact e13 _ _ hca, lb, lc⟩) e4)
end Q
set_option maxHeartbeats 4000000
namespace Q
open PySem PySem.Spec PyProof.Rows L2 Evl
variable {D : Wd} {aT cB cT cN fI : Addr} {fdI : FuncData}
def PickOf (x : V) (H : Hp) (la : Addr) (P : V → Prop) : Prop := (∃ l, x = .str (S l) ∧ l ≠ [] ∧ l.length ≤ 1000 ∧ ∀ c ∈ l, P (.str (S [c]))) ∨ (∃ p xs, x = .ref p ∧ p ≠ la ∧ H p = some (.lst xs) ∧ xs ≠ [] ∧ xs.length ≤ 1000 ∧ ∀ y ∈ xs, P y)
def spPick : Sp := fun vs H Q _ => vs.length = 2 ∧ ∃ d la x P, vs = [.ref d, x] ∧ Dr H d la ∧ PickOf x H la P ∧ ∀ v H2, P v → Dx d la H H2 → Q v H2
theorem int_nat {i : Int} {n : Nat} (h : 0 ≤ i ∧ i < (n : Int)) : ∃ k : Nat, i = (k : Int) ∧ k < n := ⟨i.toNat, by omega, by omega⟩
abbrev s__law_pick : Stmt := top 26
abbrev N__law_pick : List Str := ["draw", "some"]
theorem sc__law_pick : FnScope N__law_pick ["draw", "some"] (defScope s__law_pick) := ⟨rfl, rfl, rfl, by decide +kernel, rfl, by decide +kernel, by decide +kernel⟩
theorem c_l_pick (T : Tx D aT cB cT cN fI fdI) : Ca D false 3 "_law_pick" 2 spPick := by
  have c_l_take := c_l_take T
  obtain ⟨f, fd, F, gm⟩ := T.f26
  refine ca_mk (st := s__law_pick) (N := N__law_pick) (ps := ["draw", "some"]) false F gm sc__law_pick (F.bindsN fun _ _ _ _ _ _ us hl => match us, hl with | [_, _], _ => rfl) (fun vs H Q E h => h.1) fun cdv A outer s H vs Q E hG hr h => ?_
  have nd := sc__law_pick.nd
  refine ⟨_, (pss_one (ps_ret (pe_ix ix_seq (pv 1) (pe_ca c_l_take (fun z => nomatch z) hr (by decide) passL rfl (pa_cons (pv 0) (pa_cons (pe_callB call_lenQ (by rfl) T.n_len (by decide +kernel) (pa_cons (pv 1) pa_nil)) pa_nil))) (fun _ _ => rfl)))), ?_⟩
  obtain ⟨_, d, la, x, P, rfl, D0, hp, q⟩ := h
  refine ⟨_, rfl, ?_⟩
  rcases hp with ⟨l, rfl, hne, hl, hP⟩ | ⟨p, xs, rfl, hpl, hpx, hne, hl, hP⟩
  · have hpos : 0 < l.length := List.length_pos_iff.mpr hne
    refine (show EvA (tCons (tVar 0) (tCons (tCB (rLen _) (tCons (tVar 1) tNil)) tNil)) (L2.start N__law_pick [V.ref d, V.str (S l)]) H [.ref d, .int (l.length : Int)] from ea_cons (ev_var rfl) (ea_cons (fun H1 e1 Q q => ⟨_, rfl, .str (S l), l.length, rfl, ⟨Nat.le_trans (by rw [S_len]; exact hl) (by decide), (S_len l).symm⟩, q H1 (Ex.refl H1)⟩) ea_nil)) H (Ex.refl H) _ fun H2 e2 => ⟨rfl, d, la, _, rfl, D0.ex e2, ⟨by omega, by omega⟩, fun i H3 hi D3 => ?_⟩
    obtain ⟨k, rfl, hk⟩ := int_nat hi
    refine .inr (.inr ⟨S l, (k : Int), l[k], rfl, rfl, Nat.le_trans (by rw [S_len]; exact hl) (by decide), by rw [S_tl]; exact atI_nat (List.getElem?_eq_getElem hk), ?_⟩)
    exact q _ H3 (hP _ (List.getElem_mem hk)) ((Dx.of D0 e2).trans D3)
  · have hpos : 0 < xs.length := List.length_pos_iff.mpr hne
    refine (show EvA (tCons (tVar 0) (tCons (tCB (rLen _) (tCons (tVar 1) tNil)) tNil)) (L2.start N__law_pick [V.ref d, V.ref p]) H [.ref d, .int (xs.length : Int)] from ea_cons (ev_var rfl) (ea_cons (fun H1 e1 Q q => ⟨_, rfl, .ref p, xs.length, rfl, .inl ⟨xs, sq_of (e1 _ _ hpx), rfl⟩, q H1 (Ex.refl H1)⟩) ea_nil)) H (Ex.refl H) _ fun H2 e2 => ⟨rfl, d, la, _, rfl, D0.ex e2, ⟨by omega, by omega⟩, fun i H3 hi D3 => ?_⟩
    obtain ⟨k, rfl, hk⟩ := int_nat hi
    have hpd : p ≠ d := by
      obtain ⟨ca, bs, cs, r, t, nlc, hd, _⟩ := D0
      exact ne_of hpx hd (by simp)
    refine .inl ⟨p, xs, (k : Int), xs[k], rfl, rfl, sq_of (D3.keep _ _ (e2 _ _ hpx) hpd hpl), atI_nat (List.getElem?_eq_getElem hk), ?_⟩
    exact q _ H3 (hP _ (List.getElem_mem hk)) ((Dx.of D0 e2).trans D3)
section
variable {K : PySem.W.Frag} {σ : L2.St} {H H' : Hp} {ta tb te tl : TE} {t u : TT} {x y z v : V} {Dn : Ends} {tz tu : TS} {d la : Addr} {E : XK} {Q : VK}
theorem takeC {n : Int} (h0 : σ[0]? = some (some (.ref d))) (hn : Ev te σ H (.int n)) (hb : 0 < n ∧ n < 1073741824) (D0 : Dr H d la) (q : ∀ (i : Int) H2, (0 ≤ i ∧ i < n) → Dx d la H H2 → Q (.int i) H2) : tCa spTake E (tCons (tVar 0) (tCons te tNil)) σ H Q :=
  (show EvA (tCons (tVar 0) (tCons te tNil)) σ H [.ref d, .int n] from ea_cons (ev_var h0) (ea_cons hn ea_nil)) H (Ex.refl H) _ fun H2 e2 => ⟨rfl, d, la, n, rfl, D0.ex e2, hb, fun i H3 hi D3 => q i H3 hi ((Dx.of D0 e2).trans D3)⟩
theorem pickS {zs : Str} {l : List Nat} {P : V → Prop} (h0 : σ[0]? = some (some (.ref d))) (hs : Ev te σ H (.str zs)) (ez : zs = S l) (hl : l ≠ [] ∧ l.length ≤ 1000) (hP : ∀ c ∈ l, P (.str (S [c]))) (D0 : Dr H d la) (q : ∀ v H2, P v → Dx d la H H2 → Q v H2) : tCa spPick E (tCons (tVar 0) (tCons te tNil)) σ H Q :=
  (show EvA (tCons (tVar 0) (tCons te tNil)) σ H [.ref d, .str zs] from ea_cons (ev_var h0) (ea_cons hs ea_nil)) H (Ex.refl H) _ fun H2 e2 => ⟨rfl, d, la, _, P, rfl, D0.ex e2, .inl ⟨l, by rw [ez], hl.1, hl.2, hP⟩, fun v H3 hv D3 => q v H3 hv ((Dx.of D0 e2).trans D3)⟩
theorem Dr.lst_ne {H : Hp} (D0 : Dr H d la) : ∀ p, H p = none → p ≠ la := fun p h z => by
  obtain ⟨ca, bs, cs, r, t, nlc, hd, hla, _⟩ := D0
  rw [z, hla] at h
  cases h
theorem pickL {xs : List V} {P : V → Prop} (h0 : σ[0]? = some (some (.ref d))) (hs : EvL tl σ H xs) (hl : xs ≠ [] ∧ xs.length ≤ 1000) (hP : ∀ y ∈ xs, P y) (D0 : Dr H d la) (q : ∀ v H2, P v → Dx d la H H2 → Q v H2) : tCa spPick E (tCons (tVar 0) (tCons tl tNil)) σ H Q :=
  ⟨_, h0, hs H (Ex.refl H) _ fun p H2 hp e2 h2 => ⟨rfl, d, la, _, P, rfl, D0.ex e2, .inr ⟨p, xs, rfl, D0.lst_ne p hp, h2, hl.1, hl.2, hP⟩, fun v H3 hv D3 => q v H3 hv ((Dx.of D0 e2).trans D3)⟩⟩
theorem q_asgP {i : Nat} {P : V → Prop} (h : ∀ Q : VK, (∀ v H2, P v → Dx d la H H2 → Q v H2) → te σ H Q) (k : ∀ v H2, P v → Dx d la H H2 → tz Dn (σ.set i (some v)) H2) : tSeq (tAsg te (gName i)) tz Dn σ H := h _ fun v H2 p dx => k v H2 p dx
theorem s_asgP {i : Nat} {P : V → Prop} (h : ∀ Q : VK, (∀ v H2, P v → Dx d la H H2 → Q v H2) → te σ H Q) (k : ∀ v H2, P v → Dx d la H H2 → Dn.nx (σ.set i (some v)) H2) : tAsg te (gName i) Dn σ H := h _ fun v H2 p dx => k v H2 p dx
theorem q_forD {t : TA} {j M : Nat} (hM : M ≤ 100000) (hta : ∀ R : List V → Hp → Prop, (∀ (n : Nat) H1, n ≤ M → Dx d la H H1 → R [.int (n : Int)] H1) → t σ H R) (Pv : Nat → L2.St → Hp → Prop) (h0 : ∀ H1, Dx d la H H1 → Pv 0 σ H1)
    (hs : ∀ (i : Nat) σ' H', i < M → Pv i σ' H' → tu { Dn with nx := Pv (i + 1), ct := Pv (i + 1), bk := tz Dn } (σ'.set j (some (.int (i : Int)))) H') (hd : ∀ (i : Nat) σ' H', i ≤ M → Pv i σ' H' → tz Dn σ' H') : tSeq (tFor (iRng1 t) (gName j) tu) tz Dn σ H :=
  hta _ fun n H1 hn D1 => ⟨(n : Int), rfl, by omega, by omega, for_range (lo := 0) (n := n) Pv (h0 H1 D1) (fun i σ' H' hi p => by
    have e0 : (0 : Int) + (i : Int) = (i : Int) := Int.zero_add _
    show tu { Dn with nx := Pv (i + 1), ct := Pv (i + 1), bk := tz Dn } (σ'.set j (some (.int ((0 : Int) + (i : Int))))) H'
    rw [e0]
    exact hs i σ' H' (by omega) p) fun σ' H' p => hd n σ' H' hn p⟩
end
/-- a text of at most m signs below 128 -/
def okT (m : Nat) : V → Bool
  | .str z => decide (z.cps.toList.length ≤ m) && z.cps.toList.all (· < 128)
  | _ => false
theorem okT_S {m : Nat} {l : List Nat} (h1 : l.length ≤ m) (h2 : l.all (· < 128) = true) : okT m (.str (S l)) = true := by
  show (decide ((S l).cps.toList.length ≤ m) && (S l).cps.toList.all (· < 128)) = true
  rw [S_tl, h2, decide_eq_true h1]
  rfl
theorem okT_of {m : Nat} {v : V} (h : okT m v = true) : ∃ l, v = .str (S l) ∧ l.length ≤ m ∧ l.all (· < 128) = true := by
  cases v with
  | str z =>
    obtain ⟨a, b⟩ := Bool.and_eq_true_iff.mp (show (decide (z.cps.toList.length ≤ m) && z.cps.toList.all (· < 128)) = true from h)
    exact ⟨z.cps.toList, congrArg V.str (str_S z), of_decide_eq_true a, b⟩
  | _ => cases h
def spTxt (m : Nat) : Sp := fun vs H Q _ => vs.length = 1 ∧ ∃ d la, vs = [.ref d] ∧ Dr H d la ∧ ∀ v H2, okT m v = true → Dx d la H H2 → Q v H2
theorem sm_ok : ∀ c ∈ sm, c < 128 := by decide
theorem gr_ok : ∀ c ∈ gr, c < 128 := by decide
abbrev s__law_name : Stmt := top 29
abbrev N__law_name : List Str := ["draw", "found", "lap"]
theorem sc__law_name : FnScope N__law_name ["draw"] (defScope s__law_name) := ⟨rfl, rfl, rfl, by decide +kernel, rfl, by decide +kernel, by decide +kernel⟩
theorem c_l_name (T : Tx D aT cB cT cN fI fdI) : Ca D false 4 "_law_name" 1 (spTxt 16) := by
  have c_l_take := c_l_take T
  have c_l_pick := c_l_pick T
  obtain ⟨f, fd, F, gm⟩ := T.f29
  refine ca_mk (st := s__law_name) (N := N__law_name) (ps := ["draw"]) false F gm sc__law_name (F.bindsN fun _ _ _ _ _ _ us hl => match us, hl with | [_], _ => rfl) (fun vs H Q E h => h.1) fun cdv A outer s H vs Q E hG hr h => ?_
  have nd := sc__law_name.nd
  refine ⟨_, (pss_cons (ps_set (i := 1) nd rfl (Or.inl rfl) pe_str)
    (pss_cons (ps_for (passes_of rfl) rfl (pi_range1 rfl T.n_range (pa_cons (pe_op op_add pe_int (pe_ca c_l_take (fun z => nomatch z) hr (by decide) passL rfl (pa_cons (pv 0) (pa_cons pe_int pa_nil)))) pa_nil)) (pg_name (i := 2) nd rfl (Or.inl rfl))
      (pss_one (ps_set (i := 1) nd rfl (Or.inl rfl) (pe_op op_addS (pv 1) (pe_ca c_l_pick (fun z => nomatch z) hr (by decide) passL rfl (pa_cons (pv 0) (pa_cons pe_str pa_nil)))))))
    (pss_one (ps_ret (pe_ifExp (pt_cmpR op_in_seq (pv 1) (pe_lst (pa_cons pe_str (pa_cons pe_str (pa_cons pe_str (pa_cons pe_str pa_nil))))) (by rfl)) (pe_op op_addS (pv 1) pe_str) (pv 1)))))), ?_⟩
  obtain ⟨_, d, la, rfl, D0, q⟩ := h
  refine q_asg ev_c fun H1 e1 => ?_
  refine q_forD (d := d) (la := la) (M := 8) (by decide) (fun R k => ?_) (fun i σ' H' => ∃ (l : List Nat) (v2 : Option V), σ' = [some (.ref d), some (.str (S l)), v2] ∧ l.length ≤ i ∧ l.all (· < 128) = true ∧ Dx d la H H') (fun H2 D2 => ⟨[], none, by rw [show S [] = ("" : Str) from t_e.symm]; rfl, Nat.le_refl _, rfl, (Dx.of D0 e1).trans D2⟩) ?_ ?_
  · refine takeC rfl ev_c (by decide) (D0.ex e1) fun i H2 hi D2 => ⟨1, i, rfl, rfl, ?_⟩
    obtain ⟨n, rfl, hn⟩ := int_nat (n := 8) hi
    have z := k (n + 1) H2 (by omega) D2
    rw [show ((n + 1 : Nat) : Int) = 1 + (n : Int) by omega] at z
    exact z
  · rintro i σ' H' hi ⟨l, v2, rfl, hl, ha, D1⟩
    refine ⟨_, rfl, pickS (P := fun v => ∃ c ∈ sm, v = .str (S [c])) rfl ev_c t_small (by decide) (fun c hc => ⟨c, hc, rfl⟩) D1.dr fun v H2 ⟨c, hc, hv⟩ D2 => ?_⟩
    subst hv
    refine ⟨S l, S [c], rfl, rfl, Nat.le_trans (by rw [S_len, S_len]; simp; omega) (show 100 ≤ sizeLine by decide), l ++ [c], some (.int (i : Int)), ?_, by simp; omega, ?_, D1.trans D2⟩
    · show [_, some (V.str (S l ++ S [c])), _] = _
      rw [show S l ++ S [c] = S (l ++ [c]) from SX.S_cat l [c]]
    · rw [List.all_append, ha]
      simp [sm_ok c hc]
  · rintro i σ' H' hi ⟨l, v2, rfl, hl, ha, D1⟩
    have hx : (S l ++ ("x" : Str)) = S (l ++ [120]) := by rw [show ("x" : Str) = S [120] by decide +kernel]; exact SX.S_cat l [120]
    have hx1 : ("x" : Str).length = 1 := by decide +kernel
    refine s_ret (v := .str (S (if l ∈ tongue then l ++ [120] else l))) (ev_if (b := decide (l ∈ tongue)) (et_test (ev_isLs (ev_var rfl) el4 t_tong)) (fun hb => ?_) fun hb => ?_) fun H2 e2 => q _ H2 ?_ (D1.ext e2)
    · rw [if_pos (of_decide_eq_true hb)]
      exact ev_sub (ev_op (ev_var rfl) ev_c (rv_addS (by rw [hx1, S_len]; omega))) (congrArg V.str hx)
    · rw [if_neg (of_decide_eq_false hb)]
      exact ev_var rfl
    · by_cases h : l ∈ tongue
      · rw [if_pos h]
        exact okT_S (by simp; omega) (by rw [List.all_append, ha]; rfl)
      · rw [if_neg h]
        exact okT_S (by omega) ha
abbrev s__law_word : Stmt := top 30
abbrev N__law_word : List Str := ["draw", "found", "lap"]
theorem sc__law_word : FnScope N__law_word ["draw"] (defScope s__law_word) := ⟨rfl, rfl, rfl, by decide +kernel, rfl, by decide +kernel, by decide +kernel⟩
theorem c_l_word (T : Tx D aT cB cT cN fI fdI) : Ca D false 4 "_law_word" 1 (spTxt 16) := by
  have c_l_take := c_l_take T
  have c_l_pick := c_l_pick T
  obtain ⟨f, fd, F, gm⟩ := T.f30
  refine ca_mk (st := s__law_word) (N := N__law_word) (ps := ["draw"]) false F gm sc__law_word (F.bindsN fun _ _ _ _ _ _ us hl => match us, hl with | [_], _ => rfl) (fun vs H Q E h => h.1) fun cdv A outer s H vs Q E hG hr h => ?_
  have nd := sc__law_word.nd
  refine ⟨_, (pss_cons (ps_set (i := 1) nd rfl (Or.inl rfl) (pe_ca c_l_pick (fun z => nomatch z) hr (by decide) passL rfl (pa_cons (pv 0) (pa_cons pe_str pa_nil))))
    (pss_cons (ps_for (passes_of rfl) rfl (pi_range1 rfl T.n_range (pa_cons (pe_ca c_l_take (fun z => nomatch z) hr (by decide) passL rfl (pa_cons (pv 0) (pa_cons pe_int pa_nil))) pa_nil)) (pg_name (i := 2) nd rfl (Or.inl rfl))
      (pss_one (ps_set (i := 1) nd rfl (Or.inl rfl) (pe_op op_addS (pv 1) (pe_ca c_l_pick (fun z => nomatch z) hr (by decide) passL rfl (pa_cons (pv 0) (pa_cons pe_str pa_nil)))))))
    (pss_one (ps_ret (pv 1))))), ?_⟩
  obtain ⟨_, d, la, rfl, D0, q⟩ := h
  refine q_asgP (P := fun v => ∃ c ∈ gr, v = .str (S [c])) (fun Q k => pickS rfl ev_c t_great (by decide) (fun c hc => ⟨c, hc, rfl⟩) D0 k) fun v H1 ⟨c0, hc0, hv⟩ D01 => ?_
  subst hv
  refine q_forD (d := d) (la := la) (M := 8) (by decide) (fun R k => ?_) (fun i σ' H' => ∃ (l : List Nat) (v2 : Option V), σ' = [some (.ref d), some (.str (S l)), v2] ∧ l.length ≤ i + 1 ∧ l.all (· < 128) = true ∧ Dx d la H H') (fun H2 D2 => ⟨[c0], none, rfl, Nat.le_refl _, by simp [gr_ok c0 hc0], D01.trans D2⟩) ?_ ?_
  · refine takeC rfl ev_c (by decide) D01.dr fun i H2 hi D2 => ?_
    obtain ⟨n, rfl, hn⟩ := int_nat (n := 8) hi
    exact k n H2 (by omega) D2
  · rintro i σ' H' hi ⟨l, v2, rfl, hl, ha, D1⟩
    refine ⟨_, rfl, pickS (P := fun v => ∃ c ∈ sm, v = .str (S [c])) rfl ev_c t_small (by decide) (fun c hc => ⟨c, hc, rfl⟩) D1.dr fun v H2 ⟨c, hc, hv⟩ D2 => ?_⟩
    subst hv
    refine ⟨S l, S [c], rfl, rfl, Nat.le_trans (by rw [S_len, S_len]; simp; omega) (show 100 ≤ sizeLine by decide), l ++ [c], some (.int (i : Int)), ?_, by simp; omega, ?_, D1.trans D2⟩
    · show [_, some (V.str (S l ++ S [c])), _] = _
      rw [show S l ++ S [c] = S (l ++ [c]) from SX.S_cat l [c]]
    · rw [List.all_append, ha]
      simp [sm_ok c hc]
  · rintro i σ' H' hi ⟨l, v2, rfl, hl, ha, D1⟩
    exact s_ret (ev_var rfl) fun H2 e2 => q _ H2 (okT_S (by omega) ha) (D1.ext e2)
end Q
set_option maxHeartbeats 4000000
namespace Q
open PySem PySem.Spec PyProof.Rows L2 Evl
variable {D : Wd} {aT cB cT cN fI : Addr} {fdI : FuncData}
theorem pickR {σ : L2.St} {H : Hp} {te : TE} {d la p : Addr} {xs : List V} {P : V → Prop} {E : XK} {Q : VK} (h0 : σ[0]? = some (some (.ref d))) (hs : Ev te σ H (.ref p)) (hp : H p = some (.lst xs)) (hpl : p ≠ la) (hl : xs ≠ [] ∧ xs.length ≤ 1000) (hP : ∀ y ∈ xs, P y) (D0 : Dr H d la) (q : ∀ v H2, P v → Dx d la H H2 → Q v H2) : tCa spPick E (tCons (tVar 0) (tCons te tNil)) σ H Q :=
  (show EvA (tCons (tVar 0) (tCons te tNil)) σ H [.ref d, .ref p] from ea_cons (ev_var h0) (ea_cons hs ea_nil)) H (Ex.refl H) _ fun H2 e2 => ⟨rfl, d, la, _, P, rfl, D0.ex e2, .inr ⟨p, xs, rfl, hpl, e2 _ _ hp, hl.1, hl.2, hP⟩, fun v H3 hv D3 => q v H3 hv ((Dx.of D0 e2).trans D3)⟩
theorem log_small {n : Nat} (h : n < 10 ^ 10) : n.log2 < 1920 := by
  by_cases z : n = 0
  · subst z
    decide
  · exact Nat.lt_of_lt_of_le ((Nat.log2_lt z).mpr (show n < 2 ^ 34 by omega)) (by decide)
theorem okT_num (n : Nat) (h : n < 10 ^ 10) : okT 16 (.str (toString ((n : Nat) : Int))) = true := by
  have e : (Str.ofString (toString ((n : Nat) : Int))) = S (TL.numL n) := SX.num_S n
  rw [show V.str (toString ((n : Nat) : Int)) = V.str (S (TL.numL n)) from congrArg V.str e]
  refine okT_S (Nat.le_trans (TL.numL_len (by decide) h) (by decide)) (List.all_eq_true.mpr fun c hc => ?_)
  have z := TL.numL_digits n c hc
  exact decide_eq_true (by omega)
abbrev s__law_piece : Stmt := top 37
abbrev N__law_piece : List Str := ["draw", "way", "some"]
theorem sc__law_piece : FnScope N__law_piece ["draw"] (defScope s__law_piece) := ⟨rfl, rfl, rfl, by decide +kernel, rfl, by decide +kernel, by decide +kernel⟩
theorem c_l_piece (T : Tx D aT cB cT cN fI fdI) : Ca D false 5 "_law_piece" 1 (spTxt 16) := by
  have c_l_take := c_l_take T
  have c_l_pick := c_l_pick T
  have c_l_name := c_l_name T
  have c_l_word := c_l_word T
  obtain ⟨f, fd, F, gm⟩ := T.f37
  refine ca_mk (st := s__law_piece) (N := N__law_piece) (ps := ["draw"]) false F gm sc__law_piece (F.bindsN fun _ _ _ _ _ _ us hl => match us, hl with | [_], _ => rfl) (fun vs H Q E h => h.1) fun cdv A outer s H vs Q E hG hr h => ?_
  have nd := sc__law_piece.nd
  refine ⟨_, (pss_cons (ps_set (i := 1) nd rfl (Or.inl rfl) (pe_ca c_l_take (fun z => nomatch z) hr (by decide) passL rfl (pa_cons (pv 0) (pa_cons pe_int pa_nil))))
    (pss_cons (ps_if (pt_cmpR op_lt (pv 1) pe_int (nomark _)) (pss_one (ps_ret (pe_ca c_l_name (fun z => nomatch z) hr (by decide) passL rfl (pa_cons (pv 0) pa_nil)))) pss_nil)
    (pss_cons (ps_if (pt_cmpR op_eq (pv 1) pe_int (nomark _)) (pss_one (ps_ret (pe_ca c_l_word (fun z => nomatch z) hr (by decide) passL rfl (pa_cons (pv 0) pa_nil)))) pss_nil)
    (pss_cons (ps_if (pt_cmpR op_eq (pv 1) pe_int (nomark _)) (pss_one (ps_ret (pe_callTy call_strI (by rfl) T.n_str (by decide +kernel) (pa_cons (pe_ca c_l_pick (fun z => nomatch z) hr (by decide) passL rfl (pa_cons (pv 0) (pa_cons (pe_lst (pa_cons pe_int (pa_cons pe_int (pa_cons pe_int (pa_cons (pe_ca c_l_take (fun z => nomatch z) hr (by decide) passL rfl (pa_cons (pv 0) (pa_cons pe_int pa_nil))) (pa_cons pe_int pa_nil)))))) pa_nil))) pa_nil)))) pss_nil)
    (pss_cons (ps_if (pt_cmpR op_eq (pv 1) pe_int (nomark _)) (pss_one (ps_ret (pe_ca c_l_pick (fun z => nomatch z) hr (by decide) passL rfl (pa_cons (pv 0) (pa_cons (pe_lst (pa_cons pe_str (pa_cons pe_str (pa_cons pe_str (pa_cons pe_str (pa_cons pe_str (pa_cons pe_str (pa_cons pe_str (pa_cons pe_str (pa_cons pe_str pa_nil)))))))))) pa_nil))))) pss_nil)
    (pss_cons (ps_if (pt_cmpR op_eq (pv 1) pe_int (nomark _)) (pss_cons (ps_set (i := 2) nd rfl (Or.inl rfl) (pe_lst (pa_cons pe_str (pa_cons pe_str (pa_cons pe_str (pa_cons pe_str (pa_cons pe_str (pa_cons pe_str (pa_cons pe_str (pa_cons pe_str (pa_cons pe_str (pa_cons pe_str (pa_cons pe_str (pa_cons pe_str (pa_cons pe_str (pa_cons pe_str (pa_cons pe_str (pa_cons pe_str (pa_cons pe_str pa_nil)))))))))))))))))))
      (pss_one (ps_ret (pe_ca c_l_pick (fun z => nomatch z) hr (by decide) passL rfl (pa_cons (pv 0) (pa_cons (pv 2) pa_nil)))))) pss_nil)
    (pss_one (ps_ret (pe_ca c_l_pick (fun z => nomatch z) hr (by decide) passL rfl (pa_cons (pv 0) (pa_cons (pe_lst (pa_cons pe_str (pa_cons pe_str (pa_cons pe_str (pa_cons pe_str (pa_cons pe_str (pa_cons pe_str (pa_cons pe_str (pa_cons pe_str (pa_cons pe_str (pa_cons pe_str (pa_cons pe_str (pa_cons pe_str (pa_cons pe_str (pa_cons pe_str pa_nil))))))))))))))) pa_nil))))))))))), ?_⟩
  obtain ⟨_, d, la, rfl, D0, q⟩ := h
  refine q_asgP (P := fun v => ∃ i : Int, v = .int i) (fun Q k => takeC rfl ev_c (by decide) D0 fun i H2 _ D2 => k _ H2 ⟨i, rfl⟩ D2) fun v H1 ⟨i, hv⟩ D1 => ?_
  subst hv
  refine q_when (b := decide (i < 3)) (et_test (ev_op (ev_var rfl) ev_c rv_I0)) (fun _ H2 e2 => s_retX (ea_cons (ev_var rfl) ea_nil) fun H3 e3 => ⟨rfl, d, la, rfl, D1.dr.ex (e2.trans e3), fun v H4 hv D4 => q v H4 hv ((D1.ext (e2.trans e3)).trans D4)⟩) fun _ H2 e2 => ?_
  refine q_when (b := decide (V.int i = V.int 3)) (et_test (ev_op (ev_var rfl) ev_c (rv_eq rfl))) (fun _ H3 e3 => s_retX (ea_cons (ev_var rfl) ea_nil) fun H4 e4 => ⟨rfl, d, la, rfl, D1.dr.ex ((e2.trans e3).trans e4), fun v H5 hv D5 => q v H5 hv ((D1.ext ((e2.trans e3).trans e4)).trans D5)⟩) fun _ H3 e3 => ?_
  refine q_when (b := decide (V.int i = V.int 4)) (et_test (ev_op (ev_var rfl) ev_c (rv_eq rfl))) (fun _ H4 e4 => ?_) fun _ H4 e4 => ?_
  · have D4 := D1.ext ((e2.trans e3).trans e4)
    refine ⟨_, rfl, takeC rfl ev_c (by decide) D4.dr fun k H5 hk D5 => ⟨(by show 5 ≤ sizeLine; decide), fun p hp => ⟨rfl, d, la, _, fun v => ∃ n : Nat, v = .int (n : Int) ∧ n < 10 ^ 10, rfl, D5.dr.ex (Ex.new hp), .inr ⟨p, _, rfl, D5.dr.lst_ne p hp, upd_same, by simp, by simp, ?_⟩, fun v H6 ⟨n, hv, hn⟩ D6 => ?_⟩⟩⟩
    · intro y hy
      simp at hy
      rcases hy with rfl | rfl | rfl | rfl | rfl
      · exact ⟨0, rfl, by decide⟩
      · exact ⟨9, rfl, by decide⟩
      · exact ⟨10, rfl, by decide⟩
      · exact ⟨k.toNat, congrArg V.int (by omega), by omega⟩
      · exact ⟨999999999, rfl, by decide⟩
    · subst hv
      refine ⟨(n : Int), rfl, ?_, ?_⟩
      · rw [Int.natAbs_natCast]
        exact log_small hn
      · exact q _ H6 (okT_num n hn) (((D4.trans D5).ext (Ex.new hp)).trans D6)
  have D4 := D1.ext ((e2.trans e3).trans e4)
  refine q_when (b := decide (V.int i = V.int 5)) (et_test (ev_op (ev_var rfl) ev_c (rv_eq rfl))) (fun _ H5 e5 => ?_) fun _ H5 e5 => ?_
  · exact pickL (P := fun v => okT 16 v = true) rfl (el_lst (ea_cons ev_c (ea_cons ev_c (ea_cons ev_c (ea_cons ev_c (ea_cons ev_c (ea_cons ev_c (ea_cons ev_c (ea_cons ev_c (ea_cons ev_c ea_nil))))))))) (by simp)) (by simp) (by decide +kernel) (D4.ext e5).dr fun v H6 hv D6 => q v H6 hv ((D4.ext e5).trans D6)
  refine q_when (b := decide (V.int i = V.int 6)) (et_test (ev_op (ev_var rfl) ev_c (rv_eq rfl))) (fun _ H6 e6 => ?_) fun _ H6 e6 => ?_
  · refine q_asgL (el_lst (ea_cons ev_c (ea_cons ev_c (ea_cons ev_c (ea_cons ev_c (ea_cons ev_c (ea_cons ev_c (ea_cons ev_c (ea_cons ev_c (ea_cons ev_c (ea_cons ev_c (ea_cons ev_c (ea_cons ev_c (ea_cons ev_c (ea_cons ev_c (ea_cons ev_c (ea_cons ev_c (ea_cons ev_c ea_nil))))))))))))))))) (by simp)) fun p H7 hp e7 h7 => ?_
    have D7 := D4.ext ((e5.trans e6).trans e7)
    exact pickR (P := fun v => okT 16 v = true) rfl (ev_var rfl) h7 (((D4.ext (e5.trans e6)).dr).lst_ne p hp) (by simp) (by decide +kernel) D7.dr fun v H8 hv D8 => q v H8 hv (D7.trans D8)
  · have D6 := D4.ext (e5.trans e6)
    exact pickL (P := fun v => okT 16 v = true) rfl (el_lst (ea_cons ev_c (ea_cons ev_c (ea_cons ev_c (ea_cons ev_c (ea_cons ev_c (ea_cons ev_c (ea_cons ev_c (ea_cons ev_c (ea_cons ev_c (ea_cons ev_c (ea_cons ev_c (ea_cons ev_c (ea_cons ev_c (ea_cons ev_c ea_nil)))))))))))))) (by simp)) (by simp) (by decide +kernel) D6.dr fun v H7 hv D7 => q v H7 hv (D6.trans D7)
end Q
set_option maxHeartbeats 4000000
namespace Q
open PySem PySem.Spec PyProof.Rows L2 Evl
variable {D : Wd} {aT cB cT cN fI : Addr} {fdI : FuncData}
/-- two that show the same -/
def spSame (K : PySem.W.Frag) : Sp := fun vs H Q _ => vs.length = 2 ∧ ∃ x y d, vs = [x, y] ∧ Shows K H x d ∧ Shows K H y d ∧ ∀ H2, Ex H H2 → Q (.bl true) H2
abbrev s__law_same : Stmt := top 28
abbrev N__law_same : List Str := ["told", "due"]
theorem sc__law_same : FnScope N__law_same ["told", "due"] (defScope s__law_same) := ⟨rfl, rfl, rfl, by decide +kernel, rfl, by decide +kernel, by decide +kernel⟩
theorem c_l_same (T : Tx D aT cB cT cN fI fdI) : Ca D true 1 "_law_same" 2 (spSame D.K) := by
  obtain ⟨f, fd, F, gm⟩ := T.f28
  refine ca_mk (st := s__law_same) (N := N__law_same) (ps := ["told", "due"]) true F gm sc__law_same (F.bindsN fun _ _ _ _ _ _ us hl => match us, hl with | [_, _], _ => rfl) (fun vs H Q E h => h.1) fun cdv A outer s H vs Q E hG hr h => ?_
  have nd := sc__law_same.nd
  have hu := hr.units
  have hu6 : (bodyCx D N__law_same "_law_same" (defScope s__law_same) f cdv A outer s H E).A.units + 66 < cLine := by have := hr.un; omega
  refine ⟨_, (pss_one (ps_ret (pe_and (pe_cmpR (op_eqD hu) (pv 0) (pv 1) (nomark _)) (pe_one (pe_cmpR op_eq (pe_callB (call_repr (hG rfl) hu6) (by rfl) T.n_repr (by decide +kernel) (pa_cons (pv 0) pa_nil)) (pe_callB (call_repr (hG rfl) hu6) (by rfl) T.n_repr (by decide +kernel) (pa_cons (pv 1) pa_nil)) (nomark _)))))), ?_⟩
  obtain ⟨_, x, y, d, rfl, S1, S2, q⟩ := h
  refine ⟨_, rfl, _, rfl, d, d, S1.dp, S2.dp, S1.sh, S2.sh, PyData.eqv d d, rfl, ?_⟩
  rw [show PyData.eqv d d = true from SeqAt.eqv_refl d (shaped_lay S1.sh).1, if_pos rfl]
  refine ⟨_, rfl, x, d, rfl, S1, _, rfl, y, d, rfl, S2, rfl, ?_⟩
  rw [decide_eq_true (rfl : V.str d.shown = V.str d.shown)]
  exact q H (Ex.refl H)
theorem shows_bl (K : PySem.W.Frag) (H : Hp) (b : Bool) : Shows K H (.bl b) (.bool b) := ⟨.bl b, rfl, rfl, by cases b <;> decide⟩
theorem ev_same {K : PySem.W.Frag} {σ : L2.St} {H : Hp} {t1 t2 : TE} {E : XK} {b : Bool} (h1 : Ev t1 σ H (.bl b)) (h2 : Ev t2 σ H (.bl b)) : Ev (tCa (spSame K) E (tCons t1 (tCons t2 tNil))) σ H (.bl true) :=
  ev_ca (ea_cons h1 (ea_cons h2 ea_nil)) fun H1 _ Q q _ => ⟨rfl, _, _, .bool b, rfl, shows_bl K H1 b, shows_bl K H1 b, fun H2 e2 => q H2 e2⟩
/-! ### lists of given things -/
def EvP (P : Hp → V → Prop) (te : TE) (σ : L2.St) (H : Hp) : Prop := ∀ H1, Ex H H1 → ∀ Q : VK, (∀ v H2, Ex H1 H2 → P H2 v → Q v H2) → te σ H1 Q
def EvAP (P : Hp → V → Prop) (ta : TA) (σ : L2.St) (H : Hp) (n : Nat) : Prop := ∀ H1, Ex H H1 → ∀ Q : List V → Hp → Prop, (∀ vs H2, Ex H1 H2 → vs.length = n → (∀ y ∈ vs, P H2 y) → Q vs H2) → ta σ H1 Q
def EvLP (P : Hp → V → Prop) (te : TE) (σ : L2.St) (H : Hp) : Prop := ∀ H1, Ex H H1 → ∀ Q : VK, (∀ p xs H2, H1 p = none → Ex H1 H2 → H2 p = some (.lst xs) → xs.length ≤ 1000 → (∀ y ∈ xs, P H2 y) → Q (.ref p) H2) → te σ H1 Q
section
variable {P : Hp → V → Prop} {σ : L2.St} {H : Hp} {te : TE} {ta : TA} {v : V} {n : Nat}
theorem ep_c (h : ∀ H, P H v) : EvP P (tC v) σ H := fun H1 _ Q q => q v H1 (Ex.refl H1) (h H1)
theorem ep_tup {vs : List V} (h : EvA ta σ H vs) (hl : vs.length ≤ 1000) (hP : ∀ p H', H' p = some (.tup vs) → P H' (.ref p)) : EvP P (tTup ta) σ H := fun H1 e Q q =>
  h H1 e _ fun H2 e2 => ⟨Nat.le_trans hl (by decide), fun p hp => q _ _ (e2.trans (Ex.new hp)) (hP p _ upd_same)⟩
theorem ep_lst {vs : List V} (h : EvA ta σ H vs) (hl : vs.length ≤ 1000) (hP : ∀ p H', H' p = some (.lst vs) → P H' (.ref p)) : EvP P (tLst ta) σ H := fun H1 e Q q =>
  h H1 e _ fun H2 e2 => ⟨Nat.le_trans hl (by decide), fun p hp => q _ _ (e2.trans (Ex.new hp)) (hP p _ upd_same)⟩
theorem ap_nil : EvAP P tNil σ H 0 := fun H1 _ Q q => q [] H1 (Ex.refl H1) rfl fun _ z => by cases z
theorem ap_cons (hm : ∀ H H' y, Ex H H' → P H y → P H' y) (h : EvP P te σ H) (hr : EvAP P ta σ H n) : EvAP P (tCons te ta) σ H (n + 1) := fun H1 e Q q =>
  h H1 e _ fun v H2 e2 hv => hr H2 (e.trans e2) _ fun vs H3 e3 hl ha => q (v :: vs) H3 (e2.trans e3) (by simp [hl]) fun y hy => by
    rcases List.mem_cons.mp hy with rfl | hy
    · exact hm H2 H3 _ e3 hv
    · exact ha y hy
theorem elp (hm : ∀ H H' y, Ex H H' → P H y → P H' y) (h : EvAP P ta σ H n) (hn : n ≤ 1000) : EvLP P (tLst ta) σ H := fun H1 e Q q =>
  h H1 e _ fun vs H2 e2 hl ha => ⟨by rw [hl]; exact Nat.le_trans hn (by decide), fun p hp => q p vs _ (fresh_back e2 hp) (e2.trans (Ex.new hp)) upd_same (by omega) fun y hy => hm H2 _ y (Ex.new hp) (ha y hy)⟩
end
theorem q_forP {K : PySem.W.Frag} {P : Hp → V → Prop} {σ : L2.St} {H : Hp} {tl : TE} {j : Nat} {Dn : Ends} {tz tu : TS} (h : EvLP P tl σ H) (hm : ∀ H H' y, Ex H H' → P H y → P H' y) (Pv : L2.St → Hp → Prop) (h0 : ∀ H1, Ex H H1 → Pv σ H1) (hE : ∀ σ' H', Pv σ' H' → Ex H H')
    (hs : ∀ y σ' H', P H' y → Pv σ' H' → ∀ N : L2.St → Hp → Prop, (∀ σ2 H2, Pv σ2 H2 → Ex H' H2 → N σ2 H2) → tu { Dn with nx := N, ct := N, bk := tz Dn } (σ'.set j (some y)) H') (hd : ∀ σ' H', Pv σ' H' → tz Dn σ' H') : tSeq (tFor (iList K tl) (gName j) tu) tz Dn σ H :=
  h H (Ex.refl H) _ fun p xs H1 hp e1 h1 _ hP => ⟨p, rfl, ⟨xs, sq_of h1⟩, for_list (D := { Dn with nx := tz Dn }) (fun i σ' H' => Pv σ' H' ∧ Ex H1 H') ⟨h0 H1 e1, Ex.refl H1⟩ (fun i σ' H' _ q => sq_of (q.2 _ _ h1)) (fun i x σ' H' hx q => hs x σ' H' (hm H1 H' x q.2 (hP x (List.mem_of_getElem? hx))) q.1 _ fun σ2 H2 p2 e2 => ⟨p2, q.2.trans e2⟩) fun σ' H' q => hd σ' H' q.1⟩
def NotName (K : PySem.W.Frag) (H : Hp) (y : V) : Prop := (∃ l, y = .str (S l) ∧ l.length ≤ 100 ∧ nm l = false ∧ wd l = false) ∨ ∃ t, TyX K H y t ∧ PySem.W.kitOne K t (.type "str") = some false
theorem notName_mono (K : PySem.W.Frag) (H H' : Hp) (y : V) (e : Ex H H') (h : NotName K H y) : NotName K H' y := by
  rcases h with h | ⟨t, a, b⟩
  · exact .inl h
  · exact .inr ⟨t, tyx_mono e a, b⟩
theorem notName_str {K : PySem.W.Frag} {z : Str} (h : (decide (z.cps.toList.length ≤ 100) && (!nm z.cps.toList && !wd z.cps.toList)) = true) (H : Hp) : NotName K H (.str z) := by
  simp only [Bool.and_eq_true, decide_eq_true_eq, Bool.not_eq_true'] at h
  exact .inl ⟨_, congrArg V.str (str_S z), h.1, h.2.1, h.2.2⟩
def spRight : Sp := fun vs H Q _ => vs.length = 1 ∧ ∃ d la, vs = [.ref d] ∧ Dr H d la ∧ ∀ H2, Dx d la H H2 → Q (.bl true) H2
abbrev s__law_words_right : Stmt := top 39
abbrev N__law_words_right : List Str := ["draw", "lap", "row", "thing"]
theorem sc__law_words_right : FnScope N__law_words_right ["draw"] (defScope s__law_words_right) := ⟨rfl, rfl, rfl, by decide +kernel, rfl, by decide +kernel, by decide +kernel⟩
theorem c_l_words_right (T : Tx D aT cB cT cN fI fdI) : Ca D true 6 "_law_words_right" 1 spRight := by
  have c_l_piece := c_l_piece T
  have c_is_name := c_is_name T
  have c_is_word := c_is_word T
  have c_l_is_name := c_l_is_name T
  have c_l_is_word := c_l_is_word T
  have c_l_same := c_l_same T
  obtain ⟨f, fd, F, gm⟩ := T.f39
  refine ca_mk (st := s__law_words_right) (N := N__law_words_right) (ps := ["draw"]) true F gm sc__law_words_right (F.bindsN fun _ _ _ _ _ _ us hl => match us, hl with | [_], _ => rfl) (fun vs H Q E h => h.1) fun cdv A outer s H vs Q E hG hr h => ?_
  have nd := sc__law_words_right.nd
  refine ⟨_, (pss_cons (ps_for (passes_of rfl) rfl (pi_range1 rfl T.n_range (pa_cons pe_int pa_nil)) (pg_name (i := 1) nd rfl (Or.inl rfl))
      (pss_cons (ps_set (i := 2) nd rfl (Or.inl rfl) (pe_ca c_l_piece (fun z => nomatch z) hr (by decide) passL rfl (pa_cons (pv 0) pa_nil)))
      (pss_one (ps_if (PW.pt (pw_or (pt_not (pt_val (pe_ca c_l_same hG hr (by decide) passL rfl (pa_cons (pe_ca c_is_name (fun z => nomatch z) hr (by decide) passL rfl (pa_cons (pv 2) pa_nil)) (pa_cons (pe_ca c_l_is_name (fun z => nomatch z) hr (by decide) passL rfl (pa_cons (pv 2) pa_nil)) pa_nil))))) (pw_or1 (pt_not (pt_val (pe_ca c_l_same hG hr (by decide) passL rfl (pa_cons (pe_ca c_is_word (fun z => nomatch z) hr (by decide) passL rfl (pa_cons (pv 2) pa_nil)) (pa_cons (pe_ca c_l_is_word (fun z => nomatch z) hr (by decide) passL rfl (pa_cons (pv 2) pa_nil)) pa_nil)))))))) (pss_one (ps_ret pe_bl)) pss_nil))))
    (pss_cons (ps_for (passes_of rfl) rfl (pi_list (pe_lst (pa_cons pe_str (pa_cons pe_str (pa_cons pe_str (pa_cons pe_str (pa_cons pe_str (pa_cons pe_str (pa_cons pe_str (pa_cons pe_non (pa_cons pe_int (pa_cons pe_bl (pa_cons (pe_tup (pa_cons pe_str pa_nil)) (pa_cons (pe_lst (pa_cons pe_str pa_nil)) (pa_cons (pe_disp (pps_cons pe_str pe_int pps_nil) (by rfl) (by rfl) (fun z => by cases z) (by decide)) pa_nil))))))))))))))) (pg_name (i := 3) nd rfl (Or.inl rfl))
      (pss_one (ps_if (PW.pt (pw_or (pt_cmpR op_notBl (pe_ca c_is_name (fun z => nomatch z) hr (by decide) passL rfl (pa_cons (pv 3) pa_nil)) pe_bl (nomark _)) (pw_or1 (pt_cmpR op_notBl (pe_ca c_is_word (fun z => nomatch z) hr (by decide) passL rfl (pa_cons (pv 3) pa_nil)) pe_bl (nomark _))))) (pss_one (ps_ret pe_bl)) pss_nil)))
    (pss_one (ps_ret pe_bl)))), ?_⟩
  obtain ⟨_, d, la, rfl, D0, q⟩ := h
  refine q_forR1 (n := 6) (ea_cons ev_c ea_nil) (by decide) (fun _ σ' H' => ∃ v1 v2, σ' = [some (.ref d), v1, v2, none] ∧ Dx d la H H') (fun H1 e1 => ⟨_, _, rfl, .of D0 e1⟩) ?_ ?_
  · rintro i σ' H' _ ⟨v1, v2, rfl, D1⟩
    refine q_asgP (P := fun v => okT 16 v = true) (d := d) (la := la) (fun Q k => (show EvA (tCons (tVar 0) tNil) ([some (.ref d), some (.int (i : Int)), v2, none] : L2.St) H' [.ref d] from ea_cons (ev_var rfl) ea_nil) H' (Ex.refl H') _ fun H2 e2 => ⟨rfl, d, la, rfl, D1.dr.ex e2, fun v H3 hv D3 => k v H3 hv ((Dx.of D1.dr e2).trans D3)⟩) fun v H2 hv D2 => ?_
    obtain ⟨l, rfl, hl, ha⟩ := okT_of hv
    have c1 : ∀ (p : List Nat → Bool) H6, SpV (spF 1 (rIs D.K p)) [.str (S l)] H6 (.bl (p l)) := fun p H6 => spF_v rfl fun H7 _ => ⟨_, rfl, .inl ⟨l, rfl, by omega, rfl⟩⟩
    have c2 : ∀ (p : List Nat → Bool) H6, SpV (spF 1 (rOn p)) [.str (S l)] H6 (.bl (p l)) := fun p H6 => spF_v rfl fun H7 _ => ⟨l, rfl, by omega, rfl⟩
    refine s_when (b := !true || !true) (et_or (et_not (et_B (ev_same (ev_ca (ea_cons (ev_var rfl) ea_nil) (c1 nm _)) (ev_sub (ev_ca (ea_cons (ev_var rfl) ea_nil) (c2 lnm _)) (congrArg V.bl (nm_eq l)))))) fun _ => et_not (et_B (ev_same (ev_ca (ea_cons (ev_var rfl) ea_nil) (c1 wd _)) (ev_sub (ev_ca (ea_cons (ev_var rfl) ea_nil) (c2 lwd _)) (congrArg V.bl (wd_eq l)))))) (fun hb => absurd hb (by decide)) fun _ H3 e3 => ⟨_, _, rfl, (D1.trans D2).ext e3⟩
  · rintro σ' H' ⟨v1, v2, rfl, D1⟩
    refine q_forP (P := NotName D.K) (elp (notName_mono _) ?_ (n := 13) (by decide)) (notName_mono _) (fun σ' H2 => ∃ v3, σ' = [some (.ref d), v1, v2, v3] ∧ Ex H' H2) (fun H1 e1 => ⟨_, rfl, e1⟩) (fun σ' H2 ⟨_, _, e⟩ => e) ?_ ?_
    · have ac := fun {te : TE} {ta : TA} {n : Nat} h hr => @ap_cons (NotName D.K) ([some (.ref d), v1, v2, none] : L2.St) H' te ta n (notName_mono _) h hr
      refine ac (ep_c (notName_str (by decide +kernel))) (ac (ep_c (notName_str (by decide +kernel))) (ac (ep_c (notName_str (by decide +kernel))) (ac (ep_c (notName_str (by decide +kernel))) (ac (ep_c (notName_str (by decide +kernel))) (ac (ep_c (notName_str (by decide +kernel))) (ac (ep_c (notName_str (by decide +kernel)))
        (ac (ep_c fun _ => .inr ⟨_, .base .non, rfl⟩) (ac (ep_c fun _ => .inr ⟨_, .base (.int _), rfl⟩) (ac (ep_c fun _ => .inr ⟨_, .base (.bl _), rfl⟩) (ac (ep_tup (ea_cons ev_c ea_nil) (by simp) fun p H2 h => .inr ⟨_, .base (.tup h), rfl⟩) (ac (ep_lst (ea_cons ev_c ea_nil) (by simp) fun p H2 h => .inr ⟨_, .base (.lst h), rfl⟩) (ac ?_ ap_nil))))))))))))
      refine fun H1 e1 Q k p hp => ⟨upd_same, [(.inr "a", .int 1)], rfl, by decide, k _ _ (by rw [upd_upd]; exact Ex.new hp) (.inr ⟨_, .base (.dK upd_same), rfl⟩)⟩
    · rintro y σ' H2 hy ⟨v3, rfl, e2⟩ N hN
      have c1 : ∀ (p : List Nat → Bool) (hp : p = nm ∨ p = wd) H6, Ex H2 H6 → SpV (spF 1 (rIs D.K p)) [y] H6 (.bl false) := fun p hp H6 e6 => spF_v rfl fun H7 e7 => ⟨_, rfl, by
        rcases hy with ⟨l, rfl, hl, h1, h2⟩ | ⟨t, a, b⟩
        · refine .inl ⟨l, rfl, by omega, ?_⟩
          rcases hp with rfl | rfl
          · rw [h1]
          · rw [h2]
        · exact .inr ⟨⟨t, tyx_mono (e6.trans e7) a, b⟩, rfl⟩⟩
      have rn : ∀ {H6 : Hp}, RV rNotB (.bl false) (.bl false) H6 (.bl false) := fun {H6} H7 _ Q q => ⟨false, false, rfl, rfl, q H7 (Ex.refl H7)⟩
      exact s_when (b := false || false) (et_or (et_test (ev_op (ev_ca (ea_cons (ev_var rfl) ea_nil) (c1 nm (.inl rfl) _ (Ex.refl _))) ev_c rn)) fun _ => et_test (ev_op (ev_ca (ea_cons (ev_var rfl) ea_nil) (c1 wd (.inr rfl) _ (Ex.refl _))) ev_c rn)) (fun hb => absurd hb (by decide)) fun _ H3 e3 => hN _ H3 ⟨_, rfl, e2.trans e3⟩ e3
    · rintro σ' H2 ⟨v3, rfl, e2⟩
      exact s_ret ev_c fun H3 e3 => q H3 (D1.ext (e2.trans e3))
end Q
set_option maxHeartbeats 4000000
namespace Q
open PySem PySem.Spec PyProof.Rows L2 Evl
variable {D : Wd} {aT cB cT cN fI : Addr} {fdI : FuncData}
/-- the draw begun -/
def spBegun (K : PySem.W.Frag) : Sp := fun vs H Q _ => vs.length = 1 ∧ ∃ (a : Addr) (ns : List Int), vs = [.ref a] ∧ SqL K H a (ns.map V.int) ∧ ns.length ≤ 1000 ∧ ∀ d la H2, Ex H H2 → Dr H2 d la → Q (.ref d) H2
theorem put_new (kvs : List (Key × V)) (k : Key) (v : V) (h : valV kvs k = none) : putK kvs k v = kvs ++ [(k, v)] := by
  unfold putK
  rw [if_neg (by rw [valV_any, h]; decide)]
theorem merge4 (la ca : Addr) (r t : Int) : mergeK [] (kv la ca r t) = kv la ca r t := by
  show putK (putK (putK (putK [] (.inr "large" : Key) (.ref la)) (.inr "cells" : Key) (.ref ca)) (.inr "rest" : Key) (.int r)) (.inr "turn" : Key) (.int t) = _
  rw [put_new [] _ _ valV_nil, List.nil_append, put_new _ (.inr "cells") _ (by rw [valV_neg n1, valV_nil]), List.singleton_append, put_new _ (.inr "rest") _ (by rw [valV_neg n2, valV_neg n4, valV_nil])]
  rw [List.cons_append, List.cons_append, List.nil_append, put_new _ (.inr "turn") _ (by rw [valV_neg n3, valV_neg n5, valV_neg n6, valV_nil])]
  rfl
def absZ (i : Int) : Int := if i < 0 then -i else i
abbrev E18 : Int := (10 : Int) ^ (18 : Int).toNat
def pBig : V → Bool
  | .int i => decide (E18 ≤ absZ i)
  | _ => false
def gBig : V → V
  | .int i => .int (absZ i - E18)
  | v => v
def gCell : V → V
  | .int i => .int (absZ i % 2147483629)
  | v => v
theorem big_is : ∀ ns : List Int, ∃ bs : List Int, (((ns.map V.int).filter pBig).map gBig) = bs.map V.int ∧ bs.length ≤ ns.length
  | [] => ⟨[], rfl, Nat.le_refl _⟩
  | n :: ns => by
    obtain ⟨bs, e, l⟩ := big_is ns
    rw [List.map_cons, List.filter_cons]
    by_cases h : pBig (.int n) = true
    · rw [if_pos h, List.map_cons, e]
      exact ⟨(absZ n - E18) :: bs, rfl, by simp; exact l⟩
    · rw [if_neg h, e]
      exact ⟨bs, rfl, by simp; omega⟩
theorem cell_is : ∀ ns : List Int, ((ns.map V.int).filter (fun _ => true)).map gCell = (ns.map fun i => absZ i % 2147483629).map V.int := by
  intro ns
  have h : ((ns.map V.int).filter fun _ => true) = ns.map V.int := by simp
  rw [h, List.map_map, List.map_map]
  rfl
abbrev s__law_begun : Stmt := top 23
abbrev N__law_begun : List Str := ["script", "large", "cell"]
theorem sc__law_begun : FnScope N__law_begun ["script"] (defScope s__law_begun) := ⟨rfl, rfl, rfl, by decide +kernel, rfl, by decide +kernel, by decide +kernel⟩
theorem c_l_begun (T : Tx D aT cB cT cN fI fdI) : Ca D false 1 "_law_begun" 1 (spBegun D.K) := by
  obtain ⟨f, fd, F, gm⟩ := T.f23
  refine ca_mk (st := s__law_begun) (N := N__law_begun) (ps := ["script"]) false F gm sc__law_begun (F.bindsN fun _ _ _ _ _ _ us hl => match us, hl with | [_], _ => rfl) (fun vs H Q E h => h.1) fun cdv A outer s H vs Q E hG hr h => ?_
  have nd := sc__law_begun.nd
  refine ⟨_, (pss_cons (ps_setLc (i := 1) (own := [("cell", 2)]) (g := gName 2) rfl nd rfl rfl (sw_true rfl rfl rfl (by decide +kernel)) (pi_list (pv 0)) (blkOk_by (own := [("cell", 2)]) (N := N__law_begun) (sc := defScope s__law_begun) (by decide +kernel)) (fun _ _ _ _ _ => pg_name (i := 2) nd rfl (Or.inl rfl)) (fun _ _ _ _ _ => pts_one (pt_cmpR op_ge (pe_callB call_absI (by rfl) T.n_abs (by decide +kernel) (pa_cons (pv 2) pa_nil)) (pe_op op_pow pe_int pe_int) (nomark _))) (fun _ _ _ _ _ => (pe_op op_sub (pe_callB call_absI (by rfl) T.n_abs (by decide +kernel) (pa_cons (pv 2) pa_nil)) (pe_op op_pow pe_int pe_int))))
    (pss_one (ps_ret (pe_disp (pps_cons pe_str (pv 1) (pps_cons pe_str (pe_lc (own := [("cell", 2)]) (g := gName 2) rfl nd (pi_list (pv 0)) (blkOk_by (own := [("cell", 2)]) (N := N__law_begun) (sc := defScope s__law_begun) (by decide +kernel)) (fun _ _ _ _ _ => pg_name (i := 2) nd rfl (Or.inl rfl)) (fun _ _ _ _ _ => pts_nil) (fun _ _ _ _ _ => (pe_op op_mod (pe_callTy call_intI (by rfl) T.n_int (by decide +kernel) (pa_cons (pe_callB call_absI (by rfl) T.n_abs (by decide +kernel) (pa_cons (pv 2) pa_nil)) pa_nil)) pe_int))) (pps_cons pe_str pe_int (pps_cons pe_str pe_int pps_nil)))) (by rfl) (by rfl) (fun z => by cases z) (by decide))))), ?_⟩
  obtain ⟨_, a, ns, rfl, hs, hl, q⟩ := h
  obtain ⟨bs, hbs, lbs⟩ := big_is ns
  have hz : (ns.map V.int).length ≤ 1000000 := by rw [List.length_map]; omega
  have hpow : ∀ {σ : L2.St} {H : Hp}, Ev (tOp (rI CPow fun i j => .int (i ^ j.toNat)) (tC (.int 10)) (tC (.int 18))) σ H (.int E18) := fun {σ H} => ev_op ev_c ev_c (rv_I (by unfold CPow; decide))
  refine q_asgL (el_lcLv pBig gBig (ev_var rfl) hs hz (fun _ => rfl) (fun x H1 _ hx => ?_) (fun x H1 _ hx _ => ?_)) fun p H1 hp e1 h1 => ?_
  · obtain ⟨i, _, rfl⟩ := List.mem_map.mp hx
    exact et_test (ev_op (ev_abs (ev_var rfl)) hpow rv_I0)
  · obtain ⟨i, _, rfl⟩ := List.mem_map.mp hx
    exact ev_op (ev_abs (ev_var rfl)) hpow rv_I0
  rw [hbs] at h1
  intro dd hdd
  dsimp only [tPairs, tC]
  refine ⟨_, rfl, ?_⟩
  dsimp only
  refine (el_lcLv (fun _ => true) gCell (ev_var rfl) (ex_l (e1.trans (Ex.new hdd)) hs) hz (fun _ => rfl) (fun x H1 _ hx => et_yes) (fun x H1 _ hx _ => by
    obtain ⟨i, _, rfl⟩ := List.mem_map.mp hx
    exact ev_op (ev_int (ev_abs (ev_var rfl))) ev_c (rv_I (by decide)))) _ (Ex.refl _) _ fun c H2 hc e2 h2 => ⟨e2 _ _ upd_same, kv p c 0 0, rfl, (show 4 ≤ 15 by decide), ?_⟩
  rw [merge4]
  rw [cell_is] at h2
  have eU : Ex H1 (upd H2 dd (.dK (kv p c 0 0))) := fun b o h => by
    rw [upd_ne (ne_of_none h hdd)]
    exact e2 _ _ (Ex.new hdd _ _ h)
  have h1' := e2 _ _ (Ex.new (o := .dK []) hdd _ _ h1)
  have pc : p ≠ c := fun z => by
    rw [z] at h1
    have := Ex.new (o := .dK []) hdd _ _ h1
    rw [hc] at this
    cases this
  have pd : p ≠ dd := ne_of_none h1 hdd
  have cd : c ≠ dd := fun z => by rw [z, upd_same] at hc; cases hc
  exact q dd p _ (e1.trans eU) ⟨c, bs, ns.map fun i => absZ i % 2147483629, 0, 0, pc, upd_same, by rw [upd_ne pd]; exact h1', by rw [upd_ne cd]; exact h2, by omega, by rw [List.length_map]; omega⟩
end Q
set_option maxHeartbeats 4000000
namespace Q
open PySem PySem.Spec PyProof.Rows L2 Evl
variable {D : Wd} {aT cB cT cN fI : Addr} {fdI : FuncData}
abbrev sV (ts : List (List Nat)) : List V := ts.map fun l => V.str (S l)
def rTupI (K : PySem.W.Frag) : List V → Hp → VK → Prop := fun xs H Q => ∃ p ys, xs = [.ref p] ∧ ((SqL K H p ys ∧ ∀ l, H l = none → Q (.ref l) (upd H l (.tup ys))) ∨ (SqT K H p ys ∧ Q (.ref p) H))
theorem call_tupI {X : Cx} : CallR X (.type "tuple") (rTupI X.K) := call_tuple_of
section
variable {K : PySem.W.Frag} {σ : L2.St} {H H' : Hp} {ta tb te tl : TE} {xs ys : List V} {p : Addr}
theorem eu_of {ys : List V} (h : Ev ta σ H (.ref p)) (hp : H p = some (.lst ys)) : EvU (tCB (rTupI K) (tCons ta tNil)) σ H ys := fun H1 e Q q =>
  h H1 e _ fun H2 e2 => ⟨p, ys, rfl, .inl ⟨sq_of (e2 _ _ (e _ _ hp)), fun l hl => q l _ (fresh_back e2 hl) (e2.trans (Ex.new hl)) upd_same⟩⟩
theorem el_lstr {z : Str} (h : Ev ta σ H (.str z)) (hz : z.length ≤ 1000000) : EvL (tCB rListStr (tCons ta tNil)) σ H (z.cps.toList.map fun c => V.str (S [c])) := fun H1 e Q q =>
  h H1 e _ fun H2 e2 => ⟨z, rfl, Nat.le_trans hz (by decide), fun l hl => q l _ (fresh_back e2 hl) (e2.trans (Ex.new hl)) upd_same⟩
theorem el_catLL (h1 : EvL ta σ H xs) (h2 : EvL tb σ H ys) (hz : xs.length + ys.length ≤ 1000000) : EvL (tOp rCat ta tb) σ H (xs ++ ys) := fun H1 e Q q =>
  h1 H1 e _ fun a H2 ha e2 h2' => h2 H2 (e.trans e2) _ fun b H3 hb e3 h3 => ⟨a, b, xs, ys, rfl, rfl, e3 _ _ h2', h3, Nat.le_trans hz (by decide), fun l hl => q l _ (fresh_back (e2.trans e3) hl) ((e2.trans e3).trans (Ex.new hl)) upd_same⟩
theorem el_catVL (h1 : Ev ta σ H (.ref p)) (hp : H p = some (.lst xs)) (h2 : EvL tb σ H ys) (hz : xs.length + ys.length ≤ 1000000) : EvL (tOp rCat ta tb) σ H (xs ++ ys) := fun H1 e Q q =>
  h1 H1 e _ fun H2 e2 => h2 H2 (e.trans e2) _ fun b H3 hb e3 h3 => ⟨p, b, xs, ys, rfl, rfl, e3 _ _ (e2 _ _ (e _ _ hp)), h3, Nat.le_trans hz (by decide), fun l hl => q l _ (fresh_back (e2.trans e3) hl) ((e2.trans e3).trans (Ex.new hl)) upd_same⟩
theorem cutV_to (xs : List V) (b : Nat) : cutV xs none (some (b : Int)) = xs.take b := by
  unfold cutV
  rw [HT.sIx_nat, HT.sIx_none, List.drop_zero, Nat.sub_zero]
  by_cases h : b ≤ xs.length
  · rw [Nat.min_eq_left h]
  · rw [Nat.min_eq_right (by omega), List.take_of_length_le (Nat.le_refl _), List.take_of_length_le (by omega)]
theorem cutV_from (xs : List V) (a : Nat) : cutV xs (some (a : Int)) none = xs.drop a := by
  unfold cutV
  rw [HT.sIx_nat, HT.sIx_none]
  by_cases h : a ≤ xs.length
  · rw [Nat.min_eq_left h, List.take_of_length_le (by rw [List.length_drop]; omega)]
  · rw [Nat.min_eq_right (by omega), List.drop_of_length_le (Nat.le_refl _), List.drop_of_length_le (by omega)]
    simp
end
/-- the names of one first letter -/
def pIn (f : List Nat) : V → Bool
  | .str w => !decide (V.str (S f ++ w) = V.str "in")
  | _ => false
def gIn (f : List Nat) : V → V
  | .str w => .str (S f ++ w)
  | v => v
theorem t_in : ("in" : Str) = S [105, 110] := by decide +kernel
theorem nmF_V (f : List Nat) : (((S sm).cps.toList.map fun c => V.str ⟨#[c]⟩).filter (pIn f)).map (gIn f) = sV (nmF f) := by
  rw [S_tl]
  unfold nmF sV
  generalize sm = l
  induction l with
  | nil => rfl
  | cons c l ih =>
    have h1 : pIn f (.str ⟨#[c]⟩) = !decide (f ++ [c] = [105, 110]) := by
      show (!decide (V.str (S f ++ S [c]) = V.str "in")) = _
      rw [show S f ++ S [c] = S (f ++ [c]) from SX.S_cat f [c], t_in, dec_S]
    rw [List.map_cons, List.filter_cons, List.filter_cons, h1]
    by_cases h : (!decide (f ++ [c] = [105, 110])) = true
    · rw [if_pos h, if_pos h, List.map_cons, List.map_cons, List.map_cons, ih]
      show V.str (S f ++ S [c]) :: _ = _
      rw [show S f ++ S [c] = S (f ++ [c]) from SX.S_cat f [c]]
    · rw [if_neg h, if_neg h, ih]
theorem nmF_fine (f : List Nat) : (nmF f).length ≤ 26 := by
  unfold nmF
  rw [List.length_map]
  exact Nat.le_trans (List.length_filter_le _ _) (by decide)
def firsts : List (List Nat) := [] :: sm.map fun c => [c]
theorem nmAll_sz : nmAll.length ≤ 1000 := by rw [nmAll_len]; decide
/-- the names used, as the loop behind needs them -/
structure Used (g : Nat) (us : List (List Nat)) : Prop where
  a : ∀ j, j < g → wrd (cj j) ∈ us
  b : ∀ w ∈ us, (∃ j, j < 702 ∧ j ≠ g ∧ w = wrd (cj j)) ∨ 703 < code w
  c : ∀ w ∈ us, nm w = true ∧ w.length ≤ 8
  d : us.length ≤ 5000
theorem used_of {m g : Nat} (hm : m ≤ 701) (hg : g ≤ m) : Used g ((nmAll.take m).take g ++ (nmAll.take m).drop (g + 1)) := by
  have get : ∀ j, j < 701 → nmAll[j]? = some (wrd (cj j)) := nmAll_get
  have hmem : ∀ w ∈ (nmAll.take m).take g ++ (nmAll.take m).drop (g + 1), ∃ j, j < m ∧ j ≠ g ∧ nmAll[j]? = some w := by
    intro w hw
    rcases List.mem_append.mp hw with h | h
    · obtain ⟨j, hj⟩ := List.getElem?_of_mem h
      have hjg : j < g := by
        rcases Nat.lt_or_ge j g with z | z
        · exact z
        · rw [List.getElem?_take_eq_none z] at hj
          cases hj
      rw [List.getElem?_take_of_lt hjg, List.getElem?_take_of_lt (by omega)] at hj
      exact ⟨j, by omega, by omega, hj⟩
    · obtain ⟨j, hj⟩ := List.getElem?_of_mem h
      rw [List.getElem?_drop] at hj
      have hjm : g + 1 + j < m := by
        rcases Nat.lt_or_ge (g + 1 + j) m with z | z
        · exact z
        · rw [List.getElem?_take_eq_none z] at hj
          cases hj
      rw [List.getElem?_take_of_lt hjm] at hj
      exact ⟨g + 1 + j, hjm, by omega, hj⟩
  refine ⟨fun j hj => ?_, fun w hw => ?_, fun w hw => ?_, ?_⟩
  · refine List.mem_append_left _ (List.mem_of_getElem? (i := j) ?_)
    rw [List.getElem?_take_of_lt hj, List.getElem?_take_of_lt (by omega)]
    exact get j (by omega)
  · obtain ⟨j, h1, h2, h3⟩ := hmem w hw
    rw [get j (by omega)] at h3
    exact .inl ⟨j, by omega, h2, (Option.some.inj h3).symm⟩
  · obtain ⟨j, h1, h2, h3⟩ := hmem w hw
    have z := List.all_eq_true.mp nmAll_nm w (List.mem_of_getElem? h3)
    rw [Bool.and_eq_true, decide_eq_true_eq] at z
    exact ⟨z.1, by omega⟩
  · rw [List.length_append, List.length_take, List.length_drop, List.length_take, nmAll_len]
    omega
theorem used_more {g : Nat} {us : List (List Nat)} (h : Used g us) (hs : us.length ≤ 1500) (x : List Nat) (hx : x ∈ [[97, 98, 99], [122, 122, 122, 122], [97, 97, 98]]) : Used g (us.reverse ++ [x] ++ us.take 2) := by
  have hx2 : 703 < code x ∧ nm x = true ∧ x.length ≤ 8 := by
    have z : ∀ x ∈ [[97, 98, 99], [122, 122, 122, 122], [97, 97, 98]], 703 < code x ∧ nm x = true ∧ x.length ≤ 8 := by decide
    exact z x hx
  have mem : ∀ w ∈ us.reverse ++ [x] ++ us.take 2, w ∈ us ∨ w = x := fun w hw => by
    rcases List.mem_append.mp hw with h | h
    · rcases List.mem_append.mp h with h | h
      · exact .inl (List.mem_reverse.mp h)
      · exact .inr (List.mem_singleton.mp h)
    · exact .inl (List.mem_of_mem_take h)
  refine ⟨fun j hj => List.mem_append_left _ (List.mem_append_left _ (List.mem_reverse.mpr (h.a j hj))), fun w hw => ?_, fun w hw => ?_, ?_⟩
  · rcases mem w hw with z | rfl
    · exact h.b w z
    · exact .inr hx2.1
  · rcases mem w hw with z | rfl
    · exact h.c w z
    · exact hx2.2
  · rw [List.length_append, List.length_append, List.length_reverse, List.length_take]
    simp
    omega
theorem t_aaa : ("aaa" : Str) = S [97, 97, 97] := by decide +kernel
theorem t_three : ∀ y ∈ [V.str "abc", V.str "zzzz", V.str "aab"], ∃ x, x ∈ [[97, 98, 99], [122, 122, 122, 122], [97, 97, 98]] ∧ y = .str (S x) := by
  intro y hy
  simp at hy
  rcases hy with rfl | rfl | rfl
  · exact ⟨[97, 98, 99], by decide, by decide +kernel⟩
  · exact ⟨[122, 122, 122, 122], by decide, by decide +kernel⟩
  · exact ⟨[97, 97, 98], by decide, by decide +kernel⟩
end Q
set_option maxHeartbeats 8000000
namespace Q
open PySem PySem.Spec PyProof.Rows L2 Evl
variable {D : Wd} {aT cB cT cN fI : Addr} {fdI : FuncData}
theorem el_eq {σ : L2.St} {H : Hp} {te : TE} {xs ys : List V} (h : EvL te σ H xs) (e : xs = ys) : EvL te σ H ys := e ▸ h
theorem shows_str (K : PySem.W.Frag) (H : Hp) (l : List Nat) (h1 : l.length ≤ 1000) (h2 : l.all (· < 128) = true) : Shows K H (.str (S l)) (.str (S l)) := by
  have hall := List.all_eq_true.mp h2
  refine ⟨.str _, ?_, rfl, ?_⟩
  · show ((S l).cps.all (· < 0x110000) && decide (0 ≤ 64)) = true
    rw [show (S l).cps.all (· < 0x110000) = l.all (· < 0x110000) by simp [S, SX.S]]
    rw [Bool.and_eq_true]
    refine ⟨List.all_eq_true.mpr fun c hc => ?_, rfl⟩
    have := of_decide_eq_true (hall c hc)
    exact decide_eq_true (by omega)
  · show (reprText (S l)).length ≤ sizeLine
    refine Nat.le_trans (StrLaws.reprText_len (S l) fun c hc => ?_) ?_
    · rw [S_tl] at hc
      have := of_decide_eq_true (hall c hc)
      omega
    · rw [S_len]
      exact Nat.le_trans (show 10 * l.length + 2 ≤ 20000 by omega) (by decide)
theorem sm_all (l : List Nat) (h : inL sm l = true) : l.all (· < 128) = true := List.all_eq_true.mpr fun c hc => decide_eq_true (sm_ok c (of_decide_eq_true (List.all_eq_true.mp h c hc)))
theorem names_step {i : Nat} {f : List Nat} (h : firsts[i]? = some f) : (firsts.take (i + 1)).flatMap nmF = (firsts.take i).flatMap nmF ++ nmF f := by
  rw [List.take_succ, h, List.flatMap_append]
  simp
theorem names_pre (i : Nat) : ((firsts.take i).flatMap nmF).length ≤ 701 := by
  have e : nmAll = (firsts.take i).flatMap nmF ++ (firsts.drop i).flatMap nmF := by
    rw [← List.flatMap_append, List.take_append_drop]
    rfl
  have z := nmAll_len
  rw [e, List.length_append] at z
  omega
theorem firsts_V : [V.str ""] ++ (("abcdefghijklmnopqrstuvwxyz" : Str).cps.toList.map fun c => V.str (S [c])) = sV firsts := by
  rw [t_small, S_tl, t_e]
  rfl
theorem firsts_len : ∀ f ∈ firsts, f.length ≤ 1 := by decide
abbrev s__law_fresh_right : Stmt := top 40
abbrev N__law_fresh_right : List Str := ["draw", "names", "letters", "first", "letter", "many", "used", "gap", "due"]
theorem sc__law_fresh_right : FnScope N__law_fresh_right ["draw"] (defScope s__law_fresh_right) := ⟨rfl, rfl, rfl, by decide +kernel, rfl, by decide +kernel, by decide +kernel⟩
theorem c_l_fresh_right (T : Tx D aT cB cT cN fI fdI) : Ca D true 4 "_law_fresh_right" 1 spRight := by
  have c_l_take := c_l_take T
  have c_l_pick := c_l_pick T
  have c_fresh_name := c_fresh_name T
  have c_l_same := c_l_same T
  obtain ⟨f, fd, F, gm⟩ := T.f40
  refine ca_mk (st := s__law_fresh_right) (N := N__law_fresh_right) (ps := ["draw"]) true F gm sc__law_fresh_right (F.bindsN fun _ _ _ _ _ _ us hl => match us, hl with | [_], _ => rfl) (fun vs H Q E h => h.1) fun cdv A outer s H vs Q E hG hr h => ?_
  have nd := sc__law_fresh_right.nd
  refine ⟨_, (pss_cons (ps_par (i := 1) (j := 2) (by rfl) nd rfl rfl (by decide) rfl rfl (pa_cons (pe_lst pa_nil) (pa_cons pe_str pa_nil)) (by rfl))
    (Evl.pss_cut (ps_for (passes_of rfl) rfl (pi_list (pe_op op_cat (pe_lst (pa_cons pe_str pa_nil)) (pe_callTy (call_list_str rfl) (by rfl) T.n_list (by decide +kernel) (pa_cons (pv 2) pa_nil)))) (pg_name (i := 3) nd rfl (Or.inr rfl))
      (pss_one (ps_set (i := 1) nd rfl (Or.inl rfl) (pe_op op_cat (pv 1) (pe_lc (own := [("letter", 4)]) (g := gName 4) rfl nd (pi_str (pv 2)) (blkOk_by (own := [("letter", 4)]) (N := N__law_fresh_right) (sc := defScope s__law_fresh_right) (by decide +kernel)) (fun _ _ _ _ _ => pg_name (i := 4) nd rfl (Or.inl rfl)) (fun _ _ _ _ _ => pts_one (pt_cmpR op_ne (pe_op op_addS (pv 3) (pv 4)) pe_str (nomark _))) (fun _ _ _ _ _ => (pe_op op_addS (pv 3) (pv 4))))))))
    (pss_cons (ps_set (i := 5) nd rfl (Or.inl rfl) (pe_ca c_l_pick (fun z => nomatch z) hr (by decide) passL rfl (pa_cons (pv 0) (pa_cons (pe_lst (pa_cons (pe_ca c_l_take (fun z => nomatch z) hr (by decide) passL rfl (pa_cons (pv 0) (pa_cons pe_int pa_nil))) (pa_cons (pe_ca c_l_take (fun z => nomatch z) hr (by decide) passL rfl (pa_cons (pv 0) (pa_cons pe_int pa_nil))) (pa_cons (pe_callB call_lenL (by rfl) T.n_len (by decide +kernel) (pa_cons (pv 1) pa_nil)) pa_nil)))) pa_nil))))
    (pss_cons (ps_par (i := 6) (j := 7) (by rfl) nd rfl rfl (by decide) rfl rfl (pa_cons (pe_slice sl_list (pv 1) po_none (po_some (pv 5))) (pa_cons (pe_ca c_l_take (fun z => nomatch z) hr (by decide) passL rfl (pa_cons (pv 0) (pa_cons (pe_op op_add (pv 5) pe_int) pa_nil))) pa_nil)) (by rfl))
    (pss_cons (ps_set (i := 8) nd rfl (Or.inl rfl) (pe_ifExp (pt_cmpR op_lt (pv 7) (pv 5) (nomark _)) (pe_ix ix_list (pv 6) (pv 7) (fun _ _ => rfl)) (pe_ifExp (pt_cmpR op_lt (pv 5) (pe_callB call_lenL (by rfl) T.n_len (by decide +kernel) (pa_cons (pv 1) pa_nil)) (nomark _)) (pe_ix ix_list (pv 1) (pv 5) (fun _ _ => rfl)) pe_str)))
    (pss_cons (ps_set (i := 6) nd rfl (Or.inl rfl) (pe_op op_cat (pe_slice sl_list (pv 6) po_none (po_some (pv 7))) (pe_slice sl_list (pv 6) (po_some (pe_op op_add (pv 7) pe_int)) po_none)))
    (Evl.pss_cut (ps_if (pt_cmpR op_eq (pe_ca c_l_take (fun z => nomatch z) hr (by decide) passL rfl (pa_cons (pv 0) (pa_cons pe_int pa_nil))) pe_int (nomark _)) (pss_one (ps_set (i := 6) nd rfl (Or.inl rfl) (pe_op op_cat (pe_op op_cat (pe_revL (pv 6)) (pe_lst (pa_cons (pe_ca c_l_pick (fun z => nomatch z) hr (by decide) passL rfl (pa_cons (pv 0) (pa_cons (pe_lst (pa_cons pe_str (pa_cons pe_str (pa_cons pe_str pa_nil)))) pa_nil))) pa_nil))) (pe_slice sl_list (pv 6) po_none (po_some pe_int))))) pss_nil)
    (pss_one (ps_ret (pe_ca c_l_same hG hr (by decide) passL rfl (pa_cons (pe_ca c_fresh_name (fun z => nomatch z) hr (by decide) (passes_call (takes_of rfl rfl rfl rfl) fun _ _ _ _ h => h) rfl (pa_cons (pe_callTy call_tupI (by rfl) T.n_tuple (by decide +kernel) (pa_cons (pv 6) pa_nil)) pa_nil)) (pa_cons (pv 8) pa_nil)))))))))))), ?_⟩
  obtain ⟨_, d, la, rfl, D0, q⟩ := h
  have hsl : ("abcdefghijklmnopqrstuvwxyz" : Str).length ≤ 1000000 := by decide +kernel
  refine q_parL el_nil (fun _ _ => ev_c) fun p0 H1 hp0 e1 h1 => ?_
  refine q_cut (M := fun σ' H' => ∃ (pn : Addr) (v3 : Option V), σ' = [some (.ref d), some (.ref pn), some (.str "abcdefghijklmnopqrstuvwxyz"), v3, none, none, none, none, none] ∧ H' pn = some (.lst (sV nmAll)) ∧ H pn = none ∧ Dx d la H H') ?_ ?_
  · refine s_forNL (xs := sV firsts) (el_eq (el_catLL (el_lst (ea_cons ev_c ea_nil) (by simp)) (el_lstr (ev_var rfl) hsl) (by decide +kernel)) firsts_V) (fun p i σ' H' => ∃ (pn : Addr) (v3 : Option V), σ' = [some (.ref d), some (.ref pn), some (.str "abcdefghijklmnopqrstuvwxyz"), v3, none, none, none, none, none] ∧ H' pn = some (.lst (sV ((firsts.take i).flatMap nmF))) ∧ H pn = none ∧ Ex H H' ∧ H' p = some (.lst (sV firsts)))
      (fun p H2 hp e2 h2 => ⟨p0, none, rfl, e2 _ _ h1, hp0, e1.trans e2, h2⟩) (fun p i σ' H' _ ⟨_, _, _, _, _, _, h⟩ => sq_of h) ?_ ?_
    · rintro p i x σ' H' hx ⟨pn, v3, rfl, hpn, hn0, eH, hp⟩
      obtain ⟨ff, hf, rfl⟩ : ∃ ff, firsts[i]? = some ff ∧ x = .str (S ff) := by
        rw [List.getElem?_map] at hx
        cases hq : firsts[i]? with
        | none =>
          rw [hq] at hx
          cases hx
        | some ff =>
          rw [hq] at hx
          exact ⟨ff, rfl, (Option.some.inj hx).symm⟩
      have hfl := firsts_len ff (List.mem_of_getElem? hf)
      have hadd : ∀ c : Nat, (S ff).length + (⟨#[c]⟩ : Str).length ≤ 1000000 := fun c => by
        rw [S_len, show (⟨#[c]⟩ : Str).length = 1 from rfl]
        omega
      refine s_asgL (el_catVL (ys := sV (nmF ff)) (ev_var rfl) hpn (el_eq (el_lcS (pIn ff) (gIn ff) (ev_var rfl) hsl (fun _ => rfl) (fun c H2 _ _ => et_test (ev_op (ev_op (ev_var rfl) (ev_var rfl) (rv_addS (hadd c))) ev_c (rv_ne rfl))) (fun c H2 _ _ _ => ev_op (ev_var rfl) (ev_var rfl) (rv_addS (hadd c)))) (by rw [t_small]; exact nmF_V ff)) ?_) fun p' H2 hp' e2 h2 => ?_
      · rw [List.length_map, List.length_map]
        have := names_pre i
        have := nmF_fine ff
        omega
      · refine ⟨p', some (.str (S ff)), rfl, ?_, fresh_back eH hp', eH.trans e2, e2 _ _ hp⟩
        rw [names_step hf]
        show H2 p' = some (.lst (List.map _ (_ ++ _)))
        rw [List.map_append]
        exact h2
    · rintro p σ' H' ⟨pn, v3, rfl, hpn, hn0, eH, hp⟩
      rw [show (sV firsts).length = firsts.length by simp, List.take_length] at hpn
      exact ⟨pn, v3, rfl, hpn, hn0, .of D0 eH⟩
  rintro σ' H2 ⟨pn, v3, rfl, hpn, hn0, D2⟩
  have nla : ∀ p, H p = none → p ≠ la := D0.lst_ne
  have nd' : ∀ {Hx : Hp}, Dr Hx d la → ∀ {p xs}, Hx p = some (.lst xs) → p ≠ d := fun {Hx} Dq {p xs} h => by
    obtain ⟨ca, bs, cs, r, t, nlc, hd, _⟩ := Dq
    exact ne_of h hd (by simp)
  have nlen : (sV nmAll).length = 701 := by rw [List.length_map, nmAll_len]
  refine q_asgP (P := fun v => ∃ m : Nat, v = .int (m : Int) ∧ m ≤ 701) (d := d) (la := la) (fun Q k => ⟨_, rfl, takeC rfl ev_c (by decide) D2.dr fun i H3 hi D3 => takeC rfl ev_c (by decide) D3.dr fun j H4 hj D4 => ?_⟩) fun v H3 ⟨m, hv, hm⟩ D3 => ?_
  · have D24 := D3.trans D4
    have hpn4 : H4 pn = some (.lst (sV nmAll)) := D24.keep _ _ hpn (nd' D2.dr hpn) (nla pn hn0)
    refine (ev_len (ev_var rfl) (sq_of hpn4)) H4 (Ex.refl H4) _ fun H5 e5 => ⟨(by show 3 ≤ sizeLine; decide), fun p hp => ⟨rfl, d, la, _, fun v => ∃ m : Nat, v = .int (m : Int) ∧ m ≤ 701, rfl, (D4.ext e5).dr.ex (Ex.new hp), .inr ⟨p, _, rfl, (D4.ext e5).dr.lst_ne p hp, upd_same, by simp, by simp, ?_⟩, fun v H6 hv D6 => k v H6 hv (((D24.ext e5).ext (Ex.new hp)).trans D6)⟩⟩
    intro y hy
    simp at hy
    rcases hy with rfl | rfl | rfl
    · exact ⟨i.toNat, congrArg V.int (by omega), by omega⟩
    · exact ⟨j.toNat, congrArg V.int (by omega), by omega⟩
    · exact ⟨701, congrArg V.int (by rw [nmAll_len]), Nat.le_refl _⟩
  subst hv
  have hpn3 : H3 pn = some (.lst (sV nmAll)) := D3.keep _ _ hpn (nd' D2.dr hpn) (nla pn hn0)
  refine (el_sl (xs := sV nmAll) (ev_var rfl) eo_none (eo_some (ev_var rfl)) (sq_of hpn3)) H3 (Ex.refl H3) _ fun pu H4 hpu e4 h4 => takeC rfl (n := (m : Int) + 1) (ev_op (ev_var rfl) ev_c rv_I0) (by omega) (D3.dr.ex e4) fun gi H5 hg D5 => ⟨_, _, rfl, ?_⟩
  rw [cutV_to] at h4
  obtain ⟨g, rfl, hgm⟩ := int_nat (n := m + 1) hg
  have D35 := (Dx.of D3.dr e4).trans D5
  have nu : pu ≠ la := D3.dr.lst_ne pu hpu
  have hpu5 : H5 pu = some (.lst ((sV nmAll).take m)) := D5.keep _ _ h4 (nd' (D3.dr.ex e4) h4) nu
  have hpn5 : H5 pn = some (.lst (sV nmAll)) := D35.keep _ _ hpn3 (nd' D3.dr hpn3) (nla pn hn0)
  have hul : ((sV nmAll).take m).length = m := by rw [List.length_take, nlen]; omega
  have hget : ∀ j, j < 701 → (sV nmAll)[j]? = some (.str (S (wrd (cj j)))) := fun j hj => by
    rw [List.getElem?_map, nmAll_get j hj]
    rfl
  have hg702 : g < 702 := by omega
  refine q_asg (v := .str (S (wrd (cj g)))) (ev_if (b := decide (g < m)) (et_test (ev_sub (ev_op (ev_var rfl) (ev_var rfl) rv_I0) (congrArg V.bl (dlt g m)))) (fun hb => ?_) fun hb => ev_if (b := decide (m < 701)) (et_test (ev_sub (ev_op (ev_var rfl) (ev_len (ev_var rfl) (sq_of hpn5)) rv_I0) (by rw [nlen]; exact congrArg V.bl (dlt m 701)))) (fun hb2 => ?_) fun hb2 => ?_) fun H6 e6 => ?_
  · have hlt := of_decide_eq_true hb
    exact ev_op (ev_var rfl) (ev_var rfl) (rv_ixL (sq_of hpu5) (atI_nat (by rw [List.getElem?_take_of_lt hlt]; exact hget g (by omega))))
  · have h1 := of_decide_eq_false hb
    have h2 := of_decide_eq_true hb2
    have e : g = m := by omega
    subst e
    exact ev_op (ev_var rfl) (ev_var rfl) (rv_ixL (sq_of hpn5) (atI_nat (hget g h2)))
  · have h1 := of_decide_eq_false hb
    have h2 := of_decide_eq_false hb2
    have e : g = 701 := by omega
    subst e
    exact ev_sub ev_c (congrArg V.str (by rw [t_aaa]; exact congrArg S wrd_aaa.symm))
  refine q_asgL (el_catLL (el_sl (ev_var rfl) eo_none (eo_some (ev_var rfl)) (sq_of (e6 _ _ hpu5))) (el_sl (ev_var rfl) (eo_some (ev_op (ev_var rfl) ev_c rv_I0)) eo_none (sq_of (e6 _ _ hpu5))) ?_) fun pw H7 hpw e7 h7 => ?_
  · have z1 := cutV_length ((sV nmAll).take m) none (some (g : Int))
    have z2 := cutV_length ((sV nmAll).take m) (some ((g : Int) + 1)) none
    omega
  have D37 := (D35.ext e6).ext e7
  have U := used_of (m := m) (g := g) hm (by omega)
  have h7' : H7 pw = some (.lst (sV ((nmAll.take m).take g ++ (nmAll.take m).drop (g + 1)))) := by
    rw [h7, cutV_to, show ((g : Int) + 1) = ((g + 1 : Nat) : Int) from rfl, cutV_from]
    simp [sV, List.map_append, List.map_take, List.map_drop]
  have hus : ((nmAll.take m).take g ++ (nmAll.take m).drop (g + 1)).length ≤ 1500 := by
    rw [List.length_append, List.length_take, List.length_drop, List.length_take, nmAll_len]
    omega
  generalize (nmAll.take m).take g ++ (nmAll.take m).drop (g + 1) = us at U h7' hus
  have npw : pw ≠ la := ((D3.trans D35).ext e6).dr.lst_ne pw hpw
  refine q_cut (M := fun σ' H' => ∃ (pz : Addr) (uz : List (List Nat)), σ' = [some (.ref d), some (.ref pn), some (.str "abcdefghijklmnopqrstuvwxyz"), v3, none, some (.int (m : Int)), some (.ref pz), some (.int (g : Int)), some (.str (S (wrd (cj g))))] ∧ H' pz = some (.lst (sV uz)) ∧ Used g uz ∧ Dx d la H H') ?_ ?_
  · have DH7 := (D2.trans D3).trans D37
    refine (show tTest (tOp rEq (tCa spTake _ (tCons (tVar 0) (tCons (tC (.int 2)) tNil))) (tC (.int 0))) _ H7 _ from takeC rfl ev_c (by decide) D37.dr fun i H8 hi D8 => ⟨rfl, _, rfl, ?_⟩)
    have hpw8 : H8 pw = some (.lst (sV us)) := D8.keep _ _ h7' (nd' D37.dr h7') npw
    show (if decide (V.int i = V.int 0) = true then _ else _)
    by_cases hb : decide (V.int i = V.int 0) = true
    · rw [if_pos hb]
      refine ⟨_, rfl, pw, sV us, rfl, sq_of hpw8, fun pr hpr => pickL (P := fun y => ∃ x, x ∈ [[97, 98, 99], [122, 122, 122, 122], [97, 97, 98]] ∧ y = .str (S x)) rfl (el_lst (ea_cons ev_c (ea_cons ev_c (ea_cons ev_c ea_nil))) (by simp)) (by simp) t_three (D8.dr.ex (Ex.new hpr)) fun y H9 ⟨x, hx, hy⟩ D9 => ⟨(by show 1 ≤ sizeLine; decide), fun p1 hp1 => ?_⟩⟩
      subst hy
      have D89 := (Dx.of D8.dr (Ex.new (o := .lst (sV us).reverse) hpr)).trans D9
      have npr : pr ≠ la := D8.dr.lst_ne pr hpr
      have hpr9 : H9 pr = some (.lst (sV us).reverse) := D9.keep _ _ upd_same (nd' (D8.dr.ex (Ex.new (o := .lst (sV us).reverse) hpr)) (upd_same (H := H8) (a := pr) (o := .lst (sV us).reverse))) npr
      have hpw9 : H9 pw = some (.lst (sV us)) := D89.keep _ _ hpw8 (nd' D8.dr hpw8) npw
      refine ⟨pr, p1, (sV us).reverse, [.str (S x)], rfl, rfl, Ex.new hp1 _ _ hpr9, upd_same, ?_, fun p2 hp2 => ?_⟩
      · rw [List.length_reverse, List.length_map]
        exact Nat.le_trans (show us.length + 1 ≤ 2000 by omega) (by decide)
      have ex12 := (Ex.new (o := .lst [V.str (S x)]) hp1).trans (Ex.new (o := .lst ((sV us).reverse ++ [V.str (S x)])) hp2)
      refine (el_sl (xs := sV us) (hi := some 2) (ev_var rfl) eo_none (eo_some ev_c) (sq_of (ex12 _ _ hpw9))) _ (Ex.refl _) _ fun p3 H10 hp3 e10 h10 => ⟨p2, p3, _, _, rfl, rfl, e10 _ _ upd_same, h10, ?_, fun p4 hp4 => ?_⟩
      · have z := cutV_length (sV us) none (some 2)
        rw [List.length_append, List.length_reverse]
        rw [List.length_map] at z ⊢
        exact Nat.le_trans (show us.length + [V.str (S x)].length + (cutV (sV us) none (some 2)).length ≤ 10000 by simp; omega) (by decide)
      refine ⟨p4, us.reverse ++ [x] ++ us.take 2, rfl, ?_, used_more U hus x hx, ((((DH7.trans D8).trans D89).ext ex12).ext e10).ext (Ex.new hp4)⟩
      rw [upd_same, show (some 2 : Option Int) = some ((2 : Nat) : Int) from rfl, cutV_to]
      simp [sV, List.map_append, List.map_take, List.map_reverse]
    · rw [if_neg hb]
      exact ⟨pw, us, rfl, hpw8, U, DH7.trans D8⟩
  rintro σ' H8 ⟨pz, uz, rfl, hpz, Uz, D8⟩
  obtain ⟨f1, f2, f3⟩ := wrd_fine (cj g) (cj_lt g hg702).1
  obtain ⟨l1, l2, l3, l4⟩ := fresh_law hg702 Uz.a Uz.b
  refine (eu_of (ys := sV uz) (ev_var rfl) hpz) H8 (Ex.refl H8) _ fun pt H9 hpt e9 h9 => ⟨rfl, .ref pt, rfl, .inl ⟨pt, sV uz, rfl, st_of h9, .base (.tup h9), by rw [List.length_map]; have := Uz.d; omega, fun y hy => ?_, fun _ => ⟨uz, cj g, rfl, l1, l2, l3, l4, fun H10 e10 => ?_⟩, fun hb => ?_⟩⟩
  · obtain ⟨w, hw, rfl⟩ := List.mem_map.mp hy
    exact .inl ⟨S w, rfl, by rw [S_len]; have := (Uz.c w hw).2; omega⟩
  · refine ⟨_, rfl, rfl, _, _, .str (S (wrd (cj g))), rfl, shows_str _ _ _ (by omega) (sm_all _ f1), shows_str _ _ _ (by omega) (sm_all _ f1), fun H11 e11 => q H11 (D8.ext ((e9.trans e10).trans e11))⟩
  · have : ((sV uz).map pV).all id = true := by
      rw [List.map_map, List.all_map]
      refine List.all_eq_true.mpr fun w hw => ?_
      show nm (S w).cps.toList = true
      rw [S_tl]
      exact (Uz.c w hw).1
    rw [this] at hb
    cases hb
end Q
set_option maxHeartbeats 4000000
namespace Q
open PySem PySem.Spec PyProof.Rows L2 Evl
/-! ### blanks, so many -/
theorem mul_fold (c : Nat) : ∀ (k : Nat) (acc : Array Nat), (List.replicate k (#[c] : Array Nat)).foldl (· ++ ·) acc = acc ++ (List.replicate k c).toArray
  | 0, acc => by simp
  | k + 1, acc => by
    rw [List.replicate_succ, List.foldl_cons, mul_fold c k, List.replicate_succ]
    apply Array.ext'
    simp only [Array.toList_append, List.toList_toArray, List.append_assoc]
    rfl
theorem mul_S (c : Nat) (n : Nat) : Txt.mul (S [c]) (n : Int) = S (List.replicate n c) := by
  unfold Txt.mul
  by_cases h : (n : Int) < 1
  · have : n = 0 := by omega
    subst this
    rfl
  · rw [if_neg h]
    by_cases h1 : n = 1
    · subst h1
      rfl
    · have hb : ((n : Int) == 1 || (S [c]).length == 0) = false := by
        have e1 : ((n : Int) == 1) = false := by
          rw [beq_eq_false_iff_ne]
          omega
        rw [e1]
        rfl
      rw [hb, if_neg Bool.false_ne_true, Int.toNat_natCast]
      show (⟨(List.replicate n (S [c]).cps).foldl (· ++ ·) #[]⟩ : Str) = _
      rw [show (S [c]).cps = (#[c] : Array Nat) from rfl, mul_fold]
      simp [S, SX.S]
theorem mul_ok (c : Nat) (n : Nat) (h : n ≤ 100000) : MulOk (S [c]) (n : Int) := by
  refine ⟨?_, fun h1 _ => ?_, fun _ _ => ?_⟩
  · rw [Bool.or_eq_false_iff]
    exact ⟨decide_eq_false (by omega), decide_eq_false (by omega)⟩
  · have hn : (0 : Int) < n := by omega
    have e : ((S [c]).length : Int) = 1 := rfl
    rw [e]
    have z : (1 : Int) ≤ (2 ^ 63 - 1) / (n : Int) := (Int.le_ediv_iff_mul_le hn).mpr (by omega)
    omega
  · show Builtin.Str.tooLong ((S [c]).length * (n : Int).toNat) = false
    rw [show (S [c]).length = 1 from rfl, Int.toNat_natCast, Nat.one_mul]
    unfold Builtin.Str.tooLong
    exact decide_eq_false (by have : sizeLine = 16777216 := sizeLine_eq; omega)
/-! ### rows as data -/
def tokD (r : List Nat × Nat) : PyData := .tuple [.str (S r.1), .int (r.2 : Int)]
def rowsD (R : List (List Nat × Nat)) : PyData := .list (R.map tokD)
theorem dp_rows {K : PySem.W.Frag} {H : Hp} : ∀ {vs : List V} {R : List (List Nat × Nat)}, TokV H vs R → DpAll K H vs (R.map tokD)
  | [], [], _ => .nil
  | v :: vs, r :: R, ⟨⟨a, e, h⟩, t⟩ => by
    subst e
    exact .cons (.tup (st_of h) (.cons (.str _) (.cons (.int _) .nil))) (dp_rows t)
theorem lay_rows : ∀ R : List (List Nat × Nat), (∀ r ∈ R, r.1.all (· < 128) = true) → PyData.canLayAll0 (R.map tokD) = true ∧ PyData.depthAll (R.map tokD) ≤ 1
  | [], _ => ⟨rfl, Nat.zero_le _⟩
  | r :: R, h => by
    obtain ⟨a, b⟩ := lay_rows R fun x hx => h x (List.mem_cons_of_mem _ hx)
    have h0 : PyData.strOk (S r.1) = true := by
      show (S r.1).cps.all (· < 0x110000) = true
      rw [show (S r.1).cps.all (· < 0x110000) = r.1.all (· < 0x110000) by simp [S, SX.S]]
      refine List.all_eq_true.mpr fun c hc => ?_
      have := of_decide_eq_true (List.all_eq_true.mp (h r List.mem_cons_self) c hc)
      exact decide_eq_true (by omega)
    refine ⟨?_, ?_⟩
    · show ((PyData.strOk (S r.1) && (true && true)) && PyData.canLayAll0 (R.map tokD)) = true
      rw [h0, a]
      rfl
    · show max (max 0 (max 0 0) + 1) (PyData.depthAll (R.map tokD)) ≤ 1
      omega
theorem show_rows : ∀ R : List (List Nat × Nat), (∀ r ∈ R, r.2 ≤ 50000) → PyData.showableAll (R.map tokD) = true
  | [], _ => rfl
  | r :: R, h => by
    have a := show_rows R fun x hx => h x (List.mem_cons_of_mem _ hx)
    have b := h r List.mem_cons_self
    show ((true && (decide (((r.2 : Nat) : Int).natAbs.log2 < 1920) && true)) && PyData.showableAll (R.map tokD)) = true
    rw [a, Int.natAbs_natCast, decide_eq_true (log_small (by omega))]
    rfl
theorem tup_len (r : List Nat × Nat) (h1 : r.1.all (· < 128) = true) (h2 : r.2 ≤ 50000) : (tokD r).shown.length ≤ 10 * r.1.length + 20 := by
  have hall := List.all_eq_true.mp h1
  have l1 : (reprText (S r.1)).length ≤ 10 * r.1.length + 2 := by
    have z := StrLaws.reprText_len (S r.1) fun c hc => by
      rw [S_tl] at hc
      have := of_decide_eq_true (hall c hc)
      omega
    rw [S_len] at z
    exact z
  have l2 : (Str.ofString (toString ((r.2 : Nat) : Int))).length ≤ 5 := by
    rw [show Str.ofString (toString ((r.2 : Nat) : Int)) = S (TL.numL r.2) from SX.num_S r.2, S_len]
    exact TL.numL_len (by decide) (by omega)
  show (("(" : Str) ++ Str.join ", " [reprText (S r.1), Str.ofString (toString ((r.2 : Nat) : Int))] ++ (")" : Str)).length ≤ _
  have j := join_length_add [reprText (S r.1), Str.ofString (toString ((r.2 : Nat) : Int))] (by simp)
  rw [piled_cons, piled_cons, piled_nil] at j
  rw [strLen_append, strLen_append]
  have e1 : ("(" : Str).length = 1 := by decide +kernel
  have e2 : (")" : Str).length = 1 := by decide +kernel
  omega
theorem piled_rows : ∀ R : List (List Nat × Nat), (∀ r ∈ R, r.1.all (· < 128) = true ∧ r.2 ≤ 50000) → piled (PyData.shownAll (R.map tokD)) ≤ 10 * (R.map fun r => r.1.length).sum + 22 * R.length
  | [], _ => Nat.le_refl _
  | r :: R, h => by
    have a := piled_rows R fun x hx => h x (List.mem_cons_of_mem _ hx)
    obtain ⟨b1, b2⟩ := h r List.mem_cons_self
    have c := tup_len r b1 b2
    rw [List.map_cons]
    show piled ((tokD r).shown :: PyData.shownAll (R.map tokD)) ≤ _
    rw [piled_cons, List.map_cons, List.sum_cons, List.length_cons]
    omega
theorem list_len (ts : List Str) : (listText ts).length ≤ 2 + piled ts := by
  have e1 : ("[" : Str).length = 1 := by decide +kernel
  have e2 : ("]" : Str).length = 1 := by decide +kernel
  unfold listText
  rw [strLen_append, e2]
  cases ts with
  | nil =>
    show ("[" : Str).length + 1 ≤ _
    rw [e1]
    omega
  | cons t r =>
    show (textFrom 1 (("[" : Str) ++ ("" : Str) ++ t) r).length + 1 ≤ _
    rw [textFrom_length_pos r 1 _ (by decide), strLen_append, strLen_append, e1, piled_cons]
    have e3 : ("" : Str).length = 0 := by decide +kernel
    rw [e3]
    omega
theorem shows_rows {K : PySem.W.Frag} {H : Hp} {p : Addr} {ws : List V} {l : List Nat} {R : List (List Nat × Nat)} (hp : H p = some (.lst ws)) (ht : TokV H ws R) (hR : Rws l 0 R) (hl : l.length ≤ 40001) (ha : ∀ r ∈ R, r.1.all (· < 128) = true) : Shows K H (.ref p) (rowsD R) := by
  obtain ⟨s1, s2, s3⟩ := rws_size hR
  have at_ : ∀ r ∈ R, r.2 ≤ 50000 := fun r hr => by have := (s3 r hr).1; omega
  obtain ⟨c1, c2⟩ := lay_rows R ha
  refine ⟨.lst (sq_of hp) (dp_rows ht), ?_, show_rows R at_, ?_⟩
  · show (PyData.canLayAll0 (R.map tokD) && decide (PyData.depthAll (R.map tokD) + 1 ≤ 64)) = true
    rw [c1, decide_eq_true (by omega)]
    rfl
  · show (listText (PyData.shownAll (R.map tokD))).length ≤ sizeLine
    have a := list_len (PyData.shownAll (R.map tokD))
    have b := piled_rows R fun r hr => ⟨ha r hr, at_ r hr⟩
    have : sizeLine = 16777216 := sizeLine_eq
    omega
/-- rows of a text of small signs -/
theorem rws_all {l : List Nat} {a : Nat} {R : List (List Nat × Nat)} (h : Rws l a R) (hl : l.all (· < 128) = true) : ∀ r ∈ R, r.1.all (· < 128) = true := by
  induction h with
  | nil => exact fun r hr => by cases hr
  | skip _ _ ih =>
    rw [List.all_cons, Bool.and_eq_true] at hl
    exact ih hl.2
  | @row c t a r _ _ ih =>
    have h1 : ∀ x ∈ c :: t, decide (x < 128) = true := List.all_eq_true.mp hl
    intro r hr
    rcases List.mem_cons.mp hr with e | hr
    · subst e
      exact List.all_eq_true.mpr fun x hx => h1 x (List.mem_of_mem_take hx)
    · exact ih (List.all_eq_true.mpr fun x hx => h1 x (List.mem_of_mem_drop hx)) r hr
theorem shows_nat (K : PySem.W.Frag) (H : Hp) (n : Nat) (h : n ≤ 50000) : Shows K H (.int (n : Int)) (.int (n : Int)) := by
  refine ⟨.int _, rfl, ?_, ?_⟩
  · show decide (((n : Nat) : Int).natAbs.log2 < 1920) = true
    rw [Int.natAbs_natCast]
    exact decide_eq_true (log_small (by omega))
  · show (Str.ofString (toString ((n : Nat) : Int))).length ≤ sizeLine
    rw [show Str.ofString (toString ((n : Nat) : Int)) = S (TL.numL n) from SX.num_S n, S_len]
    exact Nat.le_trans (TL.numL_len (k := 5) (by decide) (by omega)) (by decide)
end Q
set_option maxHeartbeats 8000000
namespace Q
open PySem PySem.Spec PyProof.Rows L2 Evl
variable {D : Wd} {aT cB cT cN fI c1 P1 c2 P2 : Addr} {fdI : FuncData}
/-! ### lambdas: tables -/
abbrev tT (P1 P2 : Addr) : List (Addr × Str) := [(P1, ("_law_tokens_right" : Str) ++ (".<locals>." : Str) ++ ("<lambda>" : Str)), (P2, ("law" : Str) ++ (".<locals>." : Str) ++ ("<lambda>" : Str))]
theorem tT_u1 (ne : P1 ≠ P2) : ∀ p ∈ tT P1 P2, p.1 = P1 → p.2 = ("_law_tokens_right" : Str) ++ (".<locals>." : Str) ++ ("<lambda>" : Str) := fun p hp e => by
  rcases List.mem_cons.mp hp with z | hp
  · rw [z]
  · rw [List.mem_singleton.mp hp] at e
    exact absurd e.symm ne
theorem tT_u2 (ne : P1 ≠ P2) : ∀ p ∈ tT P1 P2, p.1 = P2 → p.2 = ("law" : Str) ++ (".<locals>." : Str) ++ ("<lambda>" : Str) := fun p hp e => by
  rcases List.mem_cons.mp hp with z | hp
  · rw [z] at e
    exact absurd e ne
  · rw [List.mem_singleton.mp hp]
def FunC (D : Wd) (x : Str) (i : Nat) (c : Addr) : Prop := ∃ (f : Addr) (fd : FuncData), FunD D.K x x (defArgs (top i)) (defBody (top i)) (defScope (top i)) [] [] f fd ∧ D.mg x = some (.ref f) ∧ fd.code = .ref c
structure Tm (D : Wd) (c1 P1 c2 P2 : Addr) : Prop where
  tb1 : LamX.TabB D.base D.mg c1 P1
  tb2 : LamX.TabB D.base D.mg c2 P2
  ne : P1 ≠ P2
  k1 : FunC D "_law_tokens_right" 38 c1
  k2 : FunC D "law" 41 c2
/-- the rule for a def whose code object is known -/
theorem ca_mkC (g : Bool) {D : Wd} {x : Str} {st : Stmt} {f c : Addr} {fd : FuncData} {N ps : List Str} {k : Nat} {sp : Sp} (F : FunD D.K x x (defArgs st) (defBody st) (defScope st) [] [] f fd) (hc : fd.code = .ref c) (gm : D.mg x = some (.ref f)) (S : FnScope N ps (defScope st))
    (hb : Binds D.K fd ps []) (len : ∀ vs H Q E, sp vs H Q E → vs.length = ps.length)
    (hbody : ∀ (A : Around) (outer : List Env) (s : Shared) (H : Hp) (vs : List V) (Q : VK) (E : XK), (g = true → A.guards = some []) → Room k (bodyCx D N x (defScope st) f (.ref c) A outer s H E).A → sp vs H Q E →
      ∃ t, PSs (bodyCx D N x (defScope st) f (.ref c) A outer s H E) (defBody st) t ∧ t { nx := fun _ H' => Q .non H', rt := Q } (L2.start N vs) H) : Ca D g (k + 1) x ps.length sp := by
  obtain ⟨oc, od, dV, kV, doc, pm, an, cdv, ct, osl, e, lk, hcd, _, _⟩ := F.ex
  have e2 : cdv = .ref c := by
    rw [e] at hc
    exact hc
  subst e2
  subst e
  exact ⟨f, _, ps, gm, F.kp, hb, rfl, len, fun A outer s H args us vs Q E hg hr e0 hbt r hsp =>
    LamX.run_ofS lk hcd S hr e0 hbt r (len _ _ _ _ hsp) fun hr' => hbody A outer s H vs Q E hg hr' hsp⟩
theorem Dr.extN {H H' : Hp} {d la : Addr} (h : Dr H d la) (e : LamX.ExtN H H') : Dr H' d la := by
  obtain ⟨ca, bs, cs, r, t, n, a, b, c, l1, l2⟩ := h
  exact ⟨ca, bs, cs, r, t, n, e _ _ a (fun _ z => by cases z), e _ _ b (fun _ z => by cases z), e _ _ c (fun _ z => by cases z), l1, l2⟩
theorem Dx.tabs {T : List (Addr × Str)} {H H' : Hp} {d la : Addr} (D0 : Dr H d la) (a : Dx d la H H') (t : LamX.Tabs T H) : LamX.Tabs T H' := fun p hp => by
  obtain ⟨ca, bs, cs, r, tt, n, hd, hla, _⟩ := D0
  obtain ⟨ps, h1, h2, h3⟩ := t p hp
  refine ⟨ps, a.keep _ _ h1 (ne_of h1 hd (by simp)) (ne_of h1 hla (by simp)), h2, fun pos cv hc => ?_⟩
  obtain ⟨c, e1, e2⟩ := h3 pos cv hc
  exact ⟨c, e1, a.keep _ _ e2 (ne_of e2 hd (fun z => by cases z)) (ne_of e2 hla (fun z => by cases z))⟩
theorem tabs_ex {T : List (Addr × Str)} {H H' : Hp} (t : LamX.Tabs T H) (e : Ex H H') : LamX.Tabs T H' := t.ext e
theorem TokV.monoN {H H' : Hp} (e : LamX.ExtN H H') {vs : List V} {rs : List (List Nat × Nat)} (h : TokV H vs rs) : TokV H' vs rs := h.mono fun a xs z => e _ _ z fun _ z => by cases z
/-- the tokens' part of the law holds -/
def spTokR (T : List (Addr × Str)) : Sp := fun vs H Q _ => vs.length = 1 ∧ ∃ d la, vs = [.ref d] ∧ Dr H d la ∧ LamX.Tabs T H ∧ ∀ H2, Dr H2 d la → LamX.Tabs T H2 → Q (.bl true) H2
/-- the comprehension over the rows -/
theorem el_rows {K : PySem.W.Frag} {σ : L2.St} {H : Hp} {te : TE} {tt : TT} {ts : TE} {a : Addr} {ws : List V} {R : List (List Nat × Nat)} {j1 j2 : Nat} {vs : List Nat} (p : List Nat × Nat → Bool) (h : Ev ts σ H (.ref a)) (hx : H a = some (.lst ws)) (hv : TokV H ws R) (hz : R.length ≤ 100000)
    (hw : ∀ x y, wipe (((wipe σ vs).set j1 (some x)).set j2 (some y)) vs = wipe σ vs)
    (ht : ∀ r H1, Ex H H1 → r ∈ R → EvT tt (((wipe σ vs).set j1 (some (.str (S r.1)))).set j2 (some (.int (r.2 : Int)))) H1 (p r)) (he : ∀ r H1, Ex H H1 → r ∈ R → Ev te (((wipe σ vs).set j1 (some (.str (S r.1)))).set j2 (some (.int (r.2 : Int)))) H1 (.int (r.2 : Int))) :
    EvL (tLc (iList K ts) (gTup K 2 (gCons (gName j1) (gCons (gName j2) gNil))) tt te vs) σ H ((R.filter p).map fun r => V.int (r.2 : Int)) := fun H0 e Q q => h H0 e _ fun H1 e1 => ⟨a, rfl, ⟨ws, sq_of (e1 _ _ (e _ _ hx))⟩, fun Dl hD => by
  have eH1 := e.trans e1
  have get : ∀ {vs : List V} {rs : List (List Nat × Nat)} (i : Nat) (x : V), TokV H vs rs → vs[i]? = some x → ∃ r b, rs[i]? = some r ∧ x = .ref b ∧ H b = some (.tup [.str (S r.1), .int (r.2 : Int)]) := by
    intro vs
    induction vs with
    | nil => intro rs i x _ hx; simp at hx
    | cons v vs ih =>
      intro rs i x ht hx
      cases rs with
      | nil => exact ht.elim
      | cons r rs =>
        obtain ⟨⟨b, e1, e2⟩, t⟩ := ht
        cases i with
        | zero =>
          cases hx
          exact ⟨r, b, rfl, e1, e2⟩
        | succ i => exact ih i x t hx
  refine lc_it walk_list (fun i H' => Ex H1 H' ∧ H' Dl = some (.lst (((R.take i).filter p).map fun r => V.int (r.2 : Int)))) ⟨Ex.new hD, by rw [List.take_zero]; exact upd_same⟩ (fun i H' hi q => sq_of (q.1 _ _ (eH1 _ _ hx))) ?_ ?_
  · rintro i x H2 H3 hi ⟨e2, h2⟩ ⟨rfl, hx⟩
    obtain ⟨r, b, hr, rfl, hb⟩ := get i x hv hx
    have hm : r ∈ R := List.mem_of_getElem? hr
    have tk : R.take (i + 1) = R.take i ++ [r] := by rw [List.take_succ, hr]; rfl
    have hl : (((R.take i).filter p).map fun r => V.int (r.2 : Int)).length ≤ 100000 := by
      rw [List.length_map]
      exact Nat.le_trans (List.length_filter_le _ _) (Nat.le_trans (by rw [List.length_take]; exact Nat.min_le_right _ _) hz)
    refine ⟨b, _, rfl, st_of ((eH1.trans e2) _ _ hb), rfl, _, _, rfl, _, _, rfl, rfl, hw _ _, ht r H3 (eH1.trans e2) hm H3 (Ex.refl _) _ fun H4 e4 => ?_⟩
    cases hp : p r with
    | true =>
      refine he r H4 ((eH1.trans e2).trans e4) hm H4 (Ex.refl _) _ fun H5 e5 => ⟨_, e5 _ _ (e4 _ _ h2), Nat.lt_of_le_of_lt hl (by decide), Ex.mut ((e2.trans e4).trans e5) hD, ?_⟩
      rw [tk, List.filter_append, List.map_append, List.filter_cons, if_pos hp]
      exact upd_same
    | false =>
      refine ⟨e2.trans e4, ?_⟩
      rw [tk, List.filter_append, List.map_append, List.filter_cons, if_neg (by rw [hp]; decide)]
      show H4 Dl = some (.lst (_ ++ []))
      rw [List.append_nil]
      exact e4 _ _ h2
  · rintro H2 ⟨e2, h2⟩
    rw [TokV.len hv, List.take_length] at h2
    exact q Dl H2 (fresh_back e1 hD) (e1.trans e2) h2⟩
end Q
set_option maxHeartbeats 8000000
namespace Q
open PySem PySem.Spec PyProof.Rows L2 Evl
variable {D : Wd} {aT cB cT cN fI c1 P1 c2 P2 : Addr} {fdI : FuncData}
theorem tabs_upd {T : List (Addr × Str)} {H : Hp} {p : Addr} {ws ws' : List V} (t : LamX.Tabs T H) (hp : H p = some (.lst ws)) : LamX.Tabs T (upd H p (.lst ws')) := fun q hq => by
  obtain ⟨ps, h1, h2, h3⟩ := t q hq
  refine ⟨ps, by rw [upd_ne (ne_of h1 hp (by simp))]; exact h1, h2, fun pos cv hc => ?_⟩
  obtain ⟨c, e1, e2⟩ := h3 pos cv hc
  exact ⟨c, e1, by rw [upd_ne (ne_of e2 hp (fun z => by cases z))]; exact e2⟩
theorem ev_isX {K : PySem.W.Frag} {σ : L2.St} {H : Hp} {te : TE} {a C E : Addr} {d : Option Addr} {b : Bool} (h : Ev te σ H (.ref a)) (ha : H a = some (ExT (.ref C) d a)) (hd : ∀ H1, Ex H H1 → DkX H1 d) (hC : ExcC K C) (hk : PySem.W.kitOne K (.ref C) (.ref E) = some b) : Ev (tCB (rIsX K) (tCons te (tCons (tC (.ref E)) tNil))) σ H (.bl b) :=
  ev_cb (ea_cons h (ea_cons ev_c ea_nil)) fun H1 e Q q => ⟨a, .ref E, .ref E, C, d, b, rfl, e _ _ ha, hd H1 e, hC, .own E, hk, q H1 (Ex.refl H1)⟩
theorem ev_xt {K : PySem.W.Frag} {σ : L2.St} {H : Hp} {te : TE} {a C dd : Addr} {fs : List (Str × V)} {f : Str} {v : V} (h : Ev te σ H (.ref a)) (ha : H a = some (ExT (.ref C) (some dd) a)) (hd : H dd = some (.xd fs)) (hC : XfC K C) (hn : PySem.W.findIn K (.ref C) f = some none) (hl : fs.lookup f = some v) : Ev (tXt K te f) σ H v := fun H1 e Q q =>
  h H1 e _ fun H2 e2 => ⟨a, C, dd, fs, v, rfl, (e.trans e2) _ _ ha, (e.trans e2) _ _ hd, hC, hn, hl, q H2 e2⟩
theorem ints_of (R : List (List Nat × Nat)) (p : List Nat × Nat → Bool) : ((R.filter p).map fun r => V.int (r.2 : Int)) = ((R.filter p).map fun r => (r.2 : Int)).map V.int := by rw [List.map_map]; rfl
theorem eqv_nil : ∀ bs : List Int, PyData.eqv (.list (bs.map .int)) (.list []) = decide (bs = [])
  | [] => rfl
  | b :: bs => rfl
theorem s_forD {σ : L2.St} {H : Hp} {t : TA} {tu : TS} {Dn : Ends} {d la : Addr} {j M : Nat} (hM : M ≤ 100000) (hta : ∀ R : List V → Hp → Prop, (∀ (n : Nat) H1, n ≤ M → Dx d la H H1 → R [.int (n : Int)] H1) → t σ H R) (Pv : Nat → L2.St → Hp → Prop) (h0 : ∀ H1, Dx d la H H1 → Pv 0 σ H1)
    (hs : ∀ (i : Nat) σ' H', i < M → Pv i σ' H' → tu { Dn with nx := Pv (i + 1), ct := Pv (i + 1), bk := Dn.nx } (σ'.set j (some (.int (i : Int)))) H') (hd : ∀ (i : Nat) σ' H', i ≤ M → Pv i σ' H' → Dn.nx σ' H') : tFor (iRng1 t) (gName j) tu Dn σ H :=
  q_forD (tz := fun D' σ H => Dn.nx σ H) (Dn := Dn) hM hta Pv h0 hs hd
theorem q_tup2 {σ : L2.St} {H : Hp} {ta tb : TE} {g : TG} {tz : TS} {Dn : Ends} (h : ta σ H fun x H1 => tb σ H1 fun y H2 => (2 ≤ sizeLine) ∧ ∀ p, H2 p = none → g (.ref p) σ (upd H2 p (.tup [x, y])) (tz Dn)) : tSeq (tAsg (tTup (tCons ta (tCons tb tNil))) g) tz Dn σ H := h
theorem sc_cau : FnScope ["work", "caught", "error"] ["work"] (defScope (top 27)) := ⟨rfl, rfl, rfl, by decide +kernel, rfl, by decide +kernel, by decide +kernel⟩
abbrev s__law_tokens_right : Stmt := top 38
abbrev N__law_tokens_right : List Str := ["draw", "text", "lap", "found", "rows", "error", "wrong", "row", "at"]
theorem sc__law_tokens_right : FnScope N__law_tokens_right ["draw"] (defScope s__law_tokens_right) := ⟨rfl, rfl, rfl, by decide +kernel, rfl, by decide +kernel, by decide +kernel⟩
theorem c_l_tokens_right (T : Tx D aT cB cT cN fI fdI) (M : Tm D c1 P1 c2 P2) : Ca D true 6 "_law_tokens_right" 1 (spTokR (tT P1 P2)) := by
  have c_l_take := c_l_take T
  have c_l_pick := c_l_pick T
  have c_l_piece := c_l_piece T
  have c_l_row := c_l_row T
  have c_tokens_of := c_tokens_of T
  have c_l_is_token := c_l_is_token T
  have c_l_same := c_l_same T
  obtain ⟨g, fdg, Fg, gmg⟩ := T.f27
  have bg := Fg.bindsN (ps := ["work"]) fun _ _ _ _ _ _ us hl => match us, hl with | [_], _ => rfl
  obtain ⟨ocg, odg, dVg, kVg, docg, pmg, ang, cdvg, ctg, oslg, efg, lkg, hcg, hDg, hKg⟩ := Fg.ex
  subst efg
  obtain ⟨f, fd, F, gm, hcode⟩ := M.k1
  refine ca_mkC (st := s__law_tokens_right) (N := N__law_tokens_right) (ps := ["draw"]) true F hcode gm sc__law_tokens_right (F.bindsN fun _ _ _ _ _ _ us hl => match us, hl with | [_], _ => rfl) (fun vs H Q E h => h.1) fun A outer s H vs Q E hG hr h => ?_
  have nd := sc__law_tokens_right.nd
  have hu := hr.units
  refine ⟨_, (pss_cons (ps_set (i := 1) nd rfl (Or.inr rfl) pe_str)
    (Evl.pss_cut (ps_for (passes_of rfl) rfl (pi_range1 rfl T.n_range (pa_cons (pe_ca c_l_take (fun z => nomatch z) hr (by decide) passL rfl (pa_cons (pv 0) (pa_cons pe_int pa_nil))) pa_nil)) (pg_name (i := 2) nd rfl (Or.inl rfl))
      (pss_one (ps_set (i := 1) nd rfl (Or.inr rfl) (pe_op op_addS (pe_op op_addS (pv 1) (pe_ca c_l_piece (fun z => nomatch z) hr (by decide) passL rfl (pa_cons (pv 0) pa_nil))) (pe_ca c_l_pick (fun z => nomatch z) hr (by decide) passL rfl (pa_cons (pv 0) (pa_cons (pe_lst (pa_cons pe_str (pa_cons pe_str (pa_cons pe_str (pa_cons pe_str pa_nil))))) pa_nil)))))))
    (Evl.pss_cut (ps_if (pt_cmpR op_eq (pe_ca c_l_take (fun z => nomatch z) hr (by decide) passL rfl (pa_cons (pv 0) (pa_cons pe_int pa_nil))) pe_int (nomark _)) (pss_one (ps_set (i := 1) nd rfl (Or.inr rfl) (pe_op op_addS (pv 1) (pe_op op_mul_str pe_str (pe_op op_sub (pe_op op_add pe_int (pe_ca c_l_take (fun z => nomatch z) hr (by decide) passL rfl (pa_cons (pv 0) (pa_cons pe_int pa_nil)))) (pe_callB call_lenS (by rfl) T.n_len (by decide +kernel) (pa_cons (pv 1) pa_nil))))))) pss_nil)
    (pss_cons (ps_asg (pe_tup (pa_cons (pe_lst pa_nil) (pa_cons (pe_ca c_l_row (fun z => nomatch z) hr (by decide) passL rfl (pa_cons (pv 1) pa_nil)) pa_nil))) (pg_tup (by rfl) (pgs_cons (pg_name (i := 3) nd rfl (Or.inr rfl)) (pgs_cons (pg_name (i := 4) nd rfl (Or.inl rfl)) pgs_nil))))
    (Evl.pss_cut (ps_set (i := 5) nd rfl (Or.inl rfl) (LamX.pe_lamcall (T := tT P1 P2) (TT := TKeep D.K cB) (k := 3) (t := (fun E => tBM D.K "list" rAppend (tVar 3) (tCons (tCa (spToks D.K cT) E (tCons (tVar 1) tNil)) tNil))) rfl gmg Fg.kp lkg hcg bg sc_cau rfl (Or.inl rfl) (keep_gives (by decide) rfl T.g_BillError (by decide) rfl rfl (by decide) (by decide) (by decide) (by decide)) M.tb1 rfl (List.mem_cons_self ..) (tT_u1 M.ne) (hr.mono (by decide)) (LamX.lamS_by (sc := defScope s__law_tokens_right) (by decide +kernel)) rfl (fun _ _ _ _ _ => rfl) (fun A outer s H E f c' hr => (pe_bm PySem.F.plainAttrs_list PySem.F.slot_list_append PySem.F.type_list_append mt_append (pv 3) (pa_cons (pe_ca c_tokens_of (fun z => nomatch z) hr (by decide) (passes_call (takes_of rfl rfl rfl rfl) fun _ _ _ _ h => h) rfl (pa_cons (pv 1) pa_nil)) pa_nil)))))
    (pss_cons (ps_setLc (i := 6) (own := [("row", 7), ("at", 8)]) (g := gTup D.K 2 (gCons (gName 7) (gCons (gName 8) gNil))) rfl nd rfl rfl (sw_true rfl rfl rfl (by decide +kernel)) (pi_list (pv 4)) (blkOk_by (own := [("row", 7), ("at", 8)]) (N := N__law_tokens_right) (sc := defScope s__law_tokens_right) (by decide +kernel)) (fun _ _ _ _ _ => pg_tup rfl (pgs_cons (pg_name (i := 7) nd rfl (Or.inl rfl)) (pgs_cons (pg_name (i := 8) nd rfl (Or.inl rfl)) pgs_nil))) (fun _ _ _ _ _ => pts_one (pt_not (pt_val (pe_ca c_l_is_token (fun z => nomatch z) hr (by decide) passL rfl (pa_cons (pv 7) pa_nil))))) (fun _ _ _ _ _ => (pv 8)))
    (pss_cons (ps_if (PW.pt (pw_or (pt_cmpR op_gt (pe_callB call_lenS (by rfl) T.n_len (by decide +kernel) (pa_cons (pv 1) pa_nil)) pe_int (nomark _)) (pw_or1 (pt_cmpR (op_neD hu) (pv 6) (pe_lst pa_nil) (nomark _))))) (pss_one (ps_ret (pe_and (pe_callB call_isX (by rfl) T.n_isinstance (by decide +kernel) (pa_cons (pv 5) (pa_cons (pe_gr rfl T.g_BadText) pa_nil))) (pe_one (pe_ca c_l_same hG hr (by decide) passL rfl (pa_cons (pe_xt (pv 5)) (pa_cons (pe_ifExp (pt_cmpR op_gt (pe_callB call_lenS (by rfl) T.n_len (by decide +kernel) (pa_cons (pv 1) pa_nil)) pe_int (nomark _)) pe_int (pe_ix ix_list (pv 6) pe_int (fun _ _ => rfl))) pa_nil))))))) pss_nil)
    (pss_one (ps_ret (pe_and (pe_cmpR op_isN (pv 5) pe_non (nomark _)) (pe_one (pe_ca c_l_same hG hr (by decide) passL rfl (pa_cons (pe_ix ix_list (pv 3) pe_int (fun _ _ => rfl)) (pa_cons (pv 4) pa_nil)))))))))))))), ?_⟩
  obtain ⟨_, d, la, rfl, D0, T0, q⟩ := h
  refine q_asg ev_c fun H1 e1 => ?_
  refine q_cut (M := fun σ' H' => ∃ (l : List Nat) (v2 : Option V), σ' = [some (.ref d), some (.str (S l)), v2, none, none, none, none, none, none] ∧ l.length ≤ 600 ∧ l.all (· < 128) = true ∧ Dx d la H H') ?_ ?_
  · refine s_forD (d := d) (la := la) (M := 30) (by decide) (fun R k => ?_) (fun i σ' H' => ∃ (l : List Nat) (v2 : Option V), σ' = [some (.ref d), some (.str (S l)), v2, none, none, none, none, none, none] ∧ l.length ≤ 20 * i ∧ l.all (· < 128) = true ∧ Dx d la H H') (fun H2 D2 => ⟨[], none, by rw [show S [] = ("" : Str) from t_e.symm]; rfl, Nat.le_refl _, rfl, (Dx.of D0 e1).trans D2⟩) ?_ ?_
    · refine takeC rfl ev_c (by decide) (D0.ex e1) fun i H2 hi D2 => ?_
      obtain ⟨n, rfl, hn⟩ := int_nat (n := 30) hi
      exact k n H2 (by omega) D2
    · rintro i σ' H' hi ⟨l, v2, rfl, hl, ha, D1⟩
      refine ⟨_, rfl, (show EvA (tCons (tVar 0) tNil) ([some (.ref d), some (.str (S l)), some (.int (i : Int)), none, none, none, none, none, none] : L2.St) H' [.ref d] from ea_cons (ev_var rfl) ea_nil) H' (Ex.refl H') _ fun H2 e2 => ⟨rfl, d, la, rfl, D1.dr.ex e2, fun v H3 hv D3 => ?_⟩⟩
      obtain ⟨l1, rfl, hl1, ha1⟩ := okT_of hv
      refine ⟨S l, S l1, rfl, rfl, Nat.le_trans (by rw [S_len, S_len]; omega) (show 1000 ≤ sizeLine by decide), pickL (P := fun v => okT 3 v = true) rfl el4 (by simp) (by decide +kernel) D3.dr fun v H4 hv4 D4 => ?_⟩
      obtain ⟨l2, rfl, hl2, ha2⟩ := okT_of hv4
      have e12 : S l ++ S l1 = S (l ++ l1) := SX.S_cat l l1
      refine ⟨S l ++ S l1, S l2, rfl, rfl, ?_, l ++ l1 ++ l2, some (.int (i : Int)), ?_, by simp; omega, by rw [List.all_append, List.all_append, ha, ha1, ha2]; rfl, ((D1.ext e2).trans D3).trans D4⟩
      · rw [e12, S_len, S_len, List.length_append]
        exact Nat.le_trans (show l.length + l1.length + l2.length ≤ 1000 by omega) (by decide)
      · show [_, some (V.str (S l ++ S l1 ++ S l2)), _, _, _, _, _, _, _] = _
        rw [e12, show S (l ++ l1) ++ S l2 = S (l ++ l1 ++ l2) from SX.S_cat _ _]
    · rintro i σ' H' hi ⟨l, v2, rfl, hl, ha, D1⟩
      exact ⟨l, v2, rfl, by omega, ha, D1⟩
  rintro σ' H2 ⟨l0, v2, rfl, hl0, ha0, D2⟩
  refine q_cut (M := fun σ' H' => ∃ l : List Nat, σ' = [some (.ref d), some (.str (S l)), v2, none, none, none, none, none, none] ∧ l.length ≤ 40001 ∧ l.all (· < 128) = true ∧ Dx d la H H') ?_ ?_
  · refine (show tTest (tOp rEq (tCa spTake _ (tCons (tVar 0) (tCons (tC (.int 8)) tNil))) (tC (.int 0))) _ H2 _ from takeC rfl ev_c (by decide) D2.dr fun i H3 hi D3 => ⟨rfl, _, rfl, ?_⟩)
    show (if decide (V.int i = V.int 0) = true then _ else _)
    by_cases hb : decide (V.int i = V.int 0) = true
    · rw [if_pos hb]
      refine ⟨_, rfl, takeC rfl ev_c (by decide) D3.dr fun k H4 hk D4 => ⟨_, _, rfl, rfl, ?_⟩⟩
      obtain ⟨k, rfl, hk2⟩ := int_nat (n := 2) hk
      refine ⟨_, rfl, S l0, rfl, Nat.le_trans (by rw [S_len]; exact hl0) (show 600 ≤ sizeLine by decide), ?_⟩
      have hn : (40000 : Int) + (k : Int) - ((S l0).length : Int) = ((40000 + k - l0.length : Nat) : Int) := by rw [S_len]; omega
      refine ⟨_, _, rfl, rfl, S [32], ((40000 + k - l0.length : Nat) : Int), by rw [show (" " : Str) = S [32] by decide +kernel], congrArg V.int hn, mul_ok 32 _ (by omega), ?_⟩
      rw [mul_S]
      refine ⟨S l0, S (List.replicate (40000 + k - l0.length) 32), rfl, rfl, Nat.le_trans (by rw [S_len, S_len, List.length_replicate]; omega) (show 100000 ≤ sizeLine by decide), l0 ++ List.replicate (40000 + k - l0.length) 32, ?_, by rw [List.length_append, List.length_replicate]; omega, ?_, (D2.trans D3).trans D4⟩
      · show [_, some (V.str (S l0 ++ S (List.replicate (40000 + k - l0.length) 32))), _, _, _, _, _, _, _] = _
        rw [show S l0 ++ S (List.replicate (40000 + k - l0.length) 32) = S (l0 ++ List.replicate (40000 + k - l0.length) 32) from SX.S_cat _ _]
      · rw [List.all_append, ha0]
        exact List.all_eq_true.mpr fun x hx => by rw [List.eq_of_mem_replicate hx]; rfl
    · rw [if_neg hb]
      exact ⟨l0, rfl, by omega, ha0, D2.trans D3⟩
  rintro σ' H3 ⟨l, rfl, hl, ha, D3⟩
  obtain ⟨R, hR⟩ := rws_ex l.length l 0 (Nat.le_refl _)
  have T3 := Dx.tabs D0 D3 T0
  have hL : (S l).length ≤ 1000000 := by rw [S_len]; omega
  have hRall := rws_all hR ha
  have hRsz := rws_size hR
  refine q_tup2 ?_
  refine (el_nil : EvL (tLst tNil) ([some (.ref d), some (.str (S l)), v2, none, none, none, none, none, none] : L2.St) H3 []) H3 (Ex.refl H3) _ fun p1 H4 hp1 e4 h4 => ?_
  refine (show EvA (tCons (tVar 1) tNil) ([some (.ref d), some (.str (S l)), v2, none, none, none, none, none, none] : L2.St) H4 [.str (S l)] from ea_cons (ev_var rfl) ea_nil) H4 (Ex.refl H4) _ fun H5 e5 => ⟨rfl, l, R, rfl, hl, hR, fun p2 H6 ws hp2 e6 h6 tv => ⟨(by decide), fun t ht => ⟨t, _, rfl, st_of upd_same, rfl, _, _, rfl, _, _, rfl, rfl, ?_⟩⟩⟩
  have e37 : Ex H3 (upd H6 t (.tup [.ref p1, .ref p2])) := ((e4.trans e5).trans e6).trans (Ex.new ht)
  have h7 : upd H6 t (.tup [.ref p1, .ref p2]) p1 = some (.lst []) := Ex.new ht _ _ (e6 _ _ (e5 _ _ h4))
  have h72 : upd H6 t (.tup [.ref p1, .ref p2]) p2 = some (.lst ws) := Ex.new ht _ _ h6
  have tv7 : TokV (upd H6 t (.tup [.ref p1, .ref p2])) ws R := tv.mono fun a xs z => Ex.new ht _ _ z
  have hne : p2 ≠ p1 := fun z => by
    rw [z, e5 _ _ h4] at hp2
    cases hp2
  generalize upd H6 t (.tup [.ref p1, .ref p2]) = H7 at e37 h7 h72 tv7
  have D7 := D3.ext e37
  have T7 := tabs_ex T3 e37
  refine q_cut (M := fun σ' H' => ∃ err, σ' = [some (.ref d), some (.str (S l)), v2, some (.ref p1), some (.ref p2), some err, none, none, none] ∧ H' p2 = some (.lst ws) ∧ TokV H' ws R ∧ Dr H' d la ∧ LamX.Tabs (tT P1 P2) H' ∧
    ((err = .non ∧ l.length ≤ 40000 ∧ (∀ r ∈ R, ltk r.1 = true) ∧ ∃ p us, H' p1 = some (.lst [.ref p]) ∧ H' p = some (.lst us) ∧ TokV H' us R) ∨
     (∃ a d' n, err = .ref a ∧ H' a = some (ExT (.ref cT) (some d') a) ∧ H' d' = some (.xd [("at", .int ((n : Nat) : Int))]) ∧ n ≤ 50000 ∧ ((40000 < l.length ∧ n = 0) ∨ (l.length ≤ 40000 ∧ ∃ pre row post, R = pre ++ (row, n) :: post ∧ (∀ p ∈ pre, ltk p.1 = true) ∧ ltk row = false))))) ?_ ?_
  · refine ⟨T7, fun H8 eN T8 => ?_⟩
    have h8 : H8 p1 = some (.lst []) := eN _ _ h7 fun _ z => by cases z
    have h82 : H8 p2 = some (.lst ws) := eN _ _ h72 fun _ z => by cases z
    have tv8 := tv7.monoN eN
    have D8 : Dr H8 d la := D7.dr.extN eN
    have mkB : ∀ (n : Nat) H9 d' a, Ex H8 H9 → H9 d' = none → upd H9 d' (.xd [("at", .int ((n : Nat) : Int))]) a = none → n ≤ 50000 → ((40000 < l.length ∧ n = 0) ∨ (l.length ≤ 40000 ∧ ∃ pre row post, R = pre ++ (row, n) :: post ∧ (∀ p ∈ pre, ltk p.1 = true) ∧ ltk row = false)) →
        ∃ err, [some (.ref d), some (.str (S l)), v2, some (.ref p1), some (.ref p2), some (V.ref a), none, none, none] = [some (.ref d), some (.str (S l)), v2, some (.ref p1), some (.ref p2), some err, none, none, none] ∧ upd (upd H9 d' (.xd [("at", .int ((n : Nat) : Int))])) a (ExT (.ref cT) (some d') a) p2 = some (.lst ws) ∧ TokV (upd (upd H9 d' (.xd [("at", .int ((n : Nat) : Int))])) a (ExT (.ref cT) (some d') a)) ws R ∧ Dr (upd (upd H9 d' (.xd [("at", .int ((n : Nat) : Int))])) a (ExT (.ref cT) (some d') a)) d la ∧ LamX.Tabs (tT P1 P2) (upd (upd H9 d' (.xd [("at", .int ((n : Nat) : Int))])) a (ExT (.ref cT) (some d') a)) ∧
          ((err = .non ∧ l.length ≤ 40000 ∧ (∀ r ∈ R, ltk r.1 = true) ∧ ∃ p us, upd (upd H9 d' (.xd [("at", .int ((n : Nat) : Int))])) a (ExT (.ref cT) (some d') a) p1 = some (.lst [.ref p]) ∧ upd (upd H9 d' (.xd [("at", .int ((n : Nat) : Int))])) a (ExT (.ref cT) (some d') a) p = some (.lst us) ∧ TokV (upd (upd H9 d' (.xd [("at", .int ((n : Nat) : Int))])) a (ExT (.ref cT) (some d') a)) us R) ∨
           (∃ a2 d2 n2, err = .ref a2 ∧ upd (upd H9 d' (.xd [("at", .int ((n : Nat) : Int))])) a (ExT (.ref cT) (some d') a) a2 = some (ExT (.ref cT) (some d2) a2) ∧ upd (upd H9 d' (.xd [("at", .int ((n : Nat) : Int))])) a (ExT (.ref cT) (some d') a) d2 = some (.xd [("at", .int ((n2 : Nat) : Int))]) ∧ n2 ≤ 50000 ∧ ((40000 < l.length ∧ n2 = 0) ∨ (l.length ≤ 40000 ∧ ∃ pre row post, R = pre ++ (row, n2) :: post ∧ (∀ p ∈ pre, ltk p.1 = true) ∧ ltk row = false)))) := by
      intro n H9 d' a e9 hd' ha' hn hcase
      have eG : Ex H8 (upd (upd H9 d' (.xd [("at", .int ((n : Nat) : Int))])) a (ExT (.ref cT) (some d') a)) := (e9.trans (Ex.new hd')).trans (Ex.new ha')
      have hda : d' ≠ a := fun z => by
        rw [← z, upd_same] at ha'
        cases ha'
      exact ⟨.ref a, rfl, eG _ _ h82, tv8.mono fun b xs z => eG _ _ z, D8.ex eG, tabs_ex T8 eG, .inr ⟨a, d', n, rfl, upd_same, by rw [upd_ne hda]; exact upd_same, hn, hcase⟩⟩
    refine ⟨_, rfl, .inl ⟨rfl, [], sq_of h8⟩, ⟨_, rfl, rfl, _, rfl, .inl ⟨l, R, rfl, by omega, hR, fun h40 H9 d' e9 hd' => ⟨true, T.xT, fun _ a ha' => mkB 0 H9 d' a e9 hd' ha' (by decide) (.inl ⟨h40, rfl⟩), fun z => by cases z⟩, fun h40 => ⟨fun hall p H9 us hp e9 h9 tvu => ?_, fun pre row at_ post hRe hpre hrow H9 d' e9 hd' => ⟨true, T.xT, fun _ a ha' => mkB at_ H9 d' a e9 hd' ha' ?_ (.inr ⟨h40, pre, row, post, hRe, hpre, hrow⟩), fun z => by cases z⟩⟩⟩⟩⟩
    · have hp1' : H9 p1 = some (.lst []) := e9 _ _ h8
      refine ⟨p1, [], .ref p, rfl, rfl, hp1', by decide, .non, rfl, ?_, ?_, ?_, ?_, .inl ⟨rfl, h40, hall, p, us, upd_same, ?_, ?_⟩⟩
      · rw [upd_ne hne]
        exact e9 _ _ h82
      · exact TokV.mono (tup_upd hp1') (tv8.mono fun b xs z => e9 _ _ z)
      · refine Dr.extN D3.dr fun b o hb hn => ?_
        rw [upd_ne (ne_of_none hb hp1)]
        exact e9 _ _ (eN _ _ (e37 _ _ hb) hn)
      · exact tabs_upd (tabs_ex T8 e9) hp1'
      · have : p ≠ p1 := fun z => by
          rw [z, h8] at hp
          cases hp
        rw [upd_ne this]
        exact h9
      · exact TokV.mono (tup_upd hp1') tvu
    · have := (hRsz.2.2 (row, at_) (by rw [hRe]; simp)).1
      show at_ ≤ 50000
      have h : at_ ≤ 0 + l.length := this
      omega
  rintro σ' H8 ⟨err, rfl, h82, tv8, D8, T8, hAB⟩
  refine q_asgL (el_rows (fun r => !ltk r.1) (ev_var rfl) h82 tv8 (by omega) (fun _ _ => rfl) (fun r H9 _ hr => et_not (et_B (ev_ca (ea_cons (ev_var rfl) ea_nil) (spF_v rfl fun H10 _ => ⟨r.1, rfl, by have := (hRsz.2.2 r hr).2; omega, rfl⟩)))) (fun r H9 _ hr => ev_var rfl)) fun pw H9 hpw e9 h9 => ?_
  rw [ints_of] at h9
  have hwr : ∀ {σ : L2.St} {H' : Hp}, Ex H9 H' → σ[6]? = some (some (.ref pw)) → EvT (tTest (tOp (rNeD D.K) (tVar 6) (tLst tNil))) σ H' (!decide ((R.filter fun r => !ltk r.1).map (fun r => (r.2 : Int)) = [])) := fun {σ H'} e' hs => et_test (ev_sub (ev_opL (ev_var hs) el_nil fun p H'' hp e'' H3' e3' Q q' => ⟨_, _, .lst (sq_of (e3' _ _ (e'' _ _ (e' _ _ h9)))) (dpL_is _ _ _), .lst (sq_of (e3' _ _ hp)) .nil, shaped_is _, rfl, q' H3' (Ex.refl H3')⟩) (by rw [eqv_nil]))
  have hln : ∀ {σ : L2.St} {H' : Hp}, σ[1]? = some (some (.str (S l))) → EvT (tTest (tOp (rI0 fun i j => .bl (decide (j < i))) (tCB rLenStr (tCons (tVar 1) tNil)) (tC (.int 40000)))) σ H' (decide (40000 < l.length)) := fun {σ H'} hs => et_test (ev_sub (ev_op (ev_lenS (ev_var hs) hL) ev_c rv_I0) (by rw [S_len]; exact congrArg V.bl (dlt 40000 l.length)))
  rcases hAB with ⟨rfl, h40, hall, p, us, hp, hus, tvu⟩ | ⟨a, d', n, rfl, hax, hdx, hn, hcase⟩
  · have hnil : (R.filter fun r => !ltk r.1) = [] := List.filter_eq_nil_iff.mpr fun r hr => by rw [hall r hr]; decide
    refine q_when (b := decide (40000 < l.length) || !decide ((R.filter fun r => !ltk r.1).map (fun r => (r.2 : Int)) = [])) (et_or (hln rfl) fun _ => hwr (Ex.refl _) rfl) (fun hb => ?_) fun _ H10 e10 => ?_
    · rw [hnil, decide_eq_false (show ¬ 40000 < l.length by omega)] at hb
      cases hb
    · have e := e9.trans e10
      refine s_ret (ev_andV (a := true) (b := true) (ev_op (ev_var rfl) ev_c fun H11 _ Q q' => ⟨rfl, q' H11 (Ex.refl H11)⟩) fun _ => ev_ca (vs := [.ref p, .ref p2]) (ea_cons (ev_op (ev_var rfl) ev_c (rv_ixL (sq_of (e _ _ hp)) (atI_nat (i := 0) rfl))) (ea_cons (ev_var rfl) ea_nil)) fun H11 e11 Q q' _ => ⟨rfl, _, _, rowsD R, rfl, shows_rows ((e.trans e11) _ _ hus) (tvu.mono fun b xs z => (e.trans e11) _ _ z) hR hl hRall, shows_rows ((e.trans e11) _ _ h82) (tv8.mono fun b xs z => (e.trans e11) _ _ z) hR hl hRall, fun H12 e12 => q' H12 e12⟩) fun H11 e11 => q H11 (D8.ex (e.trans e11)) (tabs_ex T8 (e.trans e11))
  · have hfirst : l.length ≤ 40000 → ∃ rest, (R.filter fun r => !ltk r.1).map (fun r => (r.2 : Int)) = (n : Int) :: rest := fun h => by
      rcases hcase with ⟨z, _⟩ | ⟨_, pre, row, post, hRe, hpre, hrow⟩
      · omega
      · have h0 : (pre.filter fun r => !ltk r.1) = [] := List.filter_eq_nil_iff.mpr fun r hr => by rw [hpre r hr]; decide
        rw [hRe, List.filter_append, h0, List.filter_cons, if_pos (by rw [hrow]; rfl)]
        exact ⟨_, rfl⟩
    refine q_when (b := true) (et_is (et_or (hln rfl) fun _ => hwr (Ex.refl _) rfl) ?_) (fun _ H10 e10 => ?_) fun hb => absurd hb (by decide)
    · by_cases h : 40000 < l.length
      · rw [decide_eq_true h]
        rfl
      · obtain ⟨rest, hr⟩ := hfirst (by omega)
        rw [hr, decide_eq_false h]
        rfl
    · have e := e9.trans e10
      refine s_ret (ev_andV (a := true) (b := true) (ev_isX (ev_var rfl) (e _ _ hax) (fun H11 e11 => .inr ⟨d', _, rfl, (e.trans e11) _ _ hdx⟩) T.eT' T.kTT) fun _ => ev_ca (vs := [.int (n : Int), .int (n : Int)]) (ea_cons (ev_xt (ev_var rfl) (e _ _ hax) (e _ _ hdx) T.fT T.nT rfl) (ea_cons (ev_if (b := decide (40000 < l.length)) (hln rfl) (fun hb => ?_) fun hb => ?_) ea_nil)) fun H11 e11 Q q' _ => ⟨rfl, _, _, .int (n : Int), rfl, shows_nat _ _ n hn, shows_nat _ _ n hn, fun H12 e12 => q' H12 e12⟩) fun H11 e11 => q H11 (D8.ex (e.trans e11)) (tabs_ex T8 (e.trans e11))
      · rcases hcase with ⟨_, rfl⟩ | ⟨z, _⟩
        · exact ev_c
        · have := of_decide_eq_true hb
          omega
      · obtain ⟨rest, hr⟩ := hfirst (by have := of_decide_eq_false hb; omega)
        rw [hr] at h9
        exact ev_op (ev_var rfl) ev_c (rv_ixL (sq_of (e10 _ _ h9)) (atI_nat (i := 0) rfl))
end Q
set_option maxHeartbeats 8000000
namespace Q
open PySem PySem.Spec PyProof.Rows L2 Evl
variable {D : Wd} {aT cB cT cN fI c1 P1 c2 P2 : Addr} {fdI : FuncData}
def rMinI : List V → Hp → VK → Prop := fun xs H Q => ∃ i j : Int, xs = [.int i, .int j] ∧ Q (.int (if j < i then j else i)) H
theorem call_minI {X : Cx} (hc : X.calm = true) : CallR X (.builtin "min") rMinI := call_min2 hc
theorem ev_min {σ : L2.St} {H : Hp} {ta tb : TE} {i j : Int} (h1 : Ev ta σ H (.int i)) (h2 : Ev tb σ H (.int j)) : Ev (tCB rMinI (tCons ta (tCons tb tNil))) σ H (.int (if j < i then j else i)) := ev_cb (ea_cons h1 (ea_cons h2 ea_nil)) fun H1 _ Q q => ⟨i, j, rfl, q H1 (Ex.refl H1)⟩
theorem extN_of {H H' : Hp} (e : Ex H H') : LamX.ExtN H H' := fun b o h _ => e b o h
theorem tyx_monoN {K : PySem.W.Frag} {H H' : Hp} {x : V} {ty : Value} (e : LamX.ExtN H H') (h : TyX K H x ty) : TyX K H' x ty := by
  cases h with
  | base b =>
    cases b with
    | non => exact .base .non
    | bl y => exact .base (.bl y)
    | int i => exact .base (.int i)
    | str y => exact .base (.str y)
    | flt y => exact .base (.flt y)
    | lst ea => exact .base (.lst (e _ _ ea fun _ z => by cases z))
    | frz ea => exact .base (.frz (e _ _ ea fun _ z => by cases z))
    | tup ea => exact .base (.tup (e _ _ ea fun _ z => by cases z))
    | dK ea => exact .base (.dK (e _ _ ea fun _ z => by cases z))
    | dT ea => exact .base (.dT (e _ _ ea fun _ z => by cases z))
    | ins ea cl ha hn htk hm => exact .base (.ins (e _ _ ea fun _ z => by cases z) cl ha hn htk hm)
  | byt b => exact .byt b
  | set ea => exact .set (e _ _ ea fun _ z => by cases z)
  | kList ea c => exact .kList ea c
  | kTuple ea c => exact .kTuple ea c
  | kDict ea c => exact .kDict ea c
  | fTuple ea => exact .fTuple (e _ _ ea fun _ z => by cases z)
  | fDict ea => exact .fDict (e _ _ ea fun _ z => by cases z)
theorem q_forPN {K : PySem.W.Frag} {P : Hp → V → Prop} {σ : L2.St} {H : Hp} {tl : TE} {j : Nat} {Dn : Ends} {tz tu : TS} (h : EvLP P tl σ H) (hm : ∀ H H' y, LamX.ExtN H H' → P H y → P H' y) (Pv : L2.St → Hp → Prop) (h0 : ∀ H1, Ex H H1 → Pv σ H1)
    (hs : ∀ y σ' H', P H' y → Pv σ' H' → ∀ N : L2.St → Hp → Prop, (∀ σ2 H2, Pv σ2 H2 → LamX.ExtN H' H2 → N σ2 H2) → tu { Dn with nx := N, ct := N, bk := tz Dn } (σ'.set j (some y)) H') (hd : ∀ σ' H', Pv σ' H' → tz Dn σ' H') : tSeq (tFor (iList K tl) (gName j) tu) tz Dn σ H :=
  h H (Ex.refl H) _ fun p xs H1 hp e1 h1 _ hP => ⟨p, rfl, ⟨xs, sq_of h1⟩, for_list (D := { Dn with nx := tz Dn }) (fun i σ' H' => Pv σ' H' ∧ LamX.ExtN H1 H') ⟨h0 H1 e1, LamX.ExtN.refl H1⟩ (fun i σ' H' _ q => sq_of (q.2 _ _ h1 fun _ z => by cases z)) (fun i x σ' H' hx q => hs x σ' H' (hm H1 H' x q.2 (hP x (List.mem_of_getElem? hx))) q.1 _ fun σ2 H2 p2 e2 => ⟨p2, q.2.trans e2⟩) fun σ' H' q => hd σ' H' q.1⟩
def NS (K : PySem.W.Frag) (H : Hp) (y : V) : Prop := ∃ t, TyX K H y t ∧ PySem.W.kitOne K t (.type "str") = some false
theorem ns_mono (K : PySem.W.Frag) (H H' : Hp) (y : V) (e : LamX.ExtN H H') (h : NS K H y) : NS K H' y := by
  obtain ⟨t, a, b⟩ := h
  exact ⟨t, tyx_monoN e a, b⟩
def FB (K : PySem.W.Frag) (H : Hp) (y : V) : Prop := (∃ ty, TyX K H y ty ∧ PySem.W.kitOne K ty (.type "tuple") = some false) ∨ (∃ t ys, y = .ref t ∧ H t = some (.tup ys) ∧ ys.length ≤ 100000 ∧ (∀ y ∈ ys, okV y) ∧ (ys.map pV).all id = false)
theorem fb_mono (K : PySem.W.Frag) (H H' : Hp) (y : V) (e : LamX.ExtN H H') (h : FB K H y) : FB K H' y := by
  rcases h with ⟨t, a, b⟩ | ⟨t, ys, a, b, c⟩
  · exact .inl ⟨t, tyx_monoN e a, b⟩
  · exact .inr ⟨t, ys, a, e _ _ b (fun _ z => by cases z), c⟩
theorem fb_tup {K : PySem.W.Frag} {ys : List V} (hl : ys.length ≤ 100000) (h1 : ∀ y ∈ ys, okV y) (h2 : (ys.map pV).all id = false) : ∀ p H', H' p = some (.tup ys) → FB K H' (.ref p) := fun p H' h => .inr ⟨p, ys, rfl, h, hl, h1, h2⟩
def kwD : PyData := .tuple (tongue.map fun l => .str (S l))
theorem dpL_str (K : PySem.W.Frag) (H : Hp) : ∀ ts : List (List Nat), DpAll K H (sV ts) (ts.map fun l => .str (S l))
  | [] => .nil
  | t :: ts => .cons (.str _) (dpL_str K H ts)
theorem shows_kw {K : PySem.W.Frag} {H : Hp} {p : Addr} (h : SqT K H p (sV tongue)) : Shows K H (.ref p) kwD := ⟨.tup h (dpL_str K H tongue), by decide +kernel, by decide +kernel, by decide +kernel⟩
def spLaw (K : PySem.W.Frag) (T : List (Addr × Str)) : Sp := fun vs H Q _ => vs.length = 1 ∧ ∃ (a : Addr) (ns : List Int), vs = [.ref a] ∧ SqL K H a (ns.map V.int) ∧ ns.length ≤ 1000 ∧ LamX.Tabs T H ∧ ∀ H2, Q (.bl true) H2
section
variable {σ : L2.St} {H : Hp} {te : TE} {c : TT} {t u : TS} {Dn : Ends} {P : Hp → Prop}
theorem if_or_not (h : ∀ Q' : VK, (∀ H2, P H2 → Q' (.bl true) H2) → te σ H Q') (k : ∀ H2, P H2 → tIfS c t u Dn σ H2) : tIfS (tOr (tNot (tB te)) c) t u Dn σ H := h _ fun H2 p => ⟨true, rfl, k H2 p⟩
theorem if_not (h : ∀ Q' : VK, (∀ H2, P H2 → Q' (.bl true) H2) → te σ H Q') (k : ∀ H2, P H2 → u Dn σ H2) : tIfS (tNot (tB te)) t u Dn σ H := h _ fun H2 p => ⟨true, rfl, k H2 p⟩
theorem keep_ca {K : PySem.W.Frag} {CB : Addr} {sp : Sp} {ta : TA} {Q : VK} {vs : List V} (h : EvA ta σ H vs) (k : ∀ H1, Ex H H1 → sp vs H1 (fun _ H' => Q .non H') (fun cls d H' => ∃ b, PySem.W.exmOne K cls (.ref CB) = some b ∧ (b = true → ∀ a, H' a = none → Q (.ref a) (upd H' a (ExT cls d a))) ∧ (b = false → False))) :
    TKeep K CB (fun E H' Q' => tCa sp E ta σ H' Q') H Q := h H (Ex.refl H) _ k
end
theorem okV_str {z : Str} (h : z.length ≤ 1000000) : okV (.str z) := .inl ⟨z, rfl, h⟩
abbrev s_law : Stmt := top 41
abbrev N_law : List Str := ["script", "draw", "lap", "bad", "error"]
theorem sc_law : FnScope N_law ["script"] (defScope s_law) := ⟨rfl, rfl, rfl, by decide +kernel, rfl, by decide +kernel, by decide +kernel⟩
theorem c_law (T : Tx D aT cB cT cN fI fdI) (M : Tm D c1 P1 c2 P2) : Ca D true 7 "law" 1 (spLaw D.K (tT P1 P2)) := by
  have c_l_begun := c_l_begun T
  have c_l_tokens_right := c_l_tokens_right T M
  have c_l_words_right := c_l_words_right T
  have c_l_fresh_right := c_l_fresh_right T
  have c_kept_words := c_kept_words T
  have c_tokens_of := c_tokens_of T
  have c_fresh_name := c_fresh_name T
  have c_l_same := c_l_same T
  obtain ⟨g, fdg, Fg, gmg⟩ := T.f27
  have bg := Fg.bindsN (ps := ["work"]) fun _ _ _ _ _ _ us hl => match us, hl with | [_], _ => rfl
  obtain ⟨ocg, odg, dVg, kVg, docg, pmg, ang, cdvg, ctg, oslg, efg, lkg, hcg, hDg, hKg⟩ := Fg.ex
  subst efg
  obtain ⟨f, fd, F, gm, hcode⟩ := M.k2
  refine ca_mkC (st := s_law) (N := N_law) (ps := ["script"]) true F hcode gm sc_law (F.bindsN fun _ _ _ _ _ _ us hl => match us, hl with | [_], _ => rfl) (fun vs H Q E h => h.1) fun A outer s H vs Q E hG hr h => ?_
  have nd := sc_law.nd
  have hu := hr.units
  refine ⟨_, (pss_cons (ps_set (i := 1) nd rfl (Or.inl rfl) (pe_ca c_l_begun (fun z => nomatch z) hr (by decide) passL rfl (pa_cons (pv 0) pa_nil)))
    (pss_cons (ps_for (passes_of rfl) rfl (pi_range1 rfl T.n_range (pa_cons (pe_op op_add pe_int (pe_callB (call_minI rfl) (by rfl) T.n_min (by decide +kernel) (pa_cons (pe_callB call_lenL (by rfl) T.n_len (by decide +kernel) (pa_cons (pv 0) pa_nil)) (pa_cons pe_int pa_nil)))) pa_nil)) (pg_name (i := 2) nd rfl (Or.inl rfl))
      (pss_one (ps_if (PW.pt (pw_or (pt_not (pt_val (pe_ca c_l_tokens_right hG hr (by decide) passL rfl (pa_cons (pv 1) pa_nil)))) (pw_or (pt_not (pt_val (pe_ca c_l_words_right hG hr (by decide) passL rfl (pa_cons (pv 1) pa_nil)))) (pw_or1 (pt_not (pt_val (pe_ca c_l_fresh_right hG hr (by decide) passL rfl (pa_cons (pv 1) pa_nil)))))))) (pss_one (ps_ret pe_bl)) pss_nil)))
    (pss_cons (ps_if (pt_not (pt_val (pe_ca c_l_same hG hr (by decide) passL rfl (pa_cons (pe_callTy call_tupI (by rfl) T.n_tuple (by decide +kernel) (pa_cons (pe_ca0 c_kept_words (fun z => nomatch z) hr (by decide) passL rfl) pa_nil)) (pa_cons (pe_tup (pa_cons pe_str (pa_cons pe_str (pa_cons pe_str (pa_cons pe_str pa_nil))))) pa_nil))))) (pss_one (ps_ret pe_bl)) pss_nil)
    (pss_cons (ps_for (passes_of rfl) rfl (pi_list (pe_lst (pa_cons pe_non (pa_cons pe_int (pa_cons (pe_lst (pa_cons pe_str pa_nil)) (pa_cons (pe_tup (pa_cons pe_str pa_nil)) (pa_cons pe_dnewK pa_nil))))))) (pg_name (i := 3) nd rfl (Or.inr rfl))
      (pss_cons (ps_set (i := 4) nd rfl (Or.inl rfl) (LamX.pe_lamcall (T := tT P1 P2) (TT := TKeep D.K cB) (k := 3) (t := (fun E => tCa (spToks D.K cT) E (tCons (tVar 3) tNil))) rfl gmg Fg.kp lkg hcg bg sc_cau rfl (Or.inl rfl) (keep_gives (by decide) rfl T.g_BillError (by decide) rfl rfl (by decide) (by decide) (by decide) (by decide)) M.tb2 rfl (List.mem_cons_of_mem _ (List.mem_cons_self ..)) (tT_u2 M.ne) (hr.mono (by decide)) (LamX.lamS_by (sc := defScope s_law) (by decide +kernel)) rfl (fun _ _ _ _ _ => rfl) (fun A outer s H E f c' hr => (pe_ca c_tokens_of (fun z => nomatch z) hr (by decide) (passes_call (takes_of rfl rfl rfl rfl) fun _ _ _ _ h => h) rfl (pa_cons (pv 3) pa_nil)))))
      (pss_one (ps_if (PW.pt (pw_or (pt_not (pt_val (pe_callB call_isX (by rfl) T.n_isinstance (by decide +kernel) (pa_cons (pv 4) (pa_cons (pe_gr rfl T.g_BadText) pa_nil))))) (pw_or1 (pt_not (pt_val (pe_ca c_l_same hG hr (by decide) passL rfl (pa_cons (pe_xt (pv 4)) (pa_cons pe_int pa_nil)))))))) (pss_one (ps_ret pe_bl)) pss_nil))))
    (pss_cons (ps_for (passes_of rfl) rfl (pi_list (pe_lst (pa_cons pe_non (pa_cons (pe_lst (pa_cons pe_str pa_nil)) (pa_cons pe_str (pa_cons (pe_tup (pa_cons pe_str (pa_cons pe_str pa_nil))) (pa_cons (pe_tup (pa_cons pe_str pa_nil)) (pa_cons (pe_tup (pa_cons pe_str pa_nil)) (pa_cons (pe_tup (pa_cons pe_non pa_nil)) (pa_cons (pe_tup (pa_cons pe_str pa_nil)) (pa_cons (pe_tup (pa_cons pe_str pa_nil)) pa_nil))))))))))) (pg_name (i := 3) nd rfl (Or.inr rfl))
      (pss_one (ps_if (pt_not (pt_val (pe_callB call_isX (by rfl) T.n_isinstance (by decide +kernel) (pa_cons (LamX.pe_lamcall (T := tT P1 P2) (TT := TKeep D.K cB) (k := 3) (t := (fun E => tCa (spFName D.K cN) E (tCons (tVar 3) tNil))) rfl gmg Fg.kp lkg hcg bg sc_cau rfl (Or.inl rfl) (keep_gives (by decide) rfl T.g_BillError (by decide) rfl rfl (by decide) (by decide) (by decide) (by decide)) M.tb2 rfl (List.mem_cons_of_mem _ (List.mem_cons_self ..)) (tT_u2 M.ne) (hr.mono (by decide)) (LamX.lamS_by (sc := defScope s_law) (by decide +kernel)) rfl (fun _ _ _ _ _ => rfl) (fun A outer s H E f c' hr => (pe_ca c_fresh_name (fun z => nomatch z) hr (by decide) (passes_call (takes_of rfl rfl rfl rfl) fun _ _ _ _ h => h) rfl (pa_cons (pv 3) pa_nil)))) (pa_cons (pe_gr rfl T.g_BadNames) pa_nil))))) (pss_one (ps_ret pe_bl)) pss_nil)))
    (pss_one (ps_ret pe_bl))))))), ?_⟩
  obtain ⟨_, a, ns, rfl, hs, hl, T0, q⟩ := h
  refine q_asgX (ea_cons (ev_var rfl) ea_nil) fun H1 e1 => ⟨rfl, a, ns, rfl, ex_l e1 hs, hl, fun d la H2 e2 D2 => ?_⟩
  have e12 := e1.trans e2
  have T2 := tabs_ex T0 e12
  have hlen : (ns.map V.int).length ≤ 1000 := by rw [List.length_map]; exact hl
  refine q_forR1 (n := 3 + (if (5 : Int) < ((ns.map V.int).length : Int) then 5 else ((ns.map V.int).length : Int))) (ea_cons (ev_op ev_c (ev_min (ev_len (ev_var rfl) (ex_l e12 hs)) ev_c) rv_I0) ea_nil) (by split <;> omega) (fun _ σ' H' => ∃ v2, σ' = [some (.ref a), some (.ref d), v2, none, none] ∧ Dr H' d la ∧ LamX.Tabs (tT P1 P2) H') (fun H3 e3 => ⟨none, rfl, D2.ex e3, tabs_ex T2 e3⟩) ?_ ?_
  · rintro i σ' H3 _ ⟨v2, rfl, D3, T3⟩
    have arg : ∀ H', EvA (tCons (tVar 1) tNil) ([some (.ref a), some (.ref d), some (.int (i : Int)), none, none] : L2.St) H' [.ref d] := fun H' => ea_cons (ev_var rfl) ea_nil
    refine if_or_not (P := fun H5 => Dr H5 d la ∧ LamX.Tabs (tT P1 P2) H5) (fun Q' k => arg H3 H3 (Ex.refl H3) _ fun H4 e4 => ⟨rfl, d, la, rfl, D3.ex e4, tabs_ex T3 e4, fun H5 D5 T5 => k H5 ⟨D5, T5⟩⟩) fun H5 ⟨D5, T5⟩ => ?_
    refine if_or_not (P := fun H7 => Dx d la H5 H7) (fun Q' k => arg H5 H5 (Ex.refl H5) _ fun H6 e6 => ⟨rfl, d, la, rfl, D5.ex e6, fun H7 D7 => k H7 ((Dx.of D5 e6).trans D7)⟩) fun H7 D7 => ?_
    refine if_not (P := fun H9 => Dx d la H7 H9) (fun Q' k => arg H7 H7 (Ex.refl H7) _ fun H8 e8 => ⟨rfl, d, la, rfl, D7.dr.ex e8, fun H9 D9 => k H9 ((Dx.of D7.dr e8).trans D9)⟩) fun H9 D9 => ?_
    exact ⟨_, rfl, D9.dr, Dx.tabs D7.dr D9 (Dx.tabs D5 D7 T5)⟩
  rintro σ' H3 ⟨v2, rfl, D3, T3⟩
  refine q_when (b := !true) (et_not (et_B fun H4 e4 Q' q' => ?_)) (fun hb => absurd hb (by decide)) fun _ H4 e4 => ?_
  · refine (show Ev (tCa (spF 0 (rKept aT)) E0 tNil) ([some (.ref a), some (.ref d), v2, none, none] : L2.St) H4 (.ref aT) from ev_ca ea_nil (spF_v rfl fun H5 _ => ⟨rfl, rfl⟩)) H4 (Ex.refl H4) _ fun H5 e5 => ⟨aT, sV tongue, rfl, .inr ⟨T.s_TONGUE H5, ?_⟩⟩
    refine (show EvU (tTup (tCons (tC (.str "case")) (tCons (tC (.str "fun")) (tCons (tC (.str "in")) (tCons (tC (.str "let")) tNil))))) ([some (.ref a), some (.ref d), v2, none, none] : L2.St) H5 [V.str "case", V.str "fun", V.str "in", V.str "let"] from eu_tup (ea_cons ev_c (ea_cons ev_c (ea_cons ev_c (ea_cons ev_c ea_nil)))) (by simp)) H5 (Ex.refl H5) _ fun p H6 hp e6 h6 => ⟨rfl, _, _, kwD, rfl, shows_kw (T.s_TONGUE H6), shows_kw (by rw [t_tong] at h6; exact st_of h6), fun H7 e7 => q' H7 ((e5.trans e6).trans e7)⟩
  refine q_forPN (P := NS D.K) (elp (fun H H' y e h => ns_mono _ H H' y (extN_of e) h) ?_ (n := 5) (by decide)) (ns_mono _) (fun σ' H' => ∃ v3 v4, σ' = [some (.ref a), some (.ref d), v2, v3, v4] ∧ LamX.Tabs (tT P1 P2) H') (fun H5 e5 => ⟨_, _, rfl, tabs_ex T3 (e4.trans e5)⟩) ?_ ?_
  · have ac := fun {te : TE} {ta : TA} {n : Nat} h hr => @ap_cons (NS D.K) ([some (.ref a), some (.ref d), v2, none, none] : L2.St) H4 te ta n (fun H H' y e h => ns_mono _ H H' y (extN_of e) h) h hr
    exact ac (ep_c fun _ => ⟨_, .base .non, rfl⟩) (ac (ep_c fun _ => ⟨_, .base (.int _), rfl⟩) (ac (ep_lst (ea_cons ev_c ea_nil) (by simp) fun p H2 h => ⟨_, .base (.lst h), rfl⟩) (ac (ep_tup (ea_cons ev_c ea_nil) (by simp) fun p H2 h => ⟨_, .base (.tup h), rfl⟩)
      (ac (fun H1 e1 Q k p hp => k _ _ (Ex.new hp) ⟨_, .base (.dK upd_same), rfl⟩) ap_nil))))
  · rintro y σ' H5 hy ⟨v3, v4, rfl, T5⟩ N hN
    refine ⟨T5, fun H6 eN T6 => ?_⟩
    refine keep_ca (vs := [y]) (ea_cons (ev_var rfl) ea_nil) fun H7 e7 => ⟨rfl, y, rfl, .inr ⟨ns_mono _ _ _ _ (extN_of e7) (ns_mono _ _ _ _ eN hy), fun H8 d' e8 hd' => ⟨true, T.xT, fun _ b hb => ?_, fun z => by cases z⟩⟩⟩
    have eG : Ex H6 (upd (upd H8 d' (.xd [("at", .int 0)])) b (ExT (.ref cT) (some d') b)) := ((e7.trans e8).trans (Ex.new hd')).trans (Ex.new hb)
    have hdb : d' ≠ b := fun z => by
      rw [← z, upd_same] at hb
      cases hb
    have hb1 : upd (upd H8 d' (.xd [("at", .int 0)])) b (ExT (.ref cT) (some d') b) b = some (ExT (.ref cT) (some d') b) := upd_same
    have hb2 : upd (upd H8 d' (.xd [("at", .int 0)])) b (ExT (.ref cT) (some d') b) d' = some (.xd [("at", .int 0)]) := by rw [upd_ne hdb]; exact upd_same
    generalize upd (upd H8 d' (.xd [("at", .int 0)])) b (ExT (.ref cT) (some d') b) = G at eG hb1 hb2
    refine s_when (b := !true || !true) (et_or (et_not (et_B (ev_isX (ev_var rfl) hb1 (fun H11 e11 => .inr ⟨d', _, rfl, e11 _ _ hb2⟩) T.eT' T.kTT))) fun _ => et_not (et_B (ev_ca (vs := [.int 0, .int 0]) (ea_cons (ev_xt (ev_var rfl) hb1 hb2 T.fT T.nT rfl) (ea_cons ev_c ea_nil)) fun H11 e11 Q q' _ => ⟨rfl, _, _, .int ((0 : Nat) : Int), rfl, shows_nat _ _ 0 (by decide), shows_nat _ _ 0 (by decide), fun H12 e12 => q' H12 e12⟩))) (fun hb => absurd hb (by decide)) fun _ H9 e9 => hN _ H9 ⟨some y, some (.ref b), rfl, tabs_ex T6 (eG.trans e9)⟩ (eN.trans (extN_of (eG.trans e9)))
  rintro σ' H5 ⟨v3, v4, rfl, T5⟩
  refine q_forPN (P := FB D.K) (elp (fun H H' y e h => fb_mono _ H H' y (extN_of e) h) ?_ (n := 9) (by decide)) (fb_mono _) (fun σ' H' => ∃ v3, σ' = [some (.ref a), some (.ref d), v2, v3, v4] ∧ LamX.Tabs (tT P1 P2) H') (fun H6 e6 => ⟨_, rfl, tabs_ex T5 e6⟩) ?_ ?_
  · have ac := fun {te : TE} {ta : TA} {n : Nat} h hr => @ap_cons (FB D.K) ([some (.ref a), some (.ref d), v2, v3, v4] : L2.St) H5 te ta n (fun H H' y e h => fb_mono _ H H' y (extN_of e) h) h hr
    have one : ∀ {z : Str}, z.length ≤ 1000000 → nm z.cps.toList = false → EvP (FB D.K) (tTup (tCons (tC (.str z)) tNil)) ([some (.ref a), some (.ref d), v2, v3, v4] : L2.St) H5 := fun {z} h1 h2 => ep_tup (ea_cons ev_c ea_nil) (by simp) (fb_tup (by simp) (fun y hy => by rw [List.mem_singleton.mp hy]; exact okV_str h1) (by show (nm z.cps.toList && true) = false; rw [h2]; rfl))
    exact ac (ep_c fun _ => .inl ⟨_, .base .non, rfl⟩) (ac (ep_lst (ea_cons ev_c ea_nil) (by simp) fun p H2 h => .inl ⟨_, .base (.lst h), rfl⟩) (ac (ep_c fun _ => .inl ⟨_, .base (.str _), rfl⟩)
      (ac (ep_tup (vs := [.str "a", .str "in"]) (ea_cons ev_c (ea_cons ev_c ea_nil)) (by simp) (fb_tup (by simp) (fun y hy => by simp at hy; rcases hy with rfl | rfl <;> exact okV_str (by decide +kernel)) (by decide +kernel)))
      (ac (one (by decide +kernel) (by decide +kernel)) (ac (one (by decide +kernel) (by decide +kernel)) (ac (ep_tup (vs := [.non]) (ea_cons ev_c ea_nil) (by simp) (fb_tup (by simp) (fun y hy => by rw [List.mem_singleton.mp hy]; exact .inr rfl) (by decide)))
      (ac (one (by decide +kernel) (by decide +kernel)) (ac (one (by decide +kernel) (by decide +kernel)) ap_nil))))))))
  · rintro y σ' H6 hy ⟨v3', rfl, T6⟩ N hN
    refine if_not (P := fun H9 => LamX.ExtN H6 H9 ∧ LamX.Tabs (tT P1 P2) H9) (fun Q' k => ⟨T6, fun H7 eN T7 => ?_⟩) fun H9 ⟨eN, T9⟩ => hN _ H9 ⟨some y, rfl, T9⟩ eN
    have fin : ∀ H8, Ex H7 H8 → ∀ b, H8 b = none → rIsX D.K [.ref b, .ref cN] (upd H8 b (ExT (.ref cN) none b)) Q' := fun H8 e8 b hb => ⟨b, .ref cN, .ref cN, cN, none, true, rfl, upd_same, .inl rfl, T.eN', .own cN, T.kNN, k _ ⟨eN.trans (extN_of (e8.trans (Ex.new hb))), tabs_ex T7 (e8.trans (Ex.new hb))⟩⟩
    refine keep_ca (vs := [y]) (ea_cons (ev_var rfl) ea_nil) fun H8 e8 => ⟨rfl, y, rfl, ?_⟩
    have bad : ∀ H9, Ex H8 H9 → ∃ b, PySem.W.exmOne D.K (.ref cN) (.ref cB) = some b ∧ (b = true → ∀ a, H9 a = none → rIsX D.K [.ref a, .ref cN] (upd H9 a (ExT (.ref cN) none a)) Q') ∧ (b = false → False) := fun H9 e9 => ⟨true, T.xN, fun _ b hb => fin H9 (e8.trans e9) b hb, fun z => by cases z⟩
    rcases fb_mono _ _ _ _ (extN_of e8) (fb_mono _ _ _ _ eN hy) with h | ⟨t, ys, rfl, ht, h1, h2, h3⟩
    · exact .inr ⟨h, bad⟩
    · exact .inl ⟨t, ys, rfl, st_of ht, .base (.tup ht), h1, h2, (fun z => by rw [h3] at z; cases z), fun _ => bad⟩
  rintro σ' H6 ⟨v3', rfl, T6⟩
  exact s_ret ev_c fun H7 _ => q H7
end Q
set_option maxHeartbeats 4000000
namespace Q
open PySem PySem.Spec PyProof.Rows L2
/-! ### the end of a law whose def shows data: the caller's guards are none -/
/-- what is tracked when the law is called: the script (if the written part does not hold it), the tables -/
def bgn (K : PySem.W.Frag) (a : Addr) (o : Obj) (xs : List V) (ts : List Addr) : Hp := fun b => if b = a ∧ (K.lookup a).isNone = true then some (.frz o (.lst xs)) else if b ∈ ts then some (.tbl #[]) else none
theorem law_callG {P : Program} {w : World} {K : PySem.W.Frag} {mg mb : Str → Option Value} {k : Nat} {fa a : Addr} {cs : List (Addr × Addr)} {x y : Str} {sp : Sp} {s₁ : Shared} {vs : List Value} {ns : List Int}
    (KX : K.In s₁.heap) (hns : s₁.heap.Ns mainGlobals mg) (hb : s₁.heap.Ns builtinsNs mb) (hbb : ∀ x : Str, x ≠ "__name__" → mb x = bootBuiltins x) (hlim : s₁.heap.NoLimit) (hg : s₁.gens = #[])
    (hT : ∀ p ∈ cs, s₁.heap.get? p.2 = some { cls := .none, data := .fields #[] }) (nT : ∀ p ∈ cs, K.lookup p.2 = none) (C : ∀ p ∈ cs, PySem.W.CodeHd s₁.heap p.1 p.2)
    (hbm : ∃ (bm : Addr) (ob : Obj), mg "__builtins__" = some (.ref bm) ∧ bm ≠ builtinsNs ∧ s₁.heap.get? bm = some ob ∧ ob.cls = .type "module" ∧ ob.dict = some builtinsNs ∧ ob.data = .plain)
    (ha : s₁.heap.get? a = some { cls := .type "list", data := .seq vs.toArray }) (hi : IntsAre vs ns) (hl : ns.length ≤ sizeLine) (hr : Room k callerA) (gm : mg x = some (.ref fa))
    (F : ∀ base : Heap, K.In base → base.Ns mainGlobals mg → (∀ p ∈ cs, LamX.TabB base mg p.1 p.2) → Ca ⟨P, w, K, mg, base⟩ true k x 1 sp)
    (hsp : ∀ H : Hp, (∀ p ∈ cs, H p.2 = some (.tbl #[])) → SqL K H a (ns.map V.int) → sp [.ref a] H (fun v _ => v = .bl true) fun _ _ _ => False) :
    codeAny (model P w) callerA (.call (.ref fa) ⟨[.ref a], []⟩) (fun r s' => r = .ok (.ret (.bool true)) ∧ OldK s₁.heap s'.heap ∧ s'.os = s₁.os ∧ AllBare s'.gens) s₁ := by
  have rv := vals_ints hi
  have lenV := hi.length
  -- the tables
  have isT : ∀ b ∈ cs.map (·.2), s₁.heap.get? b = some { cls := .none, data := .fields #[] } := fun b hb => by
    obtain ⟨p, hp, rfl⟩ := List.mem_map.mp hb
    exact hT p hp
  have memT : ∀ p ∈ cs, p.2 ∈ cs.map (·.2) := fun p hp => List.mem_map.mpr ⟨p, hp, rfl⟩
  have aT : a ∉ cs.map (·.2) := fun z => by
    have q := isT a z
    rw [ha] at q
    cases q
  generalize hH : bgn K a { cls := .type "list", data := .seq vs.toArray } (ns.map V.int) (cs.map (·.2)) = H
  have cas : ∀ b, (H b = none ∧ b ∉ cs.map (·.2)) ∨ (b ∈ cs.map (·.2) ∧ H b = some (.tbl #[])) ∨ (b = a ∧ K.lookup a = none ∧ H b = some (.frz { cls := .type "list", data := .seq vs.toArray } (.lst (ns.map V.int)))) := fun b => by
    rw [← hH]
    unfold bgn
    by_cases h1 : b = a ∧ (K.lookup a).isNone = true
    · exact .inr (.inr ⟨h1.1, by simpa using h1.2, if_pos h1⟩)
    · by_cases h2 : b ∈ cs.map (·.2)
      · exact .inr (.inl ⟨h2, by rw [if_neg h1, if_pos h2]⟩)
      · exact .inl ⟨by rw [if_neg h1, if_neg h2], h2⟩
  have hTb : ∀ p ∈ cs, H p.2 = some (.tbl #[]) := fun p hp => by
    rcases cas p.2 with ⟨_, h⟩ | ⟨_, h⟩ | ⟨h, _⟩
    · exact absurd (memT p hp) h
    · exact h
    · exact absurd (memT p hp) (by rw [h]; exact aT)
  have hS : SqL K H a (ns.map V.int) := by
    cases hk : K.lookup a with
    | some o =>
      have e := KX a o hk
      rw [ha] at e
      cases e
      exact .inr ⟨_, vs.toArray, _, hk, rfl, rfl, rfl, by rw [List.size_toArray, lenV]; exact hl, by simpa using rv⟩
    | none => exact .inl (.inr ⟨{ cls := .type "list", data := .seq vs.toArray }, by rw [← hH]; exact if_pos ⟨rfl, by rw [hk]; rfl⟩⟩)
  have hok : HOk P w H s₁.heap := fun b u z => by
    rcases cas b with ⟨h, _⟩ | ⟨h1, h⟩ | ⟨rfl, _, h⟩
    · rw [h] at z
      cases z
    · rw [h] at z
      cases z
      exact isT b h1
    · rw [h] at z
      cases z
      exact ⟨ha, by rw [List.length_map]; exact hl, vs, _, rv, ha⟩
  -- what is not tracked stands in the base
  have free : ∀ {b : Addr} {o : Obj}, s₁.heap.get? b = some o → (∀ vs n, o.data ≠ .seq vs n) → o.data ≠ .fields #[] → H b = none := fun {b o} e h1 h2 => by
    rcases cas b with ⟨h, _⟩ | ⟨h, _⟩ | ⟨rfl, _, _⟩
    · exact h
    · rw [isT b h] at e
      cases e
      exact absurd rfl h2
    · rw [ha] at e
      cases e
      exact absurd rfl (h1 _ _)
  have freeK : ∀ b o, K.lookup b = some o → H b = none := fun b o e => by
    rcases cas b with ⟨h, _⟩ | ⟨h, _⟩ | ⟨rfl, h, _⟩
    · exact h
    · obtain ⟨p, hp, rfl⟩ := List.mem_map.mp h
      rw [nT p hp] at e
      cases e
    · rw [h] at e
      cases e
  have nsB : ∀ {b : Addr} {m : Str → Option Value}, s₁.heap.Ns b m → (hidT s₁.heap H).Ns b m := fun {b m} ⟨o, es, ep, e, d, r⟩ => ⟨o, es, ep, hidT_get e (free e (fun _ _ z => by rw [d] at z; cases z) fun z => by rw [d] at z; cases z), d, r⟩
  have hKb : K.In (hidT s₁.heap H) := fun b o e => hidT_get (KX b o e) (freeK b o e)
  have hM : L2.Mod K mg (hidT s₁.heap H) := ⟨hKb, nsB hns, ⟨mb, nsB hb, hbb⟩, let ⟨mc, h1, h2⟩ := hlim; ⟨mc, nsB h1, h2⟩⟩
  have TB : ∀ p ∈ cs, LamX.TabB (hidT s₁.heap H) mg p.1 p.2 := fun p hp => by
    have hTp := hT p hp
    refine ⟨?_, ?_, fun z => ?_⟩
    · obtain ⟨o, us, file, tf, flags, tg, inF, text, tt, e1, r1, r2, r3, r⟩ := C p hp
      exact ⟨o, us, file, tf, flags, tg, inF, text, tt, hidT_get e1 (free e1 (fun _ _ z => by rw [r2] at z; cases z) fun z => by
        rw [r2] at z
        cases z
        simp at r3), r1, r2, r3, r⟩
    · obtain ⟨bm, ob, b1, b2, b3, b4, b5, b6⟩ := hbm
      refine ⟨bm, ob, b1, b2, fun q => ?_, fun q => ?_, hidT_get b3 (free b3 (fun _ _ z => by rw [b6] at z; cases z) fun z => by rw [b6] at z; cases z), b4, b5, b6⟩
      · obtain ⟨o, es, ep, e, hd, _⟩ := hns
        rw [q, e] at b3
        cases b3
        rw [hd] at b6
        cases b6
      · rw [q, hTp] at b3
        cases b3
        cases b6
    · obtain ⟨o, es, ep, e, hd, _⟩ := hns
      rw [z, hTp] at e
      cases e
      cases hd
  have e0 : Env0 P w K mg (hidT s₁.heap H) callerA [] s₁ H := ⟨rfl, hM, fun b o e => of_hidT e, Nat.le_of_eq (hidT_size _ _), trivial, fun b hb => absurd (show b ∈ ([] : List Addr) from hb) (by simp), hok, .of_eq hg⟩
  obtain ⟨f', fd, ps, gm', kp, hbi, hn, hlen, run⟩ := (F _ hKb (nsB hns) TB).ex
  have ef : f' = fa := by
    have z := gm'.symm.trans gm
    cases z
    rfl
  subst ef
  obtain ⟨p0, rfl⟩ : ∃ p0, ps = [p0] := by
    match ps, hn with
    | [p0], _ => exact ⟨p0, rfl⟩
  have hbt := hbi s₁ [.ref a] KX rfl
  refine codeAny_mono (run callerA [] s₁ H ⟨[.ref a], []⟩ [.ref a] [.ref a] _ _ (fun _ => rfl) hr e0 (by simpa using hbt) (.cons rfl .nil) (hsp H hTb hS)) fun r s' h => ?_
  cases r with
  | error e =>
    obtain ⟨_, _, _, _, _, _, _, _, _, _, _, _, z⟩ := h
    exact z.elim
  | ok fl =>
    cases fl with
    | next => exact False.elim h
    | brk => exact False.elim h
    | cont => exact False.elim h
    | ret u =>
      obtain ⟨v, H', os, bare, un, hok', r', q⟩ := h
      have q' : v = .bl true := q
      subst q'
      obtain rfl : u = Value.bool true := r'
      have key : ∀ b o, b ∉ cs.map (·.2) → s₁.heap.get? b = some o → s'.heap.get? b = some o := fun b o nb e => by
        rcases cas b with ⟨h, _⟩ | ⟨h, _⟩ | ⟨rfl, _, h⟩
        · exact un.keep b o e h (by intro z; exact absurd (show b ∈ ([] : List Addr) from z) (by simp)) (by simp)
        · exact absurd h nb
        · obtain ⟨e1, _⟩ := hok b _ h
          obtain ⟨e2, _⟩ := hok' b _ (un.frzs b _ _ h)
          rw [e] at e1
          cases e1
          exact e2
      have tab : ∀ p ∈ cs, ∃ more : Array Value, s'.heap.get? p.2 = some { cls := .none, data := .fields more } := fun p hp => by
        obtain ⟨more, z⟩ := un.tbls p.2 #[] (hTb p hp)
        exact ⟨_, hok' p.2 _ z⟩
      refine ⟨rfl, ⟨fun b o e => ?_, fun b o e => ?_⟩, os, bare⟩
      · by_cases hb : b ∈ cs.map (·.2)
        · obtain ⟨p, hp, rfl⟩ := List.mem_map.mp hb
          obtain ⟨more, hm⟩ := tab p hp
          rw [hT p hp] at e
          cases e
          exact .inr (.inl ⟨((C p hp).tab (hT p hp)).isCodeTable, rfl, #[], more, rfl, by rw [Array.empty_append]; exact hm⟩)
        · exact .inl (key b o hb e)
      · by_cases hb : b ∈ cs.map (·.2)
        · obtain ⟨p, hp, rfl⟩ := List.mem_map.mp hb
          obtain ⟨more, hm⟩ := tab p hp
          exact ⟨_, hm⟩
        · exact ⟨o, key b o hb e⟩
theorem walk_G {l : PySem.W.OpenLaw} {n k : Nat} {q : Program} {loose : List Str} {XP : (Str → Option Value) → Heap → Prop} {YP : World → Heap → Prop} {d : DefRec}
    (hn : l.most = some n) (hn2 : n ≤ sizeLine) (hdf : d.params.defaults = []) (hr : Room k callerA)
    (F : ∀ (w : World) (mg : Str → Option Value) (fa : Addr) (h : Heap), YP w h → h.Ns mainGlobals mg → mg d.name = some (.ref fa) → ∃ (K : PySem.W.Frag) (cs : List (Addr × Addr)) (sp : Sp), K.In h ∧
      (∀ p ∈ cs, h.get? p.2 = some { cls := .none, data := .fields #[] }) ∧ (∀ p ∈ cs, K.lookup p.2 = none) ∧ (∀ p ∈ cs, PySem.W.CodeHd h p.1 p.2) ∧
      (∀ (H : Hp) (a : Addr) (ns : List Int), ns.length ≤ n → (∀ p ∈ cs, H p.2 = some (.tbl #[])) → SqL K H a (ns.map V.int) → sp [.ref a] H (fun v _ => v = .bl true) fun _ _ _ => False) ∧
      ∀ base : Heap, K.In base → base.Ns mainGlobals mg → (∀ p ∈ cs, LamX.TabB base mg p.1 p.2) → Ca ⟨l.prog, w, K, mg, base⟩ true k d.name 1 sp) :
    PySem.W.WalkO q loose XP YP l.row.toRowW d [] (fun f vs => PySem.call f vs) := by
  refine Att.attach_callB hn hdf fun w s₀ s₁ mg mb fa o pm cd doc a vs ns G Y ho hd hcd hmg hobj hints hlen hbits hg => ?_
  obtain ⟨K, cs, sp, KX, hT, nT, C, hsp, hF⟩ := F w mg fa _ Y G.T.g hmg
  exact law_callG (y := d.name) KX G.T.g G.T.b G.T.builtins G.T.nolimit hg hT nT C G.T.bmain hobj hints (Nat.le_trans hlen hn2) hr hmg hF fun H hH hS => hsp H a ns hlen hH hS
end Q
set_option maxHeartbeats 0
namespace Q
open PySem PySem.Spec PyProof.Rows L2
/-! ### the head: one more address, the exception's __init__ -/
def asY (g : Addr → Option Obj) : List Addr := cStatics :: He.asD g 5
def cbody : Stmt → List Stmt
  | .ClassDef (body := b) .. => b
  | _ => []
abbrev sIni : Stmt := (cbody (top 2)).getD 0 (.Pass ⟨0, 0, 0, 0⟩)
def iAd (K : PySem.W.Frag) : Addr := He.ma K (He.ga K "BadText") "__init__"
abbrev FnIV : Type := Option (Str × Str × Arguments × FuncBody × Scope × Addr × List Str × Addr)
def fnI (K : PySem.W.Frag) : FnIV := match K.lookup (iAd K) with
  | some ⟨_, _, .func fd, _⟩ => some (fd.name, fd.qualname, fd.params, fd.body, fd.scope, fd.globals, fd.closure.map (·.1), fd.builtins)
  | _ => none
def fnIv : FnIV := some ("__init__", "BadText.__init__", defArgs sIni, .stmts (defBody sIni), defScope sIni, mainGlobals, ["__class__"], builtinsNs)
/-- its code object, its cell -/
def iniB (file : Str) (K : PySem.W.Frag) : Bool := match K.lookup (iAd K) with
  | some ⟨_, _, .func fd, _⟩ => (match fd.defaults with
      | .none => true
      | _ => false) && ((match fd.code with
      | .ref c => PySem.W.codeIn K (.ref c) fd.qualname && (match K.lookup c with
        | some ⟨_, _, .fields vs, _⟩ => (match (vs[2]? : Option Value) with
          | some (.str f _) => file == f
          | _ => false)
        | _ => false)
      | _ => false) && (match fd.closure with
      | [(_, cc)] => (match K.lookup cc with
        | some ⟨_, _, .cell (some (.ref C)), _⟩ => C == He.ga K "BadText"
        | _ => false)
      | _ => false))
  | _ => false
def oexB (K : PySem.W.Frag) (C : Addr) : Bool := (match K.lookup C with
  | some ⟨.type t, _, .cls cd, sl⟩ => (match cd.mro, sl.toList with
    | .ref C' :: bm, [_, _, _, _, some (.builtin n), _] => t == "type" && (C' == C && (n == "ValueError.__new__" && (!cd.hasDel && (cd.hasDict && PySem.HandSPX.refsVE bm))))
    | _, _ => false)
  | _ => false) && (decide (PySem.W.findIn K (.ref C) "__setattr__" = some (some (.builtin "object.__setattr__"))) && (decide (PySem.W.subIn K (.ref C) (.type "BaseException") = some true) && (decide (PySem.W.typeIn K (.ref C) = some (.type "type")) && PySem.W.keepIn K (.ref C))))
def excB (K : PySem.W.Frag) (C : Addr) : Bool := decide (PySem.W.findIn K (.ref C) "__getattribute__" = some (some (.builtin "BaseException.__getattribute__"))) && (decide (PySem.W.findIn K (.ref C) "__getattr__" = some none) && (decide (PySem.W.subIn K (.ref C) (.type "BaseException") = some true) && (PySem.W.hasDictIn K C && (decide (PySem.W.findIn K (.ref C) "__class__" = some (some (.builtin "object.__class__"))) && (decide (PySem.W.specialIn K (.builtin "object.__class__") "__get__" = some (some (.builtin "getset_descriptor.__get__"))) && (decide (PySem.W.takesIn K (.builtin "object.__class__") = some true) && decide (PySem.W.mroIn K C (.type "object") = some true)))))))
theorem ba {a b : Bool} (h : (a && b) = true) : a = true ∧ b = true := Bool.and_eq_true_iff.mp h
theorem excB_ok {K : PySem.W.Frag} {C : Addr} (h : excB K C = true) : ExcC K C := by
  obtain ⟨h1, h⟩ := ba h
  obtain ⟨h2, h⟩ := ba h
  obtain ⟨h3, h⟩ := ba h
  obtain ⟨h4, h⟩ := ba h
  obtain ⟨h5, h⟩ := ba h
  obtain ⟨h6, h⟩ := ba h
  obtain ⟨h7, h8⟩ := ba h
  exact ⟨of_decide_eq_true h1, of_decide_eq_true h2, of_decide_eq_true h3, h4, of_decide_eq_true h5, of_decide_eq_true h6, of_decide_eq_true h7, of_decide_eq_true h8⟩
theorem oexB_ok {K : PySem.W.Frag} {C : Addr} (h : oexB K C = true) : OexC K C := by
  obtain ⟨h1, h⟩ := ba h
  obtain ⟨h2, h⟩ := ba h
  obtain ⟨h3, h⟩ := ba h
  obtain ⟨h4, h5⟩ := ba h
  refine ⟨?_, of_decide_eq_true h2, of_decide_eq_true h3, of_decide_eq_true h4, h5⟩
  cases q : K.lookup C with
  | none =>
    rw [q] at h1
    cases h1
  | some o =>
    obtain ⟨oc, od, dt, sl⟩ := o
    rw [q] at h1
    cases oc with
    | type t =>
      cases dt with
      | cls cd =>
        obtain ⟨nm, bs, mro, ns, qn, hd, sn, sub, ab, col, del⟩ := cd
        obtain ⟨sl⟩ := sl
        dsimp only at h1
        split at h1
        · rename_i C' bm k0 k1 k2 k3 n k5
          obtain ⟨z1, h1⟩ := ba h1
          obtain ⟨z2, h1⟩ := ba h1
          obtain ⟨z3, h1⟩ := ba h1
          obtain ⟨z4, h1⟩ := ba h1
          obtain ⟨z5, z6⟩ := ba h1
          have y1 := beq_iff_eq.mp z1
          have y2 := beq_iff_eq.mp z2
          have y3 := beq_iff_eq.mp z3
          have y4 : del = false := by simpa using z4
          subst y1 y2 y3 y4
          have y5 : hd = true := z5
          subst y5
          exact ⟨nm, qn, ns, bs, bm, sn, sub, ab, col, od, k0, k1, k2, k3, k5, rfl, z6⟩
        · cases h1
      | _ => cases h1
    | _ => cases dt <;> cases h1
theorem kit_ref {K : PySem.W.Frag} {C : Addr} : PySem.W.kitOne K (.ref C) (.ref C) = some true := by
  unfold PySem.W.kitOne
  exact if_pos (by simp)
end Q
set_option maxHeartbeats 0
namespace Q
open PySem PySem.Spec PyProof.Rows L2
def dD (x : Str) (i : Nat) : He.DefD := ⟨(x, none), x, x, defArgs (top i), defBody (top i), defScope (top i), [], []⟩
def fn1 : List He.DefD := [dD "kept_words" 13, dD "is_name" 14, dD "is_word" 15, dD "end_of_row" 16, dD "token_at" 17, dD "tokens_of" 18, dD "next_word" 19, dD "fresh_told" 20, dD "fresh_name" 21, dD "_law_begun" 23, dD "_law_mixed" 24, dD "_law_take" 25, dD "_law_pick" 26, dD "_law_caught" 27]
def fn2 : List He.DefD := [dD "_law_same" 28, dD "_law_name" 29, dD "_law_word" 30, dD "_law_row" 31, dD "_law_letters" 32, dD "_law_all_in" 33, dD "_law_is_name" 34, dD "_law_is_word" 35, dD "_law_is_token" 36, dD "_law_piece" 37, dD "_law_tokens_right" 38, dD "_law_words_right" 39, dD "_law_fresh_right" 40, dD "law" 41]
def fnY : List He.DefD := fn1 ++ fn2
def fa1 : List He.Fa := [.free "len", .free "isinstance", .free "all", .free "abs", .free "repr", .free "str", .free "tuple", .free "int", .free "list", .free "range", .free "min", .free "super"]
def fa2 : List He.Fa := [.str "SMALL" "abcdefghijklmnopqrstuvwxyz", .str "GREAT" "ABCDEFGHIJKLMNOPQRSTUVWXYZ", .str "FIGURES" "0123456789", .str "SINGLE" "(){},:;+-*<", .int "MOST_SIGNS" 40000, .int "MOST_FIGURES" 9, .int "MOST_LETTERS" 8, .glo "TONGUE", .glo "BadText", .glo "BadNames", .glo "BillError", .exc "BadNames", .exm "BadText" "BillError" true, .exm "BadNames" "BillError" true]
def fa3 : List He.Fa := [.glo "kept_words", .glo "is_name", .glo "is_word", .glo "end_of_row", .glo "token_at", .glo "tokens_of", .glo "next_word", .glo "fresh_told", .glo "fresh_name", .glo "_law_begun", .glo "_law_mixed", .glo "_law_take", .glo "_law_pick", .glo "_law_caught"]
def fa4 : List He.Fa := [.glo "_law_same", .glo "_law_name", .glo "_law_word", .glo "_law_row", .glo "_law_letters", .glo "_law_all_in", .glo "_law_is_name", .glo "_law_is_word", .glo "_law_is_token", .glo "_law_piece", .glo "_law_tokens_right", .glo "_law_words_right", .glo "_law_fresh_right", .glo "law"]
def faY : List He.Fa := fa1 ++ (fa2 ++ (fa3 ++ fa4))
def tfY : List He.Defn := [("_law_tokens_right", none), ("law", none)]
abbrev R : PySem.W.OpenRow := PySem.W.OpenLaw.row PySem.Challenge.rw_runsbilled_k02_whole_tokens_and_fresh_na
def fileY : Str := (R.prog.main.file : Str)
def dec1 (K : PySem.W.Frag) (C : Addr) : Bool := decide (PySem.W.findIn K (.ref C) "at" = some none) && (decide (PySem.W.findIn K (.ref C) "__init__" = some (some (.ref (iAd K)))) && (decide (PySem.W.typeIn K (.ref (iAd K)) = some (.type "function")) && (decide (PySem.W.ks_superIn K C C "__init__" = some (some (.builtin "ValueError.__init__"))) && (decide (PySem.W.subIn K (.ref C) (.type "ValueError") = some true) && (decide (PySem.W.mroIn K C (.ref C) = some true) && decide (PySem.W.nsIn K cStatics "thirdparty.any" = some none))))))
def exY (K : PySem.W.Frag) : Bool := He.tupB K "TONGUE" [.str "case", .str "fun", .str "in", .str "let"] && (oexB K (He.ga K "BadText") && (iniB fileY K && (excB K (He.ga K "BadText") && (excB K (He.ga K "BadNames") && (xfB K (He.ga K "BadText") && (dec1 K (He.ga K "BadText") && !((He.cT K ("_law_tokens_right", none)).2 == (He.cT K ("law", none)).2)))))))
def obsK (g : Addr → Option Obj) (K : PySem.W.Frag) : He.AlX × FnIV := ((He.obsT faY fnY [] K, exY K && He.tabsB g tfY K), fnI K)
def obsY (g : Addr → Option Obj) : He.AlX × FnIV := obsK g (He.frT g (asY g))
theorem saysY {w : World} {h : Heap} {as : List Addr} (e : (He.obsT faY fnY [] (He.frT h.get? as), exY (He.frT h.get? as) && He.tabsB h.get? tfY (He.frT h.get? as)) = He.valX fnY [] w) : He.SaysX faY fnY [] tfY exY w h (He.frT h.get? as) := by
  have e1 : He.obsT faY fnY [] (He.frT h.get? as) = He.valT fnY [] w := congrArg (fun z : He.AlX => z.1) e
  have e2 : (exY (He.frT h.get? as) && He.tabsB h.get? tfY (He.frT h.get? as)) = true := congrArg (fun z : He.AlX => z.2) e
  obtain ⟨h1, h2⟩ := ba e2
  have key : ∀ p ∈ tfY, PySem.W.codeHdIn (He.frT h.get? as) (He.cT (He.frT h.get? as) p).1 (He.cT (He.frT h.get? as) p).2 = true ∧ ∃ o, h.get? (He.cT (He.frT h.get? as) p).2 = some o ∧ He.emptyTab o = true := fun p hp => by
    obtain ⟨h3, h4⟩ := ba (List.all_eq_true.mp h2 p hp)
    refine ⟨h3, ?_⟩
    cases q : h.get? (He.cT (He.frT h.get? as) p).2 with
    | none =>
      rw [q] at h4
      cases h4
    | some o =>
      rw [q] at h4
      exact ⟨o, rfl, h4⟩
  refine ⟨e1, h1, fun p hp => (key p hp).1, fun p hp => ?_, fun p hp => ?_⟩
  · obtain ⟨_, o, q, z⟩ := key p hp
    exact He.frT_none q z
  · obtain ⟨_, o, q, z⟩ := key p hp
    rw [q, He.emptyTab_eq z]
def hkY : PySem.W.Hook where
  α := He.AlX × FnIV
  obs := fun s => obsY s.heap.get?
  val := fun w => (He.valX fnY [] w, fnIv)
  says := fun w h => ∃ K : PySem.W.Frag, K.In h ∧ He.SaysX faY fnY [] tfY exY w h K ∧ fnI K = fnIv
  of := fun _ _ e => ⟨_, He.frT_in, saysY (congrArg (fun z : He.AlX × FnIV => z.1) e), congrArg (fun z : He.AlX × FnIV => z.2) e⟩
  keeps := fun _ _ _ ⟨K, hK, c, i⟩ k => ⟨K, PySem.W.Frag.In.keeps hK k, ⟨c.t, c.more, c.hd, c.out, fun p hp => k _ _ (c.empty p hp)⟩, i⟩
def ob (s : PySem.W.SharedT) : He.AlX × FnIV := obsY (HandSHeadRun.getT s)
theorem ob_eq (s : PySem.W.SharedT) : ob s = hkY.obs s.abs := by
  have e : HandSHeadRun.getT s = s.abs.heap.get? := funext fun a => HandSHeadRun.getT_eq s a
  unfold ob
  rw [e]
  rfl
def names0 : List PySem.Str := ["__name__", "BillError", "BadText", "BadNames", "SMALL", "GREAT", "FIGURES", "SINGLE", "TONGUE", "MOST_SIGNS", "MOST_FIGURES", "MOST_LETTERS", "kept_words"]
def names1 : List PySem.Str := ["is_name", "is_word", "end_of_row", "token_at", "tokens_of", "next_word", "fresh_told", "fresh_name", "_law_begun", "_law_mixed", "_law_take", "_law_pick", "_law_caught"]
def names2 : List PySem.Str := ["_law_same", "_law_name", "_law_word", "_law_row", "_law_letters", "_law_all_in", "_law_is_name", "_law_is_word", "_law_is_token", "_law_piece", "_law_tokens_right", "_law_words_right", "_law_fresh_right"]
def names : List PySem.Str := names0 ++ names1 ++ names2
theorem runY (w : World) : HandSHeadRun.RunEq R (PySem.W.view R.prog [41]) hkY ob 2000 names w := by
  intro os
  kernel_rfl
end Q
set_option maxHeartbeats 0
namespace Q
open PySem PySem.Spec PyProof.Rows L2
theorem ini_of {w : World} {K : PySem.W.Frag} {h : Heap} {mg : Str → Option Value} (ci : fnI K = fnIv) (hB : iniB fileY K = true) (hs : mg "super" = none) (ho : OexC K (He.ga K "BadText")) (hd : dec1 K (He.ga K "BadText") = true) :
    ∃ fd, IniC R.prog K mg (He.ga K "BadText") (iAd K) "at" fd ∧ Binds K fd ["self", "at"] [] := by
  obtain ⟨d1, hd⟩ := ba hd
  obtain ⟨d2, hd⟩ := ba hd
  obtain ⟨d3, hd⟩ := ba hd
  obtain ⟨d4, hd⟩ := ba hd
  obtain ⟨d5, hd⟩ := ba hd
  obtain ⟨d6, d7⟩ := ba hd
  unfold fnI at ci
  unfold iniB at hB
  cases q : K.lookup (iAd K) with
  | none =>
    rw [q] at hB
    cases hB
  | some o =>
    obtain ⟨oc, od, dt, osl⟩ := o
    rw [q] at hB ci
    cases dt with
    | func fd =>
      obtain ⟨m1, m2, m3, m4, m5, m6, m7, m8, m9, m10, m11, m12, m13, m14, m15⟩ := fd
      have e2 : (some (m1, m2, m3, m4, m5, m6, m7.map (·.1), m15) : FnIV) = (some ("__init__", "BadText.__init__", defArgs sIni, .stmts (defBody sIni), defScope sIni, mainGlobals, ["__class__"], builtinsNs) : FnIV) := ci
      simp only [Option.some.injEq, Prod.mk.injEq] at e2
      obtain ⟨h1, h2, h3, h4, h5, h6, h7, h8⟩ := e2
      subst h1 h2 h3 h4 h5 h6 h8
      dsimp only at hB
      obtain ⟨b1, hB⟩ := ba hB
      obtain ⟨b2, b3⟩ := ba hB
      have e8 : m8 = .none := by
        cases m8 with
        | none => rfl
        | _ => cases b1
      subst e8
      obtain ⟨cc, rfl⟩ : ∃ cc : Addr, m7 = [(("__class__" : Str), cc)] := by
        match m7, h7 with
        | [(c0, cc)], h7 =>
          have z : [c0] = [("__class__" : Str)] := h7
          have z2 : c0 = "__class__" := List.head_eq_of_cons_eq z
          rw [z2]
          exact ⟨cc, rfl⟩
      cases m13 with
      | ref cda =>
        dsimp only at b2 b3
        obtain ⟨b4, b5⟩ := ba b2
        cases qc : K.lookup cc with
        | none =>
          rw [qc] at b3
          cases b3
        | some o2 =>
          obtain ⟨cl, cld, dt2, csl⟩ := o2
          rw [qc] at b3
          cases dt2 with
          | cell v =>
            cases v with
            | none => cases b3
            | some v =>
              cases v with
              | ref C =>
                have eC : C = He.ga K "BadText" := beq_iff_eq.mp b3
                subst eC
                cases qd : K.lookup cda with
                | none =>
                  rw [qd] at b5
                  cases b5
                | some o3 =>
                  obtain ⟨ccl, cdd, dt3, ccs⟩ := o3
                  rw [qd] at b5
                  cases dt3 with
                  | fields vs =>
                    dsimp only at b5
                    cases qv : (vs[2]? : Option Value) with
                    | none =>
                      rw [qv] at b5
                      cases b5
                    | some u =>
                      rw [qv] at b5
                      cases u with
                      | str file tf =>
                        refine ⟨_, ⟨⟨"BadText.__init__", _, defArgs sIni, defScope sIni, oc, m9, m10, m11, m14, ccl, cl, od, m12, cdd, cld, osl, ccs, csl, vs, file, tf, cda, cc, _, _, _, _, _, _, _, _, _, _, _, _, rfl, q, b4, rfl, rfl, qd, qv, b5, qc, rfl, rfl, rfl, by decide +kernel, rfl, rfl, rfl, rfl, ⟨_, fun _ => rfl⟩⟩, by decide +kernel, by decide +kernel, hs, by decide +kernel, ho, of_decide_eq_true d4, of_decide_eq_true d5, of_decide_eq_true d6, of_decide_eq_true d7, of_decide_eq_true d1⟩, .all fun us hl => match us, hl with | [_, _], _ => rfl⟩
                      | _ => cases b5
                  | _ => cases b5
              | _ => cases b3
          | _ => cases b3
      | _ => cases b2
    | _ => cases hB
end Q
set_option maxHeartbeats 0
namespace Q
open PySem PySem.Spec PyProof.Rows L2
theorem tx_of {w : World} {K : PySem.W.Frag} {h : Heap} {mg : Str → Option Value} (X : K.In h) (G : h.Ns mainGlobals mg) (c : He.SaysX faY fnY [] tfY exY w h K) (ci : fnI K = fnIv) :
    ∃ fdI, ∀ base : Heap, Tx ⟨R.prog, w, K, mg, base⟩ (He.ga K "TONGUE") (He.ga K "BillError") (He.ga K "BadText") (He.ga K "BadNames") (iAd K) fdI := by
  have cd : He.SaysD faY fnY K := congrArg (fun z : He.AlT => z.1) c.t
  obtain ⟨x1, hx⟩ := ba c.more
  obtain ⟨x2, hx⟩ := ba hx
  obtain ⟨x3, hx⟩ := ba hx
  obtain ⟨x4, hx⟩ := ba hx
  obtain ⟨x5, hx⟩ := ba hx
  obtain ⟨x6, hx⟩ := ba hx
  obtain ⟨x7, x8⟩ := ba hx
  obtain ⟨fdI, I1, I2⟩ := ini_of (w := w) (h := h) ci x3 (He.free_ok X G (cd.fact 11 (f := .free "super") rfl)) (oexB_ok x2) x7
  obtain ⟨d1, hd⟩ := ba x7
  obtain ⟨d2, hd⟩ := ba hd
  obtain ⟨d3, _⟩ := ba hd
  refine ⟨fdI, fun base => ?_⟩
  have at_ : ∀ (k j : Nat) (x : Str) (i : Nat), fnY[k]? = some (dD x i) → faY[j]? = some (.glo x) → FunAt ⟨R.prog, w, K, mg, base⟩ x i := fun k j x i h1 h2 => by
    obtain ⟨fd, F⟩ := cd.def_ k h1
    exact ⟨_, fd, F, He.glo_ok X G (cd.fact j h2)⟩
  exact {
    n_len := He.free_ok X G (cd.fact 0 (f := .free "len") rfl)
    n_isinstance := He.free_ok X G (cd.fact 1 (f := .free "isinstance") rfl)
    n_all := He.free_ok X G (cd.fact 2 (f := .free "all") rfl)
    n_abs := He.free_ok X G (cd.fact 3 (f := .free "abs") rfl)
    n_repr := He.free_ok X G (cd.fact 4 (f := .free "repr") rfl)
    n_str := He.free_ok X G (cd.fact 5 (f := .free "str") rfl)
    n_tuple := He.free_ok X G (cd.fact 6 (f := .free "tuple") rfl)
    n_int := He.free_ok X G (cd.fact 7 (f := .free "int") rfl)
    n_list := He.free_ok X G (cd.fact 8 (f := .free "list") rfl)
    n_range := He.free_ok X G (cd.fact 9 (f := .free "range") rfl)
    n_min := He.free_ok X G (cd.fact 10 (f := .free "min") rfl)
    g_SMALL := He.str_ok X G (cd.fact 12 (f := .str "SMALL" "abcdefghijklmnopqrstuvwxyz") rfl)
    g_GREAT := He.str_ok X G (cd.fact 13 (f := .str "GREAT" "ABCDEFGHIJKLMNOPQRSTUVWXYZ") rfl)
    g_FIGURES := He.str_ok X G (cd.fact 14 (f := .str "FIGURES" "0123456789") rfl)
    g_SINGLE := He.str_ok X G (cd.fact 15 (f := .str "SINGLE" "(){},:;+-*<") rfl)
    g_MOST_SIGNS := He.int_ok X G (cd.fact 16 (f := .int "MOST_SIGNS" 40000) rfl)
    g_MOST_FIGURES := He.int_ok X G (cd.fact 17 (f := .int "MOST_FIGURES" 9) rfl)
    g_MOST_LETTERS := He.int_ok X G (cd.fact 18 (f := .int "MOST_LETTERS" 8) rfl)
    g_TONGUE := He.glo_ok X G (cd.fact 19 (f := .glo "TONGUE") rfl)
    g_BadText := He.glo_ok X G (cd.fact 20 (f := .glo "BadText") rfl)
    g_BadNames := He.glo_ok X G (cd.fact 21 (f := .glo "BadNames") rfl)
    g_BillError := He.glo_ok X G (cd.fact 22 (f := .glo "BillError") rfl)
    f13 := at_ 0 26 "kept_words" 13 rfl rfl
    f14 := at_ 1 27 "is_name" 14 rfl rfl
    f15 := at_ 2 28 "is_word" 15 rfl rfl
    f16 := at_ 3 29 "end_of_row" 16 rfl rfl
    f17 := at_ 4 30 "token_at" 17 rfl rfl
    f18 := at_ 5 31 "tokens_of" 18 rfl rfl
    f19 := at_ 6 32 "next_word" 19 rfl rfl
    f20 := at_ 7 33 "fresh_told" 20 rfl rfl
    f21 := at_ 8 34 "fresh_name" 21 rfl rfl
    f23 := at_ 9 35 "_law_begun" 23 rfl rfl
    f24 := at_ 10 36 "_law_mixed" 24 rfl rfl
    f25 := at_ 11 37 "_law_take" 25 rfl rfl
    f26 := at_ 12 38 "_law_pick" 26 rfl rfl
    f27 := at_ 13 39 "_law_caught" 27 rfl rfl
    f28 := at_ 14 40 "_law_same" 28 rfl rfl
    f29 := at_ 15 41 "_law_name" 29 rfl rfl
    f30 := at_ 16 42 "_law_word" 30 rfl rfl
    f31 := at_ 17 43 "_law_row" 31 rfl rfl
    f32 := at_ 18 44 "_law_letters" 32 rfl rfl
    f33 := at_ 19 45 "_law_all_in" 33 rfl rfl
    f34 := at_ 20 46 "_law_is_name" 34 rfl rfl
    f35 := at_ 21 47 "_law_is_word" 35 rfl rfl
    f36 := at_ 22 48 "_law_is_token" 36 rfl rfl
    f37 := at_ 23 49 "_law_piece" 37 rfl rfl
    f38 := at_ 24 50 "_law_tokens_right" 38 rfl rfl
    f39 := at_ 25 51 "_law_words_right" 39 rfl rfl
    f40 := at_ 26 52 "_law_fresh_right" 40 rfl rfl
    f41 := at_ 27 53 "law" 41 rfl rfl
    s_TONGUE := fun H => by rw [← t_tong]; exact He.tupB_ok x1 H
    oT := oexB_ok x2
    iT := of_decide_eq_true d2
    tI := of_decide_eq_true d3
    ini := I1
    bI := I2
    eN := He.exc_ok (cd.fact 23 (f := .exc "BadNames") rfl)
    xT := He.exm_ok (cd.fact 24 (f := .exm "BadText" "BillError" true) rfl)
    xN := He.exm_ok (cd.fact 25 (f := .exm "BadNames" "BillError" true) rfl)
    eT' := excB_ok x4
    eN' := excB_ok x5
    fT := xfB_ok x6
    nT := of_decide_eq_true d1
    kTT := kit_ref
    kNN := kit_ref }
theorem funC_of {w : World} {K : PySem.W.Frag} {h : Heap} {mg : Str → Option Value} {base : Heap} {x : Str} {i : Nat} (F0 : FunAt ⟨R.prog, w, K, mg, base⟩ x i) (hg : mg x = some (.ref (He.ga K x))) : FunC ⟨R.prog, w, K, mg, base⟩ x i (He.cT K (x, none)).1 := by
  obtain ⟨f, fd, F, gm⟩ := F0
  refine ⟨f, fd, F, gm, ?_⟩
  have ef : f = He.fAd K (x, none) := by
    have z := gm.symm.trans hg
    cases z
    rfl
  obtain ⟨oc, od, dV, kV, doc, pm, an, cdv, ct, osl, e, lk, hcd, _, _⟩ := F.ex
  obtain ⟨cc, rfl⟩ := He.codeIn_ref hcd
  subst e
  show Value.ref cc = _
  rw [ef] at lk
  exact congrArg Value.ref (He.codeOf_eq lk rfl).symm
end Q
open PySem PySem.W PySem.Calls PyProof.Rows
theorem PySem.Challenge.cw_runsbilled_k02_whole_tokens_and_fresh_na_holds : PySem.Challenge.rw_runsbilled_k02_whole_tokens_and_fresh_na.Holds := by
  w_on; o_law
  refine HandSHeadRun.head_any (r := OpenLaw.row PySem.Challenge.rw_runsbilled_k02_whole_tokens_and_fresh_na) (q := view Q.R.prog [41]) (H := Q.hkY) (ob := Q.ob) (M := 2000) (loose := Q.names) (d := HandSHeadRun.topDef Q.R.prog 41) (kwd := []) Q.ob_eq
    (by kernel_rfl) (fun s => by kernel_rfl) Q.runY (by kernel_rfl) (by kernel_rfl) (by kernel_rfl) (by rfl) (by first | assumption | decide +kernel) (by decide +kernel) ⟨rfl, rfl, rfl, rfl, rfl, by decide +kernel⟩ ?hw ?hc
  case hw => w_witness2
  case hc =>
    have en : (HandSHeadRun.topDef Q.R.prog 41).name = ("law" : PySem.Str) := by kernel_rfl
    refine Q.walk_G (l := PySem.Challenge.rw_runsbilled_k02_whole_tokens_and_fresh_na) (n := 63) (k := 7) rfl (by decide) (by kernel_rfl) ⟨rfl, by decide, by decide⟩ ?F
    intro w mg fa h Y G hmg0
    obtain ⟨K, KX, c, ci⟩ := Y
    obtain ⟨fdI, TT⟩ := Q.tx_of KX G c ci
    have cd : He.SaysD Q.faY Q.fnY K := congrArg (fun z : He.AlT => z.1) c.t
    have ne : (He.cT K ("_law_tokens_right", none)).2 ≠ (He.cT K ("law", none)).2 := fun z => by
      have x := c.more
      obtain ⟨_, x⟩ := Q.ba x
      obtain ⟨_, x⟩ := Q.ba x
      obtain ⟨_, x⟩ := Q.ba x
      obtain ⟨_, x⟩ := Q.ba x
      obtain ⟨_, x⟩ := Q.ba x
      obtain ⟨_, x⟩ := Q.ba x
      obtain ⟨_, x⟩ := Q.ba x
      rw [z] at x
      simp at x
    refine ⟨K, [He.cT K ("_law_tokens_right", none), He.cT K ("law", none)], Q.spLaw K (Q.tT (He.cT K ("_law_tokens_right", none)).2 (He.cT K ("law", none)).2), KX, ?_, ?_, ?_, ?_, ?_⟩
    · intro p hp
      rcases List.mem_cons.mp hp with rfl | hp
      · exact c.empty ("_law_tokens_right", none) (List.mem_cons_self ..)
      · rw [List.mem_singleton.mp hp]
        exact c.empty ("law", none) (List.mem_cons_of_mem _ (List.mem_cons_self ..))
    · intro p hp
      rcases List.mem_cons.mp hp with rfl | hp
      · exact c.out ("_law_tokens_right", none) (List.mem_cons_self ..)
      · rw [List.mem_singleton.mp hp]
        exact c.out ("law", none) (List.mem_cons_of_mem _ (List.mem_cons_self ..))
    · intro p hp
      rcases List.mem_cons.mp hp with rfl | hp
      · exact codeHd_of_K KX (c.hd ("_law_tokens_right", none) (List.mem_cons_self ..))
      · rw [List.mem_singleton.mp hp]
        exact codeHd_of_K KX (c.hd ("law", none) (List.mem_cons_of_mem _ (List.mem_cons_self ..)))
    · intro H a ns hl hT hS
      refine ⟨rfl, a, ns, rfl, hS, by omega, fun p hp => ?_, fun _ => rfl⟩
      rcases List.mem_cons.mp hp with rfl | hp
      · exact LamX.TabS.nil (hT _ (List.mem_cons_self ..))
      · rw [List.mem_singleton.mp hp]
        exact LamX.TabS.nil (hT _ (List.mem_cons_of_mem _ (List.mem_cons_self ..)))
    · intro base KB GB TB
      rw [en]
      have T := TT base
      exact Q.c_law T { tb1 := TB _ (List.mem_cons_self ..), tb2 := TB _ (List.mem_cons_of_mem _ (List.mem_cons_self ..)), ne := ne, k1 := Q.funC_of (h := h) T.f38 (He.glo_ok KX G (cd.fact 50 (f := .glo "_law_tokens_right") rfl)), k2 := Q.funC_of (h := h) T.f41 (He.glo_ok KX G (cd.fact 53 (f := .glo "law") rfl)) }
