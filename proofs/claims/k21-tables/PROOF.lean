import PyProof.Rows.All
import Wide.All
import OpenK.AllK
import Wide.FinOn
import KE.KStateDown
import KE.KExcSuper
import HandS.ForMost
import HandS.Exc
import HandS.TryOnly
import HandS.ExcOwn
import HandS.ExcInit
import HandS.ExcField
import HandS.ExcIs
import HandS.Codes
import HandS.Lambda
import HandS.EndBits
import HandS.EndTab
import HandS.Defaults
import HandS.IsInst
import HandS.WordsExc
import HandS.Style
import HandS.StrMore
import KE.KExcIs
import HandS.ExcValue
import HandS.Evl
import HandS.Steps
import HandS.Walk
import HandS.AnyAll
import HandS.Deep
import HandS.TupAny
import HandS.TupLe
import HandS.SortOrd
import KE.DataCmp
import HandS.SortRule
import KE.SortCalls
import HandS.Words
import HandS.HeadHook1
import HandS.Zip
import KE.GoesMore
import HandS.Strs
import HandS.Dict
import HandS.More
import KE.SortData
import HandS.Text
import HandS.NestedK
import HandS.Head0
import HandS.Head1
import HandS.Head2
import HandS.HeadHook2
import HandS.HeadHook3
import HandS.HeadHook4
import PySem.Challenge.RW_runsbilled_k21_tables_of_uses
set_option Elab.async false
set_option linter.all false
set_option maxRecDepth 100000
set_option maxHeartbeats 4000000
namespace Q
open PySem PySem.Spec PyProof.Rows L2

/-! ### a def that is called by its name, where no repr runs -/
structure Wd where
  P : Program
  w : World
  K : PySem.W.Frag
  mg : Str → Option Value
  base : Heap
abbrev Wd.of (X : Cx) : Wd := ⟨X.prog, X.w, X.K, X.mg, X.base⟩
structure Ca (D : Wd) (g : Bool) (k : Nat) (x : Str) (n : Nat) (sp : Sp) : Prop where
  ex : ∃ (f : Addr) (fd : FuncData) (ps : List Str), D.mg x = some (.ref f) ∧ PySem.W.keepIn D.K (.ref f) = true ∧ Binds D.K fd ps [] ∧ ps.length = n ∧
    (∀ vs H Q E, sp vs H Q E → vs.length = n) ∧
    ∀ (A : Around) (outer : List Env) (s : Shared) (H : Hp) (args : Args) (us : List Value) (vs : List V) (Q : VK) (E : XK), (g = true → A.guards = some []) → Room k A →
      Env0 D.P D.w D.K D.mg D.base A outer s H → BindsTo s fd args (ps.zip us) → Vals vs us → sp vs H Q E →
      codeAny (model D.P D.w) A (.call (.ref f) args) (CR (L2.CX D.P D.w) outer D.P D.w H s Q E) s
theorem Ca.at_ {D : Wd} {g : Bool} {k n : Nat} {x : Str} {sp : Sp} (c : Ca D g k x n sp) : ∃ f, D.mg x = some (.ref f) ∧ PySem.W.keepIn D.K (.ref f) = true := by
  obtain ⟨f, _, _, a, b, _⟩ := c.ex
  exact ⟨f, a, b⟩
theorem Ca.up {D : Wd} {g : Bool} {j k : Nat} {x : Str} {n : Nat} {sp : Sp} (c : Ca D g j x n sp) (h : j ≤ k) : Ca D g k x n sp := by
  obtain ⟨f, fd, ps, a, b, c, d, e, r⟩ := c.ex
  exact ⟨f, fd, ps, a, b, c, d, e, fun A outer s H args us vs Q E hg hr => r A outer s H args us vs Q E hg (hr.mono h)⟩
section
variable {X : Cx} {g : Bool} {j k n : Nat} {x : Str} {sp : Sp} {E : XK} {p pos : Pos} {e : Expr} {es : List Expr} {t : TA}
theorem run_ca (c : Ca (.of X) g j x n sp) (hG : g = true → X.A.guards = some []) (hr : Room k X.A) (hk : j ≤ k) (hx : Passes (L2.CX X.prog X.w) X E) {pins : List (Addr × Obj)} {σ : L2.St} {H : Hp} {s : Shared} {Q : VK}
    {vs : List V} {f : Addr} {us : List Value} (hm : X.mg x = some (.ref f)) (I : Inv X pins σ H s) (r : Vals vs us) (h : sp vs H Q E) :
    wpAny (model X.prog X.w) X.A (call (.ref f) us) (EP X pins σ Q) X.xe s := by
  obtain ⟨f', fd, ps, gm, kp, hb, hn, hl, run⟩ := c.ex
  have ef : f' = f := by
    have z := gm.symm.trans hm
    cases z
    rfl
  subst ef
  have hlen : us.length = ps.length := by
    rw [← r.length, hl _ _ _ _ h, hn]
  have hb' := hb s us I.kIn (by simpa using hlen)
  rw [List.append_nil] at hb'
  refine wpAny_call (codeAny_mono (run X.A X.stack s H ⟨us, []⟩ us vs Q E hG (hr.mono hk) I.env0 hb' r h) fun r' s' hq => ?_)
  cases r' with
  | error u => exact hx pins σ H s u s' I hq
  | ok fl =>
    cases fl with
    | ret u => exact I.after hq
    | next => exact False.elim hq
    | brk => exact False.elim hq
    | cont => exact False.elim hq
/-- the reading of a call -/
def tCa (sp : Sp) (E : XK) (t : TA) : TE := fun σ H Q => t σ H fun vs H1 => sp vs H1 Q E
/-- x(e, ..) -/
theorem pe_ca (c : Ca (.of X) g j x n sp) (hG : g = true → X.A.guards = some []) (hr : Room k X.A) (hk : j ≤ k) (hx : Passes (L2.CX X.prog X.w) X E) (hg : Gl X x) (ha : PA X (e :: es) t)
    (hdb : (x == ("__debug__" : Str)) = false := by decide) (he : starEach (e :: es) X.env = (false, eval e X.env) :: starEach es X.env := by rfl) (hpl : (backTo pos (starEach es X.env)).any (·.1) = false := by rfl) :
    PE X (.Call (.Name x p) (e :: es) [] pos) (tCa sp E t) := by
  refine ⟨fun pins s σ H Q I h => ?_⟩
  obtain ⟨f, hm, kp⟩ := c.at_
  refine wpAny_Call_Name_kw (ld_glob I hg hm ?_ hdb)
  exact PySem.W.callWith_K (h₀ := X.base) I.ok.mod.kin kp (thn (ha.run pos pins s σ H _ I h) fun us s1 ⟨vs, H1, I1, r, q⟩ => ⟨I1.kIn, run_ca c hG hr hk hx hm I1 r q⟩) he hpl
/-- x() -/
theorem pe_ca0 (c : Ca (.of X) g j x n sp) (hG : g = true → X.A.guards = some []) (hr : Room k X.A) (hk : j ≤ k) (hx : Passes (L2.CX X.prog X.w) X E) (hg : Gl X x) (hdb : (x == ("__debug__" : Str)) = false := by decide) :
    PE X (.Call (.Name x p) [] [] pos) (tCa sp E tNil) := by
  refine ⟨fun pins s σ H Q I h => ?_⟩
  obtain ⟨f, hm, kp⟩ := c.at_
  refine wpAny_Call_Name_kw (ld_glob I hg hm ?_ hdb)
  exact PySem.W.callWith_K0 I.kIn kp (run_ca (us := []) c hG hr hk hx hm I .nil h)
end
/-- the context of a def's body -/
abbrev bodyCx (D : Wd) (N : List Str) (x : Str) (sc : Scope) (f : Addr) (cdv : Value) (A : Around) (outer : List Env) (s : Shared) (H : Hp) (E : XK) : Cx := cxOf (L2.CX D.P D.w) D.P D.w D.K D.mg D.base N x sc f cdv A outer s H E
/-- THE RULE for a def -/
theorem ca_mk (g : Bool) {D : Wd} {x : Str} {st : Stmt} {f : Addr} {fd : FuncData} {N ps : List Str} {k : Nat} {sp : Sp} (F : FunD D.K x x (defArgs st) (defBody st) (defScope st) [] [] f fd) (gm : D.mg x = some (.ref f)) (S : FnScope N ps (defScope st))
    (hb : Binds D.K fd ps []) (len : ∀ vs H Q E, sp vs H Q E → vs.length = ps.length)
    (hbody : ∀ (cdv : Value) (A : Around) (outer : List Env) (s : Shared) (H : Hp) (vs : List V) (Q : VK) (E : XK), (g = true → A.guards = some []) → Room k (bodyCx D N x (defScope st) f cdv A outer s H E).A → sp vs H Q E →
      ∃ t, PSs (bodyCx D N x (defScope st) f cdv A outer s H E) (defBody st) t ∧ t { nx := fun _ H' => Q .non H', rt := Q } (L2.start N vs) H) : Ca D g (k + 1) x ps.length sp := by
  obtain ⟨oc, od, dV, kV, doc, pm, an, cdv, ct, osl, rfl, lk, hcd, _, _⟩ := F.ex
  exact ⟨f, _, ps, gm, F.kp, hb, rfl, len, fun A outer s H args us vs Q E hg hr e0 hbt r hsp =>
    LamX.run_ofS lk hcd S hr e0 hbt r (len _ _ _ _ hsp) fun hr' => hbody cdv A outer s H vs Q E hg hr' hsp⟩

/-! ### repr of data -/
section
variable {X : Cx}
structure Shows (K : PySem.W.Frag) (H : Hp) (x : V) (d : PyData) : Prop where
  dp : Dp K H x d
  sh : SeqAt.shaped d = true
  ok : d.showable = true
  sz : d.shown.length ≤ sizeLine
theorem shaped_lay {d : PyData} (h : SeqAt.shaped d = true) : d.canLay0 = true ∧ d.depth ≤ 64 := by
  have h2 : (d.canLay0 && decide (d.depth ≤ 64)) = true := h
  obtain ⟨a, b⟩ := Bool.and_eq_true_iff.mp h2
  exact ⟨a, of_decide_eq_true b⟩
def rRepr (K : PySem.W.Frag) : List V → Hp → VK → Prop := fun xs H Q => ∃ x d, xs = [x] ∧ Shows K H x d ∧ Q (.str d.shown) H
theorem call_repr (hG : X.A.guards = some []) (hu : X.A.units + 66 < cLine) : CallR X (.builtin "repr") (rRepr X.K) := by
  intro pins s σ H xs us Q I r h
  obtain ⟨x, d, rfl, S, q⟩ := h
  obtain ⟨u, rfl, rx⟩ := vals1 r
  obtain ⟨as, rd⟩ := Dp.reads I d x u S.dp rx
  have ok := S.ok
  have sz := S.sz
  have hd := PyData.hasDict_of_canLay d (shaped_lay S.sh).1
  have dep := (shaped_lay S.sh).2
  have fin : ∀ tk t, EP X pins σ Q (.str d.shown t) { s with toks := tk } := fun tk t => ⟨.str d.shown, H, I.tok _, ⟨_, rfl⟩, q⟩
  cases d with
  | none =>
    cases rd
    exact P.repr_of_none (fin _ _)
  | bool b =>
    cases rd
    exact P.repr_of_bool (by have z := fin (s.toks + 1) s.toks; cases b <;> exact z)
  | int i =>
    cases rd
    have z : i.natAbs.log2 < 1920 := by simpa [PyData.showable] using ok
    exact P.repr_of_int z (fin _ _)
  | str z =>
    cases rd
    exact P.repr_of_str (fin _ _) (by simpa [PyData.shown] using sz)
  | list xs =>
    obtain ⟨a, rfl⟩ : ∃ a, u = .ref a := by cases rd; exact ⟨_, rfl⟩
    exact repr_of_reads' rd ok (fun z => by rw [hd] at z; cases z) hG (by omega) (fun _ _ z => z) (fun h' u tk k => ⟨.str _, H, I.kept (t' := tk) k, ⟨_, rfl⟩, q⟩) sz
  | tuple xs =>
    obtain ⟨a, rfl⟩ : ∃ a, u = .ref a := by cases rd; exact ⟨_, rfl⟩
    exact repr_of_reads' rd ok (fun z => by rw [hd] at z; cases z) hG (by omega) (fun _ _ z => z) (fun h' u tk k => ⟨.str _, H, I.kept (t' := tk) k, ⟨_, rfl⟩, q⟩) sz
  | dict kvs =>
    have z := (shaped_lay S.sh).1
    simp [PyData.canLay0] at z
/-! ### a text so many times -/
def rMulS : R2 := fun x y H Q => ∃ z n, x = .str z ∧ y = .int n ∧ MulOk z n ∧ Q (.str (Txt.mul z n)) H
theorem op_mul_str : OpR X (binaryOp .Mult) rMulS := by
  intro pins s σ H x y v u Q I rx ry h
  obtain ⟨z, n, rfl, rfl, ok, q⟩ := h
  obtain ⟨t, rfl⟩ := rx
  obtain ⟨t', rfl⟩ := ry
  exact SB.mul ok fun t' k => ⟨.str _, H, I.tok _, ⟨_, rfl⟩, q⟩
end
end Q
namespace Q
open PySem PySem.Spec PyProof.Rows L2
/-! ### __init__ of an exception: super().__init__(text), then self.f = f -/
def spIni (C : Addr) (f : Str) : Sp := fun vs H Q _ => ∃ (a : Addr) (v : V), vs = [.ref a, v] ∧ H a = some (exo a C none) ∧ ∀ dx, H dx = none → dx ≠ a → Q .non (upd (upd H dx (exd dx [(f, v)])) a (exo a C (some dx)))
/-- what stands in the written part -/
structure IniC (P : Program) (K : PySem.W.Frag) (mg : Str → Option Value) (C fI : Addr) (f : Str) (fd : FuncData) : Prop where
  ex : ∃ (q msg : Str) (params : Arguments) (scope : Scope) (oc kV doc pm ct ccl cl : Value) (od an cdd cld : Option Addr) (osl ccs csl : Array (Option Value)) (vs : Array Value) (file : Str) (tf : Tok) (cda cc : Addr) (j : Nat) (ar : Arg) (p0 p1 p2 p3 p4 p5 p6 p7 p8 p9 : Pos),
    fd = PySem.W.ksFn "__init__" q params
      [.Expr (.Call (.Attribute (.Call (.Name "super" p0) [] [] p1) "__init__" p2) [.Constant (.str msg) j p3] [] p4) p5, .Assign [.Attribute (.Name "self" p6) f p7] (.Name f p8) p9] scope .none kV doc pm an (.ref cda) ct cc ∧
    K.lookup fI = some ⟨oc, od, .func fd, osl⟩ ∧ PySem.W.codeIn K (.ref cda) q = true ∧
    (params.posonlyargs ++ params.args).head? = some ar ∧ ar.arg = "self" ∧ K.lookup cda = some ⟨ccl, cdd, .fields vs, ccs⟩ ∧ vs[2]? = some (.str file tf) ∧ ((P.main.file : Str) == file) = true ∧
    K.lookup cc = some ⟨cl, cld, .cell (some (.ref C)), csl⟩ ∧ scope.kind = .function ∧ scope.isCoroutine = false ∧ scope.isGenerator = false ∧ (∀ x ∈ scope.names, x.2 ≠ .cell) ∧
    scope.names.lookup ("super" : Str) = some .globalImplicit ∧ scope.names.lookup ("__class__" : Str) = some .free ∧ scope.names.lookup ("self" : Str) = some .local ∧ scope.names.lookup f = some .local ∧
    ∃ pl : Env → Sem Bool, ∀ en : Env, eval (.Call (.Attribute (.Call (.Name "super" p0) [] [] p1) "__init__" p2) [.Constant (.str msg) j p3] [] p4) en = (do
      let ov ← attributeBase (.Call (.Name "super" p0) [] [] p1) "__init__" en (eval (.Call (.Name "super" p0) [] [] p1) en)
      standAt p2.atName
      let (f, first) ← holding [ov] (getMethod ov "__init__" (pl en))
      callWith p4 f first (backTo p4 (starEach [.Constant (.str msg) j p3] en)) [])
  nf : f ≠ ("self" : Str)
  dbg : (f == ("__debug__" : Str)) = false
  mgs : mg "super" = none
  top : (P.main.scope.names.lookup ("super" : Str)).isSome = false
  oex : OexC K C
  sup : PySem.W.ks_superIn K C C "__init__" = some (some (.builtin "ValueError.__init__"))
  ve : PySem.W.subIn K (.ref C) (.type "ValueError") = some true
  me : PySem.W.mroIn K C (.ref C) = some true
  any_ : PySem.W.nsIn K cStatics "thirdparty.any" = some none
  no : PySem.W.findIn K (.ref C) f = some none
theorem call_mw {P : Program} {w : World} {A : Around} {E : Value → Shared → Prop} {h : Heap} {g : Array GenState} {d : Drawn} {t : Nat} {os : OsState} {nm q : Str} {C N : Addr} {bs bm : List Value} {hdct : Bool} {sn : List Str} {sub : List Value}
    {ab : Bool} {col : Option Bool} {dd : Option Addr} {k0 k1 k2 k3 k5 : Option Value} {m a t0 : Addr} {rest : List Value} {Q : Value → Shared → Prop}
    (hC : h.get? C = some (excClassObj nm q C N bs bm hdct sn sub ab col dd k0 k1 k2 k3 k5 "ValueError.__new__"))
    (ha : h.get? a = some { cls := .ref C, data := .fields #[.ref t0, .none, .none, .none, .bool false, .none] }) (hm : h.get? m = some (PySem.W.kxs_mw "ValueError.__init__" a)) (hl : rest.length ≤ sizeLine)
    (hq : ∀ h' t1, (∀ b o, b ≠ a → h.get? b = some o → h'.get? b = some o) → h'.get? a = some { cls := .ref C, data := .fields #[.ref t1, .none, .none, .none, .bool false, .none] } → Q .none ⟨h', g, d, t, os⟩) :
    wpAny (model P w) A (call (.ref m) rest) Q E ⟨h, g, d, t, os⟩ := by
  have FB := F.excBase_ValueError
  refine wpAny_call (codeAny_of_tree ?_)
  show wpAny _ A.in1 (callAny (.ref m) ⟨rest, []⟩) _ _ _
  simp only [callAny]
  refine wpAny_bind (wpAny_load hm ?_)
  refine PySem.W.KFB.if_so (by rfl) ?_
  refine wpAny_bind (PySem.W.check_bound_init FB.toExcCallFacts hC ha rfl ?_)
  refine wpAny_bind (wpAny_pure (wpAny_pure ?_))
  refine ⟨plainId_quiet FB.init.plain _, codeAny_builtin FB.initEntry ?_⟩
  exact PySem.W.exc_init_tree (cls := .ref C) (t0 := t0) (dv := none) (c2 := .none) (c3 := .none) (b4 := .bool false) ha hl fun h' k' e1 _ => hq h' _ k' e1
theorem ini_ok {P : Program} {w : World} {K : PySem.W.Frag} {mg : Str → Option Value} {base : Heap} {CX : CXT} {k : Nat} {C fI : Addr} {f : Str} {fd : FuncData} (T : IniC P K mg C fI f fd) : FnOk P w K mg base CX k fI fd ["self", f] (spIni C f) := by
  refine ⟨fun vs H Q E h => by obtain ⟨a, v, rfl, _⟩ := h; rfl, fun A outer s H args us vs Q E hr e0 hbt r hsp => ?_⟩
  obtain ⟨a, v, rfl, ha, k⟩ := hsp
  obtain ⟨ua, u, rfl, rfl, rv⟩ := vals2 r
  obtain ⟨q, msg, params, scope, oc, kV, doc, pm, ct, ccl, cl, od, an, cdd, cld, osl, ccs, csl, cvs, file, tf, cda, cc, j, ar, p0, p1, p2, p3, p4, p5, p6, p7, p8, p9, rfl, lk, hcd, hpar, har, hcode, hcvs, hfile, hcell, hk, hco, hgen, hnc, ls, lc, lse, lf, pl, hline⟩ := T.ex
  have kb : ∀ b o, base.get? b = some o → s.heap.get? b = some o := fun b o e => (e0.bs b o e).1
  have KX : K.In s.heap := e0.mod.kin.keeps kb
  have lim : s.heap.NoLimit := e0.mod.nolimit.keeps kb
  refine ks_codeAny_call_defAt hr.depth (KX _ _ lk) rfl lim (PySem.W.codeRec_of KX hcd) rfl hbt hnc (fun y hy => ?_) (fun h₁ hns hk₁ => ?_) hco hgen hk
  · have hy2 : y = (("self" : Str), Value.ref a) ∨ y = (f, u) := by simpa using hy
    rcases hy2 with rfl | rfl
    · exact lse
    · exact lf
  · -- the body
    have kb1 : ∀ b o, base.get? b = some o → h₁.get? b = some o := fun b o e => hk₁ b o (kb b o e)
    have KX1 : K.In h₁ := e0.mod.kin.keeps kb1
    have b1 : (("self" : Str) == f) = false := beq_eq_false_iff_ne.mpr (Ne.symm T.nf)
    have m1 : ((["self", f] : List Str).zip [Value.ref a, u]).reverse.lookup ("self" : Str) = some (.ref a) := by
      show List.lookup ("self" : Str) [(f, u), (("self" : Str), Value.ref a)] = some (.ref a)
      rw [List.lookup_cons, b1]
      rfl
    have m2 : ((["self", f] : List Str).zip [Value.ref a, u]).reverse.lookup f = some u := by
      show List.lookup f [(f, u), (("self" : Str), Value.ref a)] = some u
      rw [List.lookup_cons, beq_self_eq_true]
    obtain ⟨mb, hmb, hmb2⟩ := e0.mod.blt
    obtain ⟨t1, hoa⟩ := exo_at e0.hok ha
    have hoa1 := hk₁ _ _ hoa
    obtain ⟨nm, qn, N, bs, bm, sn, sub, ab, col, dd, k0, k1, k2, k3, k5, hC, hbm⟩ := T.oex.cls
    have hcl : PySem.W.clsIn K C = some { name := nm, bases := bs, mro := .ref C :: bm, ns := N, qualname := qn, hasDict := true, slotNames := sn, subclasses := sub, abstract := ab, collection := col, hasDel := false } := by unfold PySem.W.clsIn; rw [hC] <;> rfl
    have hCo := KX1 _ _ hC
    have xC : a ≠ C := fun z => by
      rw [z, hCo] at hoa1
      cases hoa1
    have sup : PySem.W.alongIn K "__init__" (((Value.ref C :: bm).dropWhile (· != .ref C)).drop 1) = some (some (.builtin "ValueError.__init__")) := by
      have z := T.sup
      unfold PySem.W.ks_superIn at z
      rw [hcl] at z
      exact z
    refine ks_wpAt_execs_cons (ks_wpAt_Expr_any (ks_wpAt_MethodCall (ks_wpAt_super_base ls lc rfl rfl (KX1 _ _ lk) rfl hpar rfl (KX1 _ _ hcode) rfl hcvs hfile T.top ?_) (hline _)) (by unfold interactive; rw [show (callEnv (PySem.W.ksFn "__init__" q params _ scope .none kV doc pm an (.ref cda) ct cc) s.heap.objs.size fI).scope.kind = .function from hk]; rfl) rfl)
    refine PySem.W.ks_loadName_global hk ls (Calls.loadGlobal_builtin (e0.mod.glob.keeps kb1) T.mgs (hmb.keeps kb1) ((hmb2 _ (by decide +kernel)).trans (by decide +kernel)) ⟨rfl, ?_⟩)
    refine wpAny_loadName_free (c := cc) hk lc rfl ⟨_, KX1 _ _ hcell, rfl⟩ ?_
    refine wpAny_loadName_local hk (by rw [har]; exact lse) hns (v := .ref a) (by rw [har]; exact m1) ?_
    refine ks_wpAny_isType_cls hCo rfl ⟨rfl, ?_⟩
    refine ks_wpAny_call_super hCo rfl hoa1 rfl (fun c z => nomatch z) (PySem.W.looks_mroIn KX1 T.me) (fun h₂ e₂ k₂ => ?_)
    have KX2 : K.In h₂ := KX1.keeps k₂
    have hoa2 := k₂ _ _ hoa1
    have I2 : PySem.W.InstAt h₂ a { cls := .ref C, data := .fields #[.ref t1, .none, .none, .none, .bool false, .none] } C none := ⟨hoa2, rfl, rfl, trivial⟩
    refine PySem.W.kxs_getMethod PySem.W.kxs_ValueError e₂ (PySem.W.looks_opaque KX2 T.any_) (l₀ := .ref C :: bm) ((PySem.W.looks_clsIn KX2 hcl).andThen .now) rfl KX2 sup (I2.type.andThen (PySem.W.looks_subIn KX2 T.ve)) xC rfl ?_
    have e₃ : (h₂.push (PySem.W.kxs_mw "ValueError.__init__" a)).get? h₂.objs.size = some (PySem.W.kxs_mw "ValueError.__init__" a) := Heap.get?_push_at rfl rfl
    have k₃ : ∀ b o, h₂.get? b = some o → (h₂.push (PySem.W.kxs_mw "ValueError.__init__" a)).get? b = some o := fun b o e => Heap.get?_push_of_some _ e
    refine PySem.W.kxs_callWith (i := "ValueError.__init__") (x := a) rfl ?_
    refine Calls.evalArgs_plain ?_
    show wpAny _ _ (spliced ((false, eval (.Constant (.str msg) j p3) _) :: [])) _ _ _
    refine Calls.spliced_cons (Calls.Constant_str (Calls.spliced_nil ⟨e₃, ?_⟩))
    have KX3 : K.In (h₂.push (PySem.W.kxs_mw "ValueError.__init__" a)) := KX2.keeps k₃
    refine call_mw (t0 := t1) (KX3 _ _ hC) (k₃ _ _ hoa2) e₃ (by show 1 ≤ sizeLine; rw [sizeLine_eq]; decide) fun h₄ t2 k₄ e₄ => ?_
    refine wpAt_of_wpAny ?_
    have ltL : ∀ {b : Addr} {o : Obj}, s.heap.get? b = some o → b ≠ s.heap.objs.size := fun e => Nat.ne_of_lt (Heap.lt_size e)
    have up1 : ∀ b o, b ≠ a → h₁.get? b = some o → h₄.get? b = some o := fun b o hb e => k₄ b o hb (k₃ _ _ (k₂ _ _ e))
    have hns4 : h₄.Ns s.heap.objs.size fun x => ((["self", f] : List Str).zip [Value.ref a, u]).reverse.lookup x := by
      obtain ⟨o, es, ep, ho, rest⟩ := hns
      exact ⟨o, es, ep, up1 _ _ (fun z => ltL hoa z.symm) ho, rest⟩
    have KX4 : K.In h₄ := fun b o e => up1 b o (fun z => by
      have z2 := (e0.bs b o (e0.mod.kin b o e)).2
      rw [z, ha] at z2
      cases z2) (KX1 b o e)
    refine wpAny_execs_cons (plainObj_wpAny_Assign_Attribute (wpAny_Name (wpAny_loadName_local hk lf hns4 m2 (wpAny_Name (wpAny_loadName_local hk lse hns4 m1 ?_) (by decide))) T.dbg) rfl)
    refine PySem.W.set_plain KX4 (ox := { cls := .ref C, dict := none, data := .fields #[.ref t2, .none, .none, .none, .bool false, .none] }) (od := none) ⟨e₄, rfl, rfl, trivial⟩ T.oex.sa ?_
    refine PySem.HandSPX.exc_osa KX4 e₄ hcl (show PySem.HandSPX.refsVE (.ref C :: bm) = true from hbm) rfl T.no (fun h5 tk' dx k5 dn dne hx hn => ?_)
    have kk : ∀ b o, b ≠ a → s.heap.get? b = some o → h5.get? b = some o := fun b o hb e => k5 b o hb (up1 b o hb (hk₁ b o e))
    have gone : s.heap.get? dx = none := by
      cases q : s.heap.get? dx with
      | none => rfl
      | some o => exact absurd (Nat.lt_of_lt_of_le (Heap.lt_size (up1 _ _ dne (hk₁ _ _ q))) dn) (Nat.lt_irrefl _)
    have hnd : H dx = none := e0.hok.gone gone
    refine wpAny_execs_nil ?_
    have na : ∀ {b : Addr}, H b = none → b ≠ a := fun n z => by
      rw [z, ha] at n
      cases n
    have nd : ∀ {b : Addr} {o : Obj}, s.heap.get? b = some o → b ≠ dx := fun q z => by
      rw [z, gone] at q
      cases q
    have Un1 : Un (frs outer) [] H (upd (upd H dx (exd dx [(f, v)])) a (exo a C (some dx))) s.heap h5 := {
      keep := fun b o q n _ _ => kk b o (na n) q
      slot := fun b o q n _ _ => ⟨o.slots, kk b o (na n) q⟩
      free := fun b o q n _ => by rw [upd_ne (na n), upd_ne (nd q)]; exact n
      there := fun b o q _ => by
        by_cases hb : b = a
        · exact ⟨_, by rw [hb]; exact hx⟩
        · exact ⟨o, kk b o hb q⟩
      tups := fun b xs q => by rw [upd_ne (L2.at_ne ha q exo_tup), upd_ne (ne_of_none q hnd)]; exact q
      frzs := fun b o v q => by rw [upd_ne (L2.at_ne ha q exo_frz), upd_ne (ne_of_none q hnd)]; exact q
      tbls := fun b ps q => ⟨#[], by rw [upd_ne (L2.at_ne ha q exo_tbl), upd_ne (ne_of_none q hnd), q]; simp⟩ }
    refine ⟨.non, _, rfl, e0.bare, Un1, fun b o q => ?_, rfl, k dx hnd dne⟩
    by_cases hb : b = a
    · subst hb
      rw [upd_same] at q
      cases q
      exact exo_ok hx
    · rw [upd_ne hb] at q
      by_cases hd : b = dx
      · subst hd
        rw [upd_same] at q
        cases q
        exact exd_ok hn (relO_put (fs := []) rv fun g => True.intro)
      · rw [upd_ne hd] at q
        exact (e0.hok b o q).stay (fun c v hc z => kk c v (by
            rcases hc with hc | hc
            · rw [hc]
              exact hb
            · exact L2.at_ne ha hc exo_own) z)
          (fun c hc => by rw [upd_ne (L2.at_ne ha hc exo_own), upd_ne (ne_of_none hc hnd)]; exact hc) (fun c xs hc => by rw [upd_ne (L2.at_ne ha hc exo_tup), upd_ne (ne_of_none hc hnd)]; exact hc)
end Q
namespace Q
open PySem PySem.Spec PyProof.Rows L2
/-! ### a caught exception that is kept -/
/-- at a: an exception of the class cls, its own dict (if any) at d -/
def ExT (cls : Value) (d : Option Addr) (a : Addr) : HO := .ext fun h => ∃ (oe : Obj) (vs : Array Value), h.get? a = some oe ∧ Zc cls d oe ∧ oe.data = .fields vs
theorem exT_ok {P : Program} {w : World} {H : Hp} {h : Heap} {a : Addr} {cls : Value} {d : Option Addr} {oe : Obj} {vs : Array Value} (e : h.get? a = some oe) (z : Zc cls d oe) (v : oe.data = .fields vs) : ObjOk P w H h a (ExT cls d a) :=
  ⟨⟨oe, vs, e, z, v⟩, ⟨oe, e⟩, fun _ _ ⟨o, v, q, r⟩ k => ⟨o, v, k o q, r⟩⟩
theorem exT_at {P : Program} {w : World} {H : Hp} {h : Heap} {a : Addr} {cls : Value} {d : Option Addr} (hok : HOk P w H h) (e : H a = some (ExT cls d a)) : ∃ (oe : Obj) (vs : Array Value), h.get? a = some oe ∧ Zc cls d oe ∧ oe.data = .fields vs := by
  have x : ObjOk P w H h a (.ext fun h => ∃ (oe : Obj) (vs : Array Value), h.get? a = some oe ∧ Zc cls d oe ∧ oe.data = .fields vs) := hok a _ e
  exact x.1
section
variable {X : Cx} {pins : List (Addr × Obj)} {σ : L2.St} {H : Hp} {s : Shared}
/-- an object that is pinned, and was not there at the entry, is tracked from now on -/
theorem inv_track {a : Addr} {oe : Obj} {vs : Array Value} {cls : Value} {d : Option Addr} (I : Inv X ((a, oe) :: pins) σ H s) (hd : oe.data = .fields vs) (hz : Zc cls d oe) (h0 : X.s_0.heap.get? a = none) (hp : ∀ p ∈ X.pn ++ pins, p.1 ≠ a) :
    Inv X pins σ (upd H a (ExT cls d a)) s := by
  obtain ⟨ha, na, nl, nf, _⟩ := I.pin (a, oe) (List.mem_append_right _ List.mem_cons_self)
  have ne0 : ∀ b o, X.s_0.heap.get? b = some o → b ≠ a := fun b o e z => by
    rw [z, h0] at e
    cases e
  refine ⟨I.ok, I.os, I.bare, ⟨I.base.keep, I.base.slot, fun b o e n hx => ?_, I.base.there, fun b xs e => ?_, fun b o u e => ?_, fun b ps e => ?_⟩, I.loc, I.cell, ?_, fun x c e => ?_, fun p hm => ?_, ?_, I.len⟩
  · rw [upd_ne (ne0 b o e)]
    exact I.base.free b o e n hx
  · have q := I.base.tups b xs e
    rw [upd_ne (ne_of_none q na)]
    exact q
  · have q := I.base.frzs b o u e
    rw [upd_ne (ne_of_none q na)]
    exact q
  · obtain ⟨m, q⟩ := I.base.tbls b ps e
    exact ⟨m, by rw [upd_ne (ne_of_none q na)]; exact q⟩
  · rw [upd_ne (Ne.symm nl)]
    exact I.free
  · have hc : c ≠ a := fun z => by
      obtain ⟨v, o, ho, hv⟩ := I.cell x c e
      have ho2 : s.heap.get? a = some o := by rw [← z]; exact ho
      rw [ha] at ho2
      cases ho2
      rw [hd] at hv
      cases hv
    rw [upd_ne hc]
    exact I.freeC x c e
  · have hm2 : p ∈ X.pn ++ (a, oe) :: pins := by
      rcases List.mem_append.mp hm with z | z
      · exact List.mem_append_left _ z
      · exact List.mem_append_right _ (List.mem_cons_of_mem _ z)
    obtain ⟨e, n, ne, nf', dd⟩ := I.pin p hm2
    exact ⟨e, by rw [upd_ne (hp p hm)]; exact n, ne, nf', dd⟩
  · exact I.hok.laidN (fun _ _ z => z) na (exT_ok ha hz hd)
end
/-- what «except x as n: y = n» wishes, i the place of n, j of y -/
def wKeep (K : PySem.W.Frag) (c : Value) (i j : Nat) (Wout : WX) (D : Ends) : WX := fun cls d σ H =>
  ∃ b, PySem.W.exmOne K cls c = some b ∧ (b = true → ∀ a, H a = none → D.nx (((σ.set i (some (.ref a))).set j (some (.ref a))).set i none) (upd H a (ExT cls d a))) ∧ (b = false → Wout cls d σ H)
section
variable {X : Cx} {x n y : Str} {c : Value} {i j : Nat} {body : List Stmt} {np pos pos' q1 q2 q3 : Pos} {tb : WX → TS} {Wout : WX}
theorem ps_try_keep (hs : X.stack = X.env :: X.outer) (hex : X.ex = []) (hf : X.env.frame = some X.env.locals) (hN : X.N.Nodup) (hi : X.N[i]? = some n) (hln : X.env.kindOf n = some .local) (hj : X.N[j]? = some y) (hly : X.env.kindOf y = some .local)
    (hd1 : (n == ("__debug__" : Str)) = false) (hd2 : (n == ("__classdict__" : Str)) = false) (hlen : i < X.N.length)
    (hc : Names X x c) (tk : Takes X Wout)
    (hb : ∀ (W : WX) (pn : List (Addr × Obj)) (xe : Value → Shared → Prop), Takes (X.tr pn xe) W → PassesOwn (model X.prog X.w) X.A X.env xe → PSs (X.tr pn xe) body (tb W)) :
    PS X (.Try body [.ExceptHandler (some (.Name x np)) (some n) [.Assign [.Name y q1] (.Name n q2) q3] pos'] [] [] pos) (fun D σ H => tb (wKeep X.K c i j Wout D) D σ H) := by
  refine ⟨fun pins s σ H D I h => ?_⟩
  have ok := I.ok
  have hfr : X.A.frames = some (X.env :: X.outer) := by rw [ok.frames, hs]
  refine wpAny_Try_except (wpAny_mono ((hb (wKeep X.K c i j Wout D) (X.pn ++ pins) _ (fun u s' xx => ?_) PassesOwn.looking).run [] s σ H D (I.toTry _) h) (fun f s1 hsp => ?_) fun _ _ z => z)
  · obtain ⟨a, B, sI, pins', σ', H', cls, d, rfl, J', nb, up, sky, na, os, ag, b, hb1, hyes, hno⟩ := xx
    have J : Inv X pins σ' H' sI := J'.ofTry ok
    have sky' : Sky B (X.env :: X.outer) a (Zc cls d) X.env.locals s'.heap := by rw [← hs]; exact sky
    show wpAny (model X.prog X.w) X.A (noteFrame (.ref a) X.env) _ _ _
    have B0 : B.get? a = none := by
      rcases sky with z | z | z
      · exact z.2.1
      · exact z.2.1
      · exact z.2.1
    refine Sky.land Zc.steady hfr hf sky' fun h3 fl3 up3 => ?_
    have J3 : Inv X pins σ' H' { s' with heap := h3 } := J.landed nb fl3.1 (up.trans up3) os ag
    obtain ⟨oe3, vs3, he3, hz3, hd3⟩ := fl3.there
    have nfr : a ∉ frs (X.env :: X.outer) := fun hm => by
      obtain ⟨_, o', e', hnf⟩ := fl3.2.2.1.mem hm
      rw [he3] at e'
      cases e'
      exact hnf _ hd3
    have nfs : a ∉ frs X.stack := by rw [hs]; exact nfr
    have nL : a ≠ X.env.locals := fun z => nfr (List.mem_filterMap.mpr ⟨X.env, List.mem_cons_self, by rw [hf, z]⟩)
    have nF : a ∉ X.fs := fun hm => by
      obtain ⟨e, he, q⟩ := List.mem_filterMap.mp hm
      exact nfr (List.mem_filterMap.mpr ⟨e, List.mem_cons_of_mem _ he, q⟩)
    have I0 : sI.heap.get? a = none := by
      cases q : sI.heap.get? a with
      | none => rfl
      | some o =>
        rw [nb a o q nfs] at B0
        cases B0
    have S0 : X.s_0.heap.get? a = none := by
      cases q : X.s_0.heap.get? a with
      | none => rfl
      | some o =>
        obtain ⟨o', z⟩ := J.base.there a o q (by rw [hex]; exact fun z => nomatch z)
        rw [I0] at z
        cases z
    have P0 : ∀ p ∈ X.pn ++ pins, p.1 ≠ a := fun p hp z => by
      have q := (J.pin p hp).1
      rw [z, I0] at q
      cases q
    have S3 := J3.suite he3 hd3 na nL nF
    refine wpAny_handleBy_cons (codeAny_handlers_test ?_) (by intro q; cases q)
    have LT : PySem.W.Looks (model X.prog X.w) h3 (typeOf (.ref a)) cls := fun A Q E s k q => wpAny_typeOf_ref (k _ _ he3) (by rw [hz3.1]; exact q)
    have LM := PySem.W.exm_one (M := model X.prog X.w) (J3.kIn) LT hb1
    have test : ∀ {Q : Value → Shared → Prop} {E : Value → Shared → Prop}, Q c { s' with heap := h3 } → wpAny (model X.prog X.w) (X.A.mark (some (.ref a))) (eval (.Name x np) X.env) Q E { s' with heap := h3 } := fun {Q E} q => by
      obtain ⟨hg, hdbg, hm | ⟨hm, hv, hnn⟩⟩ := hc
      · exact ld_glob (X := X.suite a ((a, oe3) :: (X.pn ++ pins))) S3 hg hm q hdbg
      · exact ld_blt (X := X.suite a ((a, oe3) :: (X.pn ++ pins))) S3 hg hm hv q hnn hdbg
    refine test (LM.here ?_)
    cases b with
    | true =>
      refine codeAny_handlers_suite_as ?_
      refine HandSPX.lands_againZ fl3 fun h4 fl4 up4 => ?_
      have J4 : Inv X pins σ' H' { s' with heap := h4 } := J.landed nb fl4.1 ((up.trans up3).trans up4) os ag
      obtain ⟨oe4, vs4, he4, hz4, hd4⟩ := fl4.there
      have S4 := J4.suite he4 hd4 na nL nF
      refine store_ok (X := X.suite a ((a, oe4) :: (X.pn ++ pins))) (v := .ref a) S4 hN hi (.inl hln) rfl (fun s5 S5 => ?_) (.inr hln)
      have one : PSs (X.suite a ((a, oe4) :: (X.pn ++ pins))) [.Assign [.Name y q1] (.Name n q2) q3] (tAsg (tVar i) (gName j)) :=
        pss_one (ps_set hN hj (.inl hly) (pe_var hi (.inl hln) hd1 hd2) rfl (.inr hly))
      have lσ : i < σ'.length := by rw [J.len]; exact hlen
      refine wpAny_mono (one.run [] s5 _ H' { nx := fun σ6 H6 => σ6 = (σ'.set i (some (.ref a))).set j (some (.ref a)) ∧ H6 = H', rt := fun _ _ => False } S5 ⟨.ref a, List.getElem?_set_self lσ, rfl, rfl⟩) (fun f s6 hsp => ?_) fun _ _ z => False.elim z
      cases f with
      | next =>
        obtain ⟨σ6, H6, S6, e1, e2⟩ := hsp
        subst e1 e2
        have K6 : Inv X ((a, oe4) :: pins) ((σ'.set i (some (.ref a))).set j (some (.ref a))) H6 s6 := ⟨ok, S6.os, S6.bare, S6.base, S6.loc, S6.cell, S6.free, S6.freeC, fun p hp => S6.pin p (by
          rcases List.mem_append.mp hp with z | z
          · exact List.mem_append_left _ (List.mem_cons_of_mem _ (List.mem_append_left _ z))
          · rcases List.mem_cons.mp z with z | z
            · rw [z]
              exact List.mem_append_left _ List.mem_cons_self
            · exact List.mem_append_left _ (List.mem_cons_of_mem _ (List.mem_append_right _ z))), S6.hok, S6.len⟩
        exact gone_ok K6 hN hi hln fun s7 J7 => ⟨_, _, inv_track J7 hd4 hz4 S0 P0, hyes rfl a na⟩
      | brk => obtain ⟨_, _, _, z⟩ := hsp; exact z.elim
      | cont => obtain ⟨_, _, _, z⟩ := hsp; exact z.elim
      | ret u => obtain ⟨_, _, _, _, _, z⟩ := hsp; exact z.elim
    | false =>
      show wpAny _ X.A (handleBy (.ref a) X.env []) _ _ _
      refine wpAny_handleBy_nil ?_
      obtain ⟨_, _, _, oe, vs, T, oT, ts', he, hz, hd, h1, hr⟩ := id fl3
      unfold PySem.passOn
      refine wpAny_bind (wpAny_field he hd h1 ?_)
      rw [if_neg (show ¬ ((Value.ref T == Value.none) = true) from by simp)]
      have fin : wpAny (model X.prog X.w) X.A (setFlight (.ref a) X.env.frame) (fun _ s4 => wpAny (model X.prog X.w) X.A (throw (.ref a) : Sem Flow) (SP X pins D) X.xe s4) X.xe { s' with heap := h3 } := by
        rw [hf]
        refine HandSPX.setFlight_upZ fl3 fun h4 hh4 up4 => wpAny_throw (tk _ _ ?_)
        exact ⟨a, B, sI, pins, σ', H', cls, d, rfl, J, nb, (up.trans up3).trans up4, .inr (.inr (by rw [hs]; exact hh4)), na, os, ag, hno rfl⟩
      first
        | exact wpAny_bind (wpAny_pure (wpAny_bind fin))
        | exact wpAny_bind fin
  · cases f with
    | next =>
      obtain ⟨σ', H', J', q⟩ := hsp
      exact wpAny_execs_nil ⟨σ', H', J'.ofTry ok, q⟩
    | brk =>
      obtain ⟨σ', H', J', q⟩ := hsp
      exact ⟨σ', H', J'.ofTry ok, q⟩
    | cont =>
      obtain ⟨σ', H', J', q⟩ := hsp
      exact ⟨σ', H', J'.ofTry ok, q⟩
    | ret u =>
      obtain ⟨v, σ', H', J', r, q⟩ := hsp
      exact ⟨v, σ', H', J'.ofTry ok, r, q⟩
end
/-! ### a kept exception: isinstance, a field -/
/-- its own dict, if any, is known -/
def DkX (H : Hp) (d : Option Addr) : Prop := d = none ∨ ∃ dd fs, d = some dd ∧ H dd = some (.xd fs)
theorem exT_inst {P : Program} {w : World} {H : Hp} {h : Heap} {a D : Addr} {d : Option Addr} (hok : HOk P w H h) (e : H a = some (ExT (.ref D) d a)) (k : DkX H d) : ∃ oe od, PySem.W.InstAt h a oe D od := by
  obtain ⟨oe, vs, ho, hz, hd⟩ := exT_at hok e
  have no : PySem.W.notCls oe = true := by unfold PySem.W.notCls; rw [hd]
  rcases k with rfl | ⟨dd, fs, rfl, q⟩
  · exact ⟨oe, none, ho, hz.1, no, by rw [hz.2]; trivial⟩
  · obtain ⟨mA, hns, _⟩ := (show ObjOk P w H h dd (.xd fs) from hok dd _ q)
    obtain ⟨od, hod, _⟩ := lookIn_ns hns
    exact ⟨oe, some od, ho, hz.1, no, by rw [hz.2]; exact hod⟩
def rIsX (K : PySem.W.Frag) : List V → Hp → VK → Prop := fun xs H Q => ∃ (a : Addr) (c : V) (cv : Value) (D : Addr) (d : Option Addr) (b : Bool), xs = [.ref a, c] ∧ H a = some (ExT (.ref D) d a) ∧ DkX H d ∧ ExcC K D ∧ ClsV c cv ∧ PySem.W.kitOne K (.ref D) cv = some b ∧ Q (.bl b) H
section
variable {X : Cx}
theorem call_isX : CallR X (.builtin "isinstance") (rIsX X.K) := by
  intro pins s σ H xs us Q I r h
  obtain ⟨a, c, cv, D, d, b, rfl, ha, kd, C, k, e, q⟩ := h
  obtain ⟨u1, u2, rfl, r1, r2⟩ := vals2 r
  cases (show u1 = Value.ref a from r1)
  have e2 := k.eq r2
  subst e2
  obtain ⟨oe, od, J⟩ := exT_inst I.hok ha kd
  obtain ⟨cd, hcd, _⟩ := PySem.W.any_some C.hd
  exact PySem.W.kia_one (PySem.W.kitx_exc (by rw [hcd]; rfl) C.hg C.hk C.hs C.ha C.hn C.ht C.hm) I.kIn J e (fun z => nomatch z) fun tk => ⟨.bl b, H, I.tok tk, rfl, q⟩
def tXt (K : PySem.W.Frag) (te : TE) (f : Str) : TE := fun σ H Q => te σ H fun x H1 => ∃ (a C dd : Addr) (fs : List (Str × V)) (v : V), x = .ref a ∧ H1 a = some (ExT (.ref C) (some dd) a) ∧ H1 dd = some (.xd fs) ∧ XfC K C ∧ PySem.W.findIn K (.ref C) f = some none ∧ fs.lookup f = some v ∧ Q v H1
theorem pe_xt {e : Expr} {te : TE} {pos : Pos} {f : Str} (he : PE X e te) (hb : attributeBase e f X.env (eval e X.env) = eval e X.env := by rfl) : PE X (.Attribute e f pos) (tXt X.K te f) := by
  refine ⟨fun pins s σ H Q I h => ?_⟩
  refine attr_of hb (thn (he.run pins s σ H _ I h) fun u s1 hh => ?_)
  obtain ⟨x, H1, I1, rx, a, C, dd, fs, v, rfl, ha, hdd, T, hno, l, q⟩ := hh
  cases (show u = Value.ref a from rx)
  obtain ⟨oe, vs, ho, hz, hd⟩ := exT_at I1.hok ha
  obtain ⟨mA, hns, hr⟩ := (show ObjOk X.prog X.w H1 s1.heap dd (.xd fs) from I1.hok dd _ hdd)
  obtain ⟨od, hod, hl⟩ := lookIn_ns hns
  obtain ⟨u, hu, ru⟩ := RelO.some_of (v := v) (o := mA f) (by rw [← l]; exact hr f)
  have J : PySem.W.InstAt s1.heap a oe C (some od) := ⟨ho, hz.1, by unfold PySem.W.notCls; rw [hd], by rw [hz.2]; exact hod⟩
  exact HandSPX.exc_get I1.kIn J T.ga T.gg T.exC (PySem.W.findObj_own T.hdC hno rfl (by rw [hl, hu])) (handed_of ru) ⟨v, H1, I1.tok _, ru, q⟩
end
/-! ### caught = None; try: work() / except B as error: caught = error; return caught -/
def TKeep (K : PySem.W.Frag) (CB : Addr) : (XK → Hp → VK → Prop) → Hp → VK → Prop := fun tl H Q =>
  tl (fun cls d H' => ∃ b, PySem.W.exmOne K cls (.ref CB) = some b ∧ (b = true → ∀ a, H' a = none → Q (.ref a) (upd H' a (ExT cls d a))) ∧ (b = false → False)) H (fun _ H' => Q .non H')
theorem takes_len {X : Cx} {W : WX} (t : Takes X W) : Takes X (fun c d σ H => σ.length = X.N.length → W c d σ H) := fun u s' ⟨a, B, sI, pins, σ, H, cls, d, e, I, nb, up, sky, na, os, ag, w⟩ =>
  t u s' ⟨a, B, sI, pins, σ, H, cls, d, e, I, nb, up, sky, na, os, ag, w I.len⟩
theorem keep_gives {X : Cx} {x a e y b q : Str} {sg : Scope} {g CB : Addr} {cdg : Value} {j0 : Nat} {p1 p2 p3 p4 p5 p6 p7 p8 p9 p10 p11 p12 p13 p14 : Pos}
    (hnd : ([a, y, e] : List Str).Nodup) (hge : sg.names.lookup b = some .globalImplicit) (hme : X.mg b = some (.ref CB)) (hde : (b == ("__debug__" : Str)) = false)
    (hly : sg.names.lookup y = some .local) (hle : sg.names.lookup e = some .local) (hd1 : (e == ("__debug__" : Str)) = false) (hd2 : (e == ("__classdict__" : Str)) = false)
    (hd3 : (y == ("__debug__" : Str)) = false) (hd4 : (y == ("__classdict__" : Str)) = false) :
    LamX.GivesTo X [a, y, e] x sg g cdg [.Assign [.Name y p1] (.Constant .none j0 p2) p3, .Try [.Expr (.Call (.Name a p4) [] [] p5) p6] [.ExceptHandler (some (.Name b p7)) (some e) [.Assign [.Name y p8] (.Name e p9) p10] p11] [] [] p12, .Return (some (.Name y p13)) p14] a q (TKeep X.K CB) := by
  intro f c' s H Q tl act hc h
  have hgl : Gl (cxOf C8.CX0 X.prog X.w X.K X.mg X.base [a, y, e] x sg g cdg X.A X.stack s H C8.E0).nox b := hge
  refine ⟨_, pss_cons (ps_set (i := 1) hnd rfl (.inl hly) pe_non) (pss_cons
    (ps_try_keep (X := (cxOf C8.CX0 X.prog X.w X.K X.mg X.base [a, y, e] x sg g cdg X.A X.stack s H C8.E0).nox) (c := .ref CB) (i := 2) (j := 1)
      (tb := fun W D σ H => ∃ Ech : XK, (∀ (cls : Value) (d : Option Addr) (σ' : L2.St) (H' : Hp), Ech cls d H' → σ'.length = 3 → W cls d σ' H') ∧ σ[0]? = some (some (.ref f)) ∧ H c' = some (LamX.CodeO c' q) ∧ tl Ech H (fun _ H' => D.nx σ H'))
      rfl rfl rfl hnd rfl hle rfl hly hd1 hd2 (by show 2 < 3; decide) ⟨hgl, hde, .inl hme⟩ LamX.takes0 (fun W pn xe tk _ => ?_))
    (pss_one (ps_ret (pe_var (i := 1) rfl (.inl hly) hd3 hd4)))), ?_⟩
  · refine ⟨fun pins s' σ H' D I h' => ?_⟩
    obtain ⟨Ech, hW, h1, h2, h3⟩ := h'
    exact (pss_one (ps_expr (act (fun c d σ H => σ.length = 3 → W c d σ H) pn xe Ech p4 p5 (takes_len tk) fun cls d σ' H' e l => hW cls d σ' H' e l))).run pins s' σ H' D I ⟨h1, h2, h3⟩
  · refine ⟨fun cls d H' => ∃ b, PySem.W.exmOne X.K cls (.ref CB) = some b ∧ (b = true → ∀ a, H' a = none → Q (.ref a) (upd H' a (ExT cls d a))) ∧ (b = false → False), fun cls d σ' H' ⟨b, e1, e2, e3⟩ l => ⟨b, e1, fun hb a na => ?_, fun hb => e3 hb⟩, rfl, hc, ?_⟩
    · refine ⟨.ref a, ?_, e2 hb a na⟩
      match σ', l with
      | [_, _, _], _ => rfl
    · have eq : (fun (_ : V) (H' : Hp) => Q .non H') = fun (_ : V) (H' : Hp) => ∃ v, ([some (.ref f), some V.non, none] : L2.St)[1]? = some (some v) ∧ Q v H' := by
        funext _ H'
        exact propext ⟨fun q => ⟨.non, rfl, q⟩, fun ⟨v, e, q⟩ => by cases e; exact q⟩
      have h2 : tl _ H (fun _ H' => Q .non H') := h
      rw [eq] at h2
      exact h2
end Q
namespace Q
open PySem PySem.Spec PyProof.Rows L2 Evl
abbrev S (l : List Nat) : Str := SX.S l
theorem S_tl (l : List Nat) : (S l).cps.toList = l := by simp [S, SX.S]
theorem S_len (l : List Nat) : (S l).length = l.length := SX.S_len l
theorem S_size (l : List Nat) : (S l).cps.size = l.length := by simp [S, SX.S]
theorem str_S (z : Str) : z = S z.cps.toList := (SX.S_tl z).symm
/-! ### names of the module -/
section
variable {X : Cx} {x : Str} {pos : Pos}
theorem pe_gs {z : Str} (hg : Gl X x) (h : ∃ t, X.mg x = some (.str z t)) (hd : (x == ("__debug__" : Str)) = false := by decide) : PE X (.Name x pos) (tC (.str z)) := by
  obtain ⟨t, h⟩ := h
  exact pe_glob hg h ⟨t, rfl⟩ hd
theorem pe_gi {i : Int} (hg : Gl X x) (h : ∃ t, X.mg x = some (.int i t)) (hd : (x == ("__debug__" : Str)) = false := by decide) : PE X (.Name x pos) (tC (.int i)) := by
  obtain ⟨t, h⟩ := h
  exact pe_glob hg h ⟨t, rfl⟩ hd
theorem pe_gr {a : Addr} (hg : Gl X x) (h : X.mg x = some (.ref a)) (hd : (x == ("__debug__" : Str)) = false := by decide) : PE X (.Name x pos) (tC (.ref a)) := pe_glob hg h rfl hd
/-! ### list(text), text.index -/
def rListStr : List V → Hp → VK → Prop := fun xs H Q => ∃ z : Str, xs = [.str z] ∧ z.length ≤ sizeLine ∧ ∀ p, H p = none → Q (.ref p) (upd H p (.lst (z.cps.toList.map fun c => .str (S [c]))))
theorem call_list_str (hh : X.calm = true) : CallR X (.type "list") rListStr := by
  intro pins s σ H xs us Q I r h
  obtain ⟨z, rfl, hz, q⟩ := h
  obtain ⟨u, rfl, t, rfl⟩ := vals1 r
  refine PySem.call_list_str (I.ok.hd hh) z t (fun h' tk acc' c' kp e ia => ?_) hz
  have ei : acc'.toList.toArray = acc' := by simp
  refine ⟨.ref s.heap.objs.size, _, I.laid (t' := tk) kp (Nat.le_refl _) (show ObjOk X.prog X.w _ h' _ (.lst (z.cps.toList.map fun c => .str (S [c]))) from ⟨?_, acc'.toList, c', ?_, by rw [ei]; exact e⟩), rfl, q _ (I.hok.fresh (Nat.le_refl _))⟩
  · rw [List.length_map]
    exact hz
  · obtain ⟨hsz, hit⟩ := ia
    have go : ∀ (l : List Nat) (us : List Value), us.length = l.length → (∀ (j : Nat) (u : Value), us[j]? = some u → ∃ c t, l[j]? = some c ∧ u = Value.str ⟨#[c]⟩ t) → Vals (l.map fun c => V.str (S [c])) us := by
      intro l
      induction l with
      | nil =>
        intro us hl _
        have : us = [] := List.length_eq_zero_iff.mp hl
        subst this
        exact .nil
      | cons c l ih =>
        intro us hl hu
        cases us with
        | nil => cases hl
        | cons u us =>
          refine .cons ?_ (ih us (by simpa using hl) fun j v hv => ?_)
          · obtain ⟨c', t, e1, e2⟩ := hu 0 u rfl
            cases e1
            exact ⟨t, e2⟩
          · exact hu (j + 1) v hv
    refine go _ _ (by rw [Array.length_toList, Array.length_toList]; exact hsz) fun j u hu => ?_
    obtain ⟨c, t, e1, e2⟩ := hit j u (by rw [← Array.getElem?_toList]; exact hu)
    exact ⟨c, t, by rw [Array.getElem?_toList]; exact e1, e2⟩
def rIdx : V → List V → Hp → VK → Prop := fun x xs H Q => ∃ (a b : Str) (k : Nat), x = .str a ∧ xs = [.str b] ∧ Txt.index0 a b = some k ∧ Q (.int (k : Nat)) H
theorem mt_idx : MtM X "str.index" rIdx := by
  intro pins s σ H x xs v us Q I rx rs h
  obtain ⟨a, b, k, rfl, rfl, hk, w⟩ := h
  obtain ⟨t, rfl⟩ := rx
  cases rs with
  | cons r1 rs =>
    cases rs
    obtain ⟨u, rfl⟩ := r1
    cases q : Builtin.Str.occurrences a b 0 a.length 1 with
    | nil =>
      unfold Txt.index0 at hk
      rw [q] at hk
      cases hk
    | cons j rest =>
      unfold Txt.index0 at hk
      rw [q] at hk
      cases hk
      exact PySem.SC.index q ⟨.int (k : Nat), H, I.tok _, ⟨_, rfl⟩, w⟩
end
/-! ### names for inline relations -/
def rLenStr : List V → Hp → VK → Prop := fun xs H Q => ∃ z, xs = [.str z] ∧ z.length ≤ sizeLine ∧ Q (.int z.length) H
theorem call_lenS {X : Cx} : CallR X (.builtin "len") rLenStr := call_len_str
theorem call_lenL {X : Cx} : CallR X (.builtin "len") (rLenS X.K) := call_len_seq
theorem op_addS {X : Cx} : OpR X (binaryOp .Add) rAddS := op_add_str
/-! ### evaluation -/
section
variable {K : PySem.W.Frag} {σ : L2.St} {H H' : Hp} {ta tb tc te : TE} {t u : TT} {x y z v : V}
theorem rv_lt {i j : Int} : RV (rI0 fun i j => .bl (decide (i < j))) (.int i) (.int j) H (.bl (decide (i < j))) := rv_I0
theorem rv_addS {a b : Str} (h : a.length + b.length ≤ 1000000) : RV rAddS (.str a) (.str b) H (.str (a ++ b)) := fun H1 _ _ q => ⟨a, b, rfl, rfl, Nat.le_trans h (by decide), q H1 (Ex.refl H1)⟩
theorem rv_inS {c : Nat} {w : Str} : RV rInS (.str ⟨#[c]⟩) (.str w) H (.bl (decide (c ∈ w.cps.toList))) := fun H1 _ _ q => ⟨c, w, rfl, rfl, q H1 (Ex.refl H1)⟩
theorem rv_niS {c : Nat} {w : Str} : RV rNotInS (.str ⟨#[c]⟩) (.str w) H (.bl (!decide (c ∈ w.cps.toList))) := fun H1 _ _ q => ⟨c, w, rfl, rfl, q H1 (Ex.refl H1)⟩
theorem ev_lenS {w : Str} (ha : Ev ta σ H (.str w)) (h : w.length ≤ 1000000) : Ev (tCB rLenStr (tCons ta tNil)) σ H (.int (w.length : Int)) := fun H1 e Q q =>
  ha H1 e _ fun H2 e2 => ⟨w, rfl, Nat.le_trans h (by decide), q H2 e2⟩
theorem ev_slS {tl th : TO} {w : Str} {lo hi : Option Int} (h : Ev te σ H (.str w)) (h1 : EvO tl σ H lo) (h2 : EvO th σ H hi) (hs : w.length ≤ 1000000) : Ev (tSl rSlS te tl th) σ H (.str (cutS w lo hi)) := fun H1 e _ q =>
  h H1 e _ fun H2 e2 => h1 H2 (e.trans e2) _ fun H3 e3 => h2 H3 ((e.trans e2).trans e3) _ fun H4 e4 =>
    ⟨w, rfl, Nat.le_trans hs (by decide), q H4 ((e2.trans e3).trans e4)⟩
theorem ev_ixS {w : Str} {i : Int} {c : Nat} (ha : Ev ta σ H (.str w)) (hb : Ev tb σ H (.int i)) (h : w.length ≤ 1000000) (hc : atI w.cps.toList i = some c) : Ev (tOp rIxS ta tb) σ H (.str ⟨#[c]⟩) :=
  ev_op ha hb fun H1 _ _ q => ⟨w, i, c, rfl, rfl, Nat.le_trans h (by decide), hc, q H1 (Ex.refl H1)⟩
theorem ev_ca {sp : Sp} {vs : List V} {E : XK} {ta : TA} (h : EvA ta σ H vs) (hs : SpV sp vs H z) : Ev (tCa sp E ta) σ H z := fun H1 e Q q =>
  h H1 e _ fun H2 e2 => hs H2 (e.trans e2) Q (fun H3 e3 => q H3 (e2.trans e3)) E
theorem et_chain {i j k : Int} (ha : Ev ta σ H (.int i)) (hb : Ev tb σ H (.int j)) (hc : Ev tc σ H (.int k)) : Ev (tChain (rI0 fun i j => .bl (decide (i ≤ j))) (rI0 fun i j => .bl (decide (i ≤ j))) ta tb tc) σ H (.bl (decide (i ≤ j) && decide (j ≤ k))) := fun H1 e Q q =>
  ha H1 e _ fun H2 e2 => hb H2 (e.trans e2) _ fun H3 e3 => ⟨i, j, rfl, rfl, decide (i ≤ j), rfl, by
    cases h : decide (i ≤ j) with
    | true => exact hc H3 ((e.trans e2).trans e3) _ fun H4 e4 => ⟨j, k, rfl, rfl, by
        have z := q H4 ((e2.trans e3).trans e4)
        rw [h, Bool.true_and] at z
        exact z⟩
    | false =>
      have z := q H3 (e2.trans e3)
      rw [h, Bool.false_and] at z
      exact z⟩
theorem pt_chainT {X : Cx} {op op' : CmpOp} {a b c : Expr} {pos : Pos} {r r' : R2} (ho : OpR X (compareOp op) r) (ho' : OpR X (compareOp op') r') (ha : PE X a ta) (hb : PE X b tb) (hc : PE X c tc) (hp : PT X (.Compare a [op, op'] [b, c] pos) t) : PT X (.Compare a [op, op'] [b, c] pos) t := hp
end
theorem sgn (c : Nat) : (⟨#[c]⟩ : Str) = S [c] := rfl
theorem atI_nat {α : Type} {l : List α} {i : Nat} {x : α} (h : l[i]? = some x) : atI l (i : Int) = some x := by
  have hi : i < l.length := (List.getElem?_eq_some_iff.mp h).1
  unfold atI
  rw [ixN_nat hi]
  exact h
theorem atI_last {α : Type} {l : List α} {x : α} : atI (l ++ [x]) (-1) = some x := by
  unfold atI ixN
  have e : (l ++ [x]).length = l.length + 1 := by simp
  rw [if_neg (by decide), e, if_pos (by omega)]
  show (l ++ [x])[((-1 : Int) + ((l.length + 1 : Nat) : Int)).toNat]? = some x
  rw [show ((-1 : Int) + ((l.length + 1 : Nat) : Int)).toNat = l.length by omega]
  simp
theorem cutS_nat (l : List Nat) (a b : Nat) : cutS (S l) (some (a : Int)) (some (b : Int)) = S ((l.drop a).take (b - a)) := by
  unfold cutS
  rw [HT.sIx_nat, HT.sIx_nat, S_len, S_tl]
  apply congrArg S
  by_cases h : a ≤ l.length
  · rw [Nat.min_eq_left h]
    by_cases h2 : b ≤ l.length
    · rw [Nat.min_eq_left h2]
    · rw [Nat.min_eq_right (by omega), List.take_of_length_le (by rw [List.length_drop]; omega), List.take_of_length_le (by rw [List.length_drop]; omega)]
  · rw [show min a l.length = l.length from by omega, List.drop_of_length_le (Nat.le_refl _), List.drop_of_length_le (show l.length ≤ a by omega)]
    simp
theorem cutS_from (l : List Nat) (a : Nat) : cutS (S l) (some (a : Int)) none = S (l.drop a) := by
  unfold cutS
  rw [HT.sIx_nat, HT.sIx_none, S_len, S_tl]
  apply congrArg S
  by_cases h : a ≤ l.length
  · rw [Nat.min_eq_left h, List.take_of_length_le (by rw [List.length_drop]; omega)]
  · rw [Nat.min_eq_right (by omega), List.drop_of_length_le (Nat.le_refl _), List.drop_of_length_le (by omega)]
    simp
theorem cutS_to (l : List Nat) (b : Nat) : cutS (S l) none (some (b : Int)) = S (l.take b) := by
  unfold cutS
  rw [HT.sIx_nat, HT.sIx_none, S_len, S_tl]
  apply congrArg S
  rw [List.drop_zero, Nat.sub_zero]
  by_cases h : b ≤ l.length
  · rw [Nat.min_eq_left h]
  · rw [Nat.min_eq_right (by omega), List.take_of_length_le (Nat.le_refl _), List.take_of_length_le (by omega)]
theorem cutS_last (l : List Nat) (c : Nat) : cutS (S (l ++ [c])) none (some (-1)) = S l := by
  rw [C8.cutS_slice]
  exact SX.butlast_snoc l c
end Q
namespace Q
open PySem PySem.Spec PyProof.Rows L2 Evl
section
variable {K : PySem.W.Frag} {σ : L2.St} {H H' : Hp} {ta tb tc te ts : TE} {t u : TT} {x y z v : V}
theorem tyx_mono {x : V} {ty : Value} (e : Ex H H') (h : TyX K H x ty) : TyX K H' x ty := by
  cases h with
  | base b =>
    cases b with
    | non => exact .base .non
    | bl y => exact .base (.bl y)
    | int i => exact .base (.int i)
    | str y => exact .base (.str y)
    | flt y => exact .base (.flt y)
    | lst ea => exact .base (.lst (e _ _ ea))
    | frz ea => exact .base (.frz (e _ _ ea))
    | tup ea => exact .base (.tup (e _ _ ea))
    | dK ea => exact .base (.dK (e _ _ ea))
    | dT ea => exact .base (.dT (e _ _ ea))
    | ins ea cl ha hn htk hm => exact .base (.ins (e _ _ ea) cl ha hn htk hm)
  | byt b => exact .byt b
  | set ea => exact .set (e _ _ ea)
  | kList ea c => exact .kList ea c
  | kTuple ea c => exact .kTuple ea c
  | kDict ea c => exact .kDict ea c
  | fTuple ea => exact .fTuple (e _ _ ea)
  | fDict ea => exact .fDict (e _ _ ea)
theorem ev_isi {ty : Value} {n : String} {b : Bool} (ha : Ev ta σ H x) (ht : TyX K H x ty) (hk : PySem.W.kitOne K ty (.type n) = some b) : Ev (tCB (rIsi K) (tCons ta (tCons (tC (.ty n)) tNil))) σ H (.bl b) :=
  ev_cb (ea_cons ha (ea_cons ev_c ea_nil)) fun H1 e Q q => ⟨x, .ty n, ty, .type n, b, rfl, .ty n, tyx_mono e ht, hk, q H1 (Ex.refl H1)⟩
theorem kit_ss {n : String} : PySem.W.kitOne K (.type n) (.type n) = some true := by
  unfold PySem.W.kitOne
  exact if_pos (by simp)
theorem et_yes : EvT tYes σ H true := fun H1 _ _ q => q H1 (Ex.refl H1)
theorem ev_all {bs : List Bool} (h : EvL ta σ H (bs.map V.bl)) : Ev (tCB (rAll K) (tCons ta tNil)) σ H (.bl (bs.all id)) := fun H1 e Q q =>
  h H1 e _ fun p H2 _ e2 h2 => ⟨p, bs, rfl, sq_of h2, q H2 e2⟩
/-- a comprehension over n things, one after another -/
theorem lc_go {J : It} {n : Nat} {G : Hp → Prop} {xs : List V} {j : Nat} {vs : List Nat} {Qd : Hp → Prop} {H1 : Hp} {Dl : Addr} (w : Walk J xs.length G (YAt xs)) (p : V → Bool) (g : V → V) (hG : ∀ H', Ex H1 H' → G H') (hz : xs.length ≤ 1000000)
    (hw : ∀ x, wipe ((wipe σ vs).set j (some x)) vs = wipe σ vs) (ht : ∀ x, x ∈ xs → EvT t ((wipe σ vs).set j (some x)) H1 (p x)) (he : ∀ x, x ∈ xs → p x = true → Ev te ((wipe σ vs).set j (some x)) H1 (g x)) (hD : H1 Dl = none)
    (hd : ∀ H', Ex H1 H' → H' Dl = some (.lst ((xs.filter p).map g)) → Qd H') :
    ∃ W : Nat → Nat → Hp → Prop, (∃ m, W 0 m (upd H1 Dl (.lst []))) ∧ ∀ i m H, W i m H →
      (J.stop i H ∧ Qd H) ∨ (J.go i H ∧ ∃ Nx : Hp → Prop, (∀ H', Nx H' → ∃ m', m' < m ∧ W (i + 1) m' H') ∧ ∀ x H', J.yld i H x H' → gName j x (wipe σ vs) H' fun σ2 H2 => wipe σ2 vs = wipe σ vs ∧ t σ2 H2 fun b H3 =>
        if b = true then te σ2 H3 fun y H4 => ∃ acc, H4 Dl = some (.lst acc) ∧ acc.length < sizeLine ∧ Nx (upd H4 Dl (.lst (acc ++ [y]))) else Nx H3) := by
  refine lc_it w (fun i H' => Ex H1 H' ∧ H' Dl = some (.lst (((xs.take i).filter p).map g))) ⟨Ex.new hD, by rw [List.take_zero]; exact upd_same⟩ (fun i H' hi q => hG H' q.1) ?_ ?_
  · rintro i x H2 H3 hi ⟨e, h⟩ ⟨rfl, hx⟩
    have hm : x ∈ xs := List.mem_of_getElem? hx
    have tk : xs.take (i + 1) = xs.take i ++ [x] := by rw [List.take_succ, hx]; rfl
    have hl : (((xs.take i).filter p).map g).length ≤ 1000000 := by
      rw [List.length_map]
      exact Nat.le_trans (List.length_filter_le _ _) (Nat.le_trans (by rw [List.length_take]; exact Nat.min_le_right _ _) hz)
    refine ⟨hw x, ht x hm H3 e _ fun H4 e4 => ?_⟩
    cases hp : p x with
    | true =>
      refine he x hm hp H4 (e.trans e4) _ fun H5 e5 => ⟨_, e5 _ _ (e4 _ _ h), Nat.lt_of_le_of_lt hl (by decide), Ex.mut ((e.trans e4).trans e5) hD, ?_⟩
      rw [tk, List.filter_append, List.map_append, List.filter_cons, if_pos hp]
      exact upd_same
    | false =>
      refine ⟨e.trans e4, ?_⟩
      rw [tk, List.filter_append, List.map_append, List.filter_cons, if_neg (by rw [hp]; decide)]
      show H4 Dl = some (.lst (_ ++ []))
      rw [List.append_nil]
      exact e4 _ _ h
  · rintro H2 ⟨e, h⟩
    rw [List.take_length] at h
    exact hd H2 e h
theorem walk_strV {w : Str} : Walk (Its w) (w.cps.toList.map fun c => V.str ⟨#[c]⟩).length (fun _ => True) (YAt (w.cps.toList.map fun c => V.str ⟨#[c]⟩)) := by
  have e : (w.cps.toList.map fun c => V.str ⟨#[c]⟩).length = w.cps.size := by simp
  refine ⟨fun i _ hi _ => by rw [e] at hi; exact hi, fun _ _ => Nat.le_of_eq e.symm, fun i H x H' _ _ y => ?_⟩
  obtain ⟨h1, c, hc, rfl⟩ := y
  refine ⟨h1, ?_⟩
  rw [List.getElem?_map, Array.getElem?_toList, hc]
  rfl
theorem el_lcS {w : Str} {j : Nat} {vs : List Nat} (p : V → Bool) (g : V → V) (h : Ev ts σ H (.str w)) (hz : w.length ≤ 1000000) (hw : ∀ x, wipe ((wipe σ vs).set j (some x)) vs = wipe σ vs)
    (ht : ∀ c H1, Ex H H1 → c ∈ w.cps.toList → EvT t ((wipe σ vs).set j (some (.str ⟨#[c]⟩))) H1 (p (.str ⟨#[c]⟩))) (he : ∀ c H1, Ex H H1 → c ∈ w.cps.toList → p (.str ⟨#[c]⟩) = true → Ev te ((wipe σ vs).set j (some (.str ⟨#[c]⟩))) H1 (g (.str ⟨#[c]⟩))) :
    EvL (tLc (iStr ts) (gName j) t te vs) σ H (((w.cps.toList.map fun c => V.str ⟨#[c]⟩).filter p).map g) := fun H0 e Q q => h H0 e _ fun H1 e1 => ⟨w, rfl, fun Dl hD =>
  lc_go (n := 0) walk_strV p g (fun _ _ => True.intro) (by rw [List.length_map, Array.length_toList]; exact hz) hw
    (fun x hx => by
      obtain ⟨c, hc, rfl⟩ := List.mem_map.mp hx
      exact ht c H1 (e.trans e1) hc)
    (fun x hx hp => by
      obtain ⟨c, hc, rfl⟩ := List.mem_map.mp hx
      exact he c H1 (e.trans e1) hc hp) hD fun H' e' h' => q Dl H' (fresh_back e1 hD) (e1.trans e') h'⟩
theorem el_lcLv {a : Addr} {xs : List V} {j : Nat} {vs : List Nat} (p : V → Bool) (g : V → V) (h : Ev ts σ H (.ref a)) (hx : SqL K H a xs) (hz : xs.length ≤ 1000000) (hw : ∀ x, wipe ((wipe σ vs).set j (some x)) vs = wipe σ vs)
    (ht : ∀ x H1, Ex H H1 → x ∈ xs → EvT t ((wipe σ vs).set j (some x)) H1 (p x)) (he : ∀ x H1, Ex H H1 → x ∈ xs → p x = true → Ev te ((wipe σ vs).set j (some x)) H1 (g x)) :
    EvL (tLc (iList K ts) (gName j) t te vs) σ H ((xs.filter p).map g) := fun H0 e Q q => h H0 e _ fun H1 e1 => ⟨a, rfl, ⟨xs, ex_l (e.trans e1) hx⟩, fun Dl hD =>
  lc_go (n := 0) walk_list p g (fun _ e' => ex_l ((e.trans e1).trans e') hx) hz hw (fun x hx => ht x H1 (e.trans e1) hx) (fun x hx hp => he x H1 (e.trans e1) hx hp) hD fun H' e' h' => q Dl H' (fresh_back e1 hD) (e1.trans e') h'⟩
theorem el_lcTv {a : Addr} {xs : List V} {j : Nat} {vs : List Nat} (p : V → Bool) (g : V → V) (h : Ev ts σ H (.ref a)) (hx : SqT K H a xs) (hz : xs.length ≤ 1000000) (hw : ∀ x, wipe ((wipe σ vs).set j (some x)) vs = wipe σ vs)
    (ht : ∀ x H1, Ex H H1 → x ∈ xs → EvT t ((wipe σ vs).set j (some x)) H1 (p x)) (he : ∀ x H1, Ex H H1 → x ∈ xs → p x = true → Ev te ((wipe σ vs).set j (some x)) H1 (g x)) :
    EvL (tLc (iTup K ts) (gName j) t te vs) σ H ((xs.filter p).map g) := fun H0 e Q q => h H0 e _ fun H1 e1 => ⟨a, rfl, ⟨xs, ex_t (e.trans e1) hx⟩, fun Dl hD =>
  lc_go (n := 0) walk_tup p g (fun _ e' => ex_t ((e.trans e1).trans e') hx) hz hw (fun x hx => ht x H1 (e.trans e1) hx) (fun x hx hp => he x H1 (e.trans e1) hx hp) hD fun H' e' h' => q Dl H' (fresh_back e1 hD) (e1.trans e') h'⟩
theorem el_is {xs : List V} {bs : List Bool} (h : EvL te σ H xs) (e : xs = bs.map V.bl) : EvL te σ H (bs.map V.bl) := e ▸ h
theorem ev_sub {v : V} (h : Ev te σ H v) (e : v = x) : Ev te σ H x := e ▸ h
/-- == of data -/
theorem rv_eqD {d e : PyData} (hx : Dp K H x d) (hy : ∀ H1, Ex H H1 → Dp K H1 x d ∧ Dp K H1 y e) (s1 : SeqAt.shaped d = true) (s2 : SeqAt.shaped e = true) : RV (rEqD K) x y H (.bl (PyData.eqv d e)) := fun H1 e' Q q => ⟨d, e, (hy H1 e').1, (hy H1 e').2, s1, s2, q H1 (Ex.refl H1)⟩
end
end Q
namespace Q
open PySem PySem.Spec PyProof.Rows L2 Evl
/-! ### data: evaluation to a datum -/
section
variable {K : PySem.W.Frag} {H H' : Hp}
mutual
theorem dp_mono (e : Ex H H') : ∀ {d : PyData} {v : V}, Dp K H v d → Dp K H' v d
  | .none, _, h => by cases h; exact .non
  | .bool b, _, h => by cases h; exact .bl b
  | .int i, _, h => by cases h; exact .int i
  | .str x, _, h => by cases h; exact .str x
  | .list ds, _, h => by
    cases h with
    | lst hs ha => exact .lst (ex_l e hs) (dpA_mono e ha)
  | .tuple ds, _, h => by
    cases h with
    | tup hs ha => exact .tup (ex_t e hs) (dpA_mono e ha)
  | .dict _, _, h => by cases h
theorem dpA_mono (e : Ex H H') : ∀ {ds : List PyData} {vs : List V}, DpAll K H vs ds → DpAll K H' vs ds
  | [], _, h => by cases h; exact .nil
  | d :: ds, _, h => by
    cases h with
    | cons h1 h2 => exact .cons (dp_mono e h1) (dpA_mono e h2)
end
theorem dpA_len : ∀ {vs : List V} {ds : List PyData}, DpAll K H vs ds → vs.length = ds.length
  | [], _, h => by cases h; rfl
  | v :: vs, _, h => by
    cases h with
    | cons _ h2 => exact congrArg (· + 1) (dpA_len h2)
theorem dpA_get : ∀ {vs : List V} {ds : List PyData} {i : Nat} {d : PyData}, DpAll K H vs ds → ds[i]? = some d → ∃ v, vs[i]? = some v ∧ Dp K H v d
  | _, _, i, d, h, e => by
    induction i generalizing d with
    | zero =>
      cases h with
      | nil => cases e
      | cons h1 _ => cases e; exact ⟨_, rfl, h1⟩
    | succ i ih =>
      cases h with
      | nil => cases e
      | cons _ h2 => exact dpA_get (i := i) h2 e
theorem dpA_getV : ∀ {vs : List V} {ds : List PyData} {i : Nat} {v : V}, DpAll K H vs ds → vs[i]? = some v → ∃ d, ds[i]? = some d ∧ Dp K H v d
  | [], _, i, v, h, e => by simp at e
  | w :: vs, _, 0, v, h, e => by
    cases h with
    | cons h1 _ => cases e; exact ⟨_, rfl, h1⟩
  | w :: vs, _, i + 1, v, h, e => by
    cases h with
    | cons _ h2 => exact dpA_getV (i := i) h2 e
theorem dpA_drop : ∀ {vs : List V} {ds : List PyData} (n : Nat), DpAll K H vs ds → DpAll K H (vs.drop n) (ds.drop n)
  | _, _, 0, h => h
  | [], _, n + 1, h => by cases h; exact .nil
  | v :: vs, _, n + 1, h => by
    cases h with
    | cons _ h2 => exact dpA_drop n h2
theorem dpA_take : ∀ {vs : List V} {ds : List PyData} (n : Nat), DpAll K H vs ds → DpAll K H (vs.take n) (ds.take n)
  | _, _, 0, _ => .nil
  | [], _, n + 1, h => by cases h; exact .nil
  | v :: vs, _, n + 1, h => by
    cases h with
    | cons h1 h2 => exact .cons h1 (dpA_take n h2)
theorem dpA_app : ∀ {vs ws : List V} {ds es : List PyData}, DpAll K H vs ds → DpAll K H ws es → DpAll K H (vs ++ ws) (ds ++ es)
  | [], _, _, _, h, g => by cases h; exact g
  | v :: vs, _, _, _, h, g => by
    cases h with
    | cons h1 h2 => exact .cons h1 (dpA_app h2 g)
/-- a datum's type, by name -/
def tyD : PyData → String
  | .none => "NoneType"
  | .bool _ => "bool"
  | .int _ => "int"
  | .str _ => "str"
  | .list _ => "list"
  | .tuple _ => "tuple"
  | .dict _ => "dict"
theorem dp_ty {v : V} {d : PyData} (h : Dp K H v d) : TyX K H v (.type (tyD d)) := by
  cases h with
  | non => exact .base .non
  | bl b => exact .base (.bl b)
  | int i => exact .base (.int i)
  | str x => exact .base (.str x)
  | lst hs _ =>
    rcases hs with (h | ⟨o, h⟩) | ⟨o, its, n, h, hc, _⟩
    · exact .base (.lst h)
    · exact .base (.frz h)
    · exact .kList h hc
  | tup hs _ =>
    rcases hs with (h | ⟨o, h⟩) | ⟨o, its, n, h, hc, _⟩
    · exact .base (.tup h)
    · exact .fTuple h
    · exact .kTuple h hc
end
/-- evaluates to a datum; to a new list of data; arguments to data -/
def Et (K : PySem.W.Frag) (te : TE) (σ : L2.St) (H : Hp) (d : PyData) : Prop := ∀ H1, Ex H H1 → ∀ Q : VK, (∀ v H2, Ex H1 H2 → Dp K H2 v d → Q v H2) → te σ H1 Q
def EtA (K : PySem.W.Frag) (ta : TA) (σ : L2.St) (H : Hp) (ds : List PyData) : Prop := ∀ H1, Ex H H1 → ∀ Q : List V → Hp → Prop, (∀ vs H2, Ex H1 H2 → DpAll K H2 vs ds → Q vs H2) → ta σ H1 Q
def EtL (K : PySem.W.Frag) (te : TE) (σ : L2.St) (H : Hp) (ds : List PyData) : Prop := ∀ H1, Ex H H1 → ∀ Q : VK, (∀ p xs H2, H1 p = none → Ex H1 H2 → H2 p = some (.lst xs) → DpAll K H2 xs ds → Q (.ref p) H2) → te σ H1 Q
section
variable {K : PySem.W.Frag} {σ : L2.St} {H H' : Hp} {ta tb tc te tl : TE} {t u : TT} {v w : V} {d e : PyData} {ds es : List PyData}
theorem Et.mono (x : Ex H H') (h : Et K te σ H d) : Et K te σ H' d := fun H1 a Q q => h H1 (x.trans a) Q q
theorem et_ev (h : Ev te σ H v) (hv : ∀ H1, Ex H H1 → Dp K H1 v d) : Et K te σ H d := fun H1 e Q q => h H1 e _ fun H2 e2 => q v H2 e2 (hv H2 (e.trans e2))
theorem etv_var {i : Nat} (h : σ[i]? = some (some v)) (hv : Dp K H v d) : Et K (tVar i) σ H d := et_ev (ev_var h) fun H1 e => dp_mono e hv
theorem ev_etI {i : Int} (h : Et K te σ H (.int i)) : Ev te σ H (.int i) := fun H1 e Q q => h H1 e _ fun v H2 e2 hv => by cases hv; exact q H2 e2
theorem ev_etB {b : Bool} (h : Et K te σ H (.bool b)) : Ev te σ H (.bl b) := fun H1 e Q q => h H1 e _ fun v H2 e2 hv => by cases hv; exact q H2 e2
theorem ev_etS {x : Str} (h : Et K te σ H (.str x)) : Ev te σ H (.str x) := fun H1 e Q q => h H1 e _ fun v H2 e2 hv => by cases hv; exact q H2 e2
theorem etI {i : Int} (h : Ev te σ H (.int i)) : Et K te σ H (.int i) := et_ev h fun _ _ => .int i
theorem etB {b : Bool} (h : Ev te σ H (.bl b)) : Et K te σ H (.bool b) := et_ev h fun _ _ => .bl b
theorem etS {x : Str} (h : Ev te σ H (.str x)) : Et K te σ H (.str x) := et_ev h fun _ _ => .str x
theorem etN (h : Ev te σ H .non) : Et K te σ H .none := et_ev h fun _ _ => .non
theorem et_list (h : EtL K te σ H ds) : Et K te σ H (.list ds) := fun H1 e Q q => h H1 e _ fun p xs H2 _ e2 h2 hd => q _ H2 e2 (.lst (sq_of h2) hd)
theorem eta_nil : EtA K tNil σ H [] := fun H1 _ Q q => q [] H1 (Ex.refl H1) .nil
theorem eta_cons {tr : TA} (h : Et K ta σ H d) (hr : EtA K tr σ H ds) : EtA K (tCons ta tr) σ H (d :: ds) := fun H1 x Q q =>
  h H1 x _ fun v H2 e2 hv => hr H2 (x.trans e2) _ fun vs H3 e3 hvs => q (v :: vs) H3 (e2.trans e3) (.cons (dp_mono e3 hv) hvs)
theorem et_tup {ta : TA} (h : EtA K ta σ H ds) (hl : ds.length ≤ 100000) : Et K (tTup ta) σ H (.tuple ds) := fun H1 x Q q =>
  h H1 x _ fun vs H2 e2 hvs => ⟨by rw [dpA_len hvs]; exact sz_of hl, fun p hp => q _ _ (e2.trans (Ex.new hp)) (.tup (st_of upd_same) (dpA_mono (Ex.new hp) hvs))⟩
theorem etl_lst {ta : TA} (h : EtA K ta σ H ds) (hl : ds.length ≤ 100000) : EtL K (tLst ta) σ H ds := fun H1 x Q q =>
  h H1 x _ fun vs H2 e2 hvs => ⟨by rw [dpA_len hvs]; exact sz_of hl, fun p hp => q p vs _ (fresh_back e2 hp) (e2.trans (Ex.new hp)) upd_same (dpA_mono (Ex.new hp) hvs)⟩
/-- x[i], a place from the front -/
theorem et_ixT {i : Nat} (h : Et K ta σ H (.tuple ds)) (hi : Ev tb σ H (.int (i : Int))) (hd : ds[i]? = some d) : Et K (tOp (rIxT K) ta tb) σ H d := fun H1 x Q q =>
  h H1 x _ fun v H2 e2 hv => hi H2 (x.trans e2) _ fun H3 e3 => by
    cases hv with
    | tup hs ha =>
      obtain ⟨w, hw, hw2⟩ := dpA_get ha hd
      exact ⟨_, _, _, w, rfl, rfl, ex_t e3 hs, atI_nat hw, q w H3 (e2.trans e3) (dp_mono e3 hw2)⟩
theorem et_ixL {i : Nat} (h : Et K ta σ H (.list ds)) (hi : Ev tb σ H (.int (i : Int))) (hd : ds[i]? = some d) : Et K (tOp (rIxL K) ta tb) σ H d := fun H1 x Q q =>
  h H1 x _ fun v H2 e2 hv => hi H2 (x.trans e2) _ fun H3 e3 => by
    cases hv with
    | lst hs ha =>
      obtain ⟨w, hw, hw2⟩ := dpA_get ha hd
      exact ⟨_, _, _, w, rfl, rfl, ex_l e3 hs, atI_nat hw, q w H3 (e2.trans e3) (dp_mono e3 hw2)⟩
theorem et_lenT (h : Et K ta σ H (.tuple ds)) : Ev (tCB (rLenS K) (tCons ta tNil)) σ H (.int (ds.length : Int)) := fun H1 x Q q =>
  h H1 x _ fun v H2 e2 hv => by
    cases hv with
    | tup hs ha => exact ⟨_, _, rfl, .inr hs, by rw [dpA_len ha]; exact q H2 e2⟩
theorem et_lenL (h : Et K ta σ H (.list ds)) : Ev (tCB (rLenS K) (tCons ta tNil)) σ H (.int (ds.length : Int)) := fun H1 x Q q =>
  h H1 x _ fun v H2 e2 hv => by
    cases hv with
    | lst hs ha => exact ⟨_, _, rfl, .inl hs, by rw [dpA_len ha]; exact q H2 e2⟩
theorem et_isi {n : String} {b : Bool} (h : Et K ta σ H d) (hk : PySem.W.kitOne K (.type (tyD d)) (.type n) = some b) : Ev (tCB (rIsi K) (tCons ta (tCons (tC (.ty n)) tNil))) σ H (.bl b) := fun H1 x Q q =>
  h H1 x _ fun v H2 e2 hv => ⟨v, .ty n, .type (tyD d), .type n, b, rfl, .ty n, dp_ty hv, hk, q H2 e2⟩
theorem et_eqD (h1 : Et K ta σ H d) (h2 : Et K tb σ H e) (s1 : SeqAt.shaped d = true) (s2 : SeqAt.shaped e = true) : Ev (tOp (rEqD K) ta tb) σ H (.bl (PyData.eqv d e)) := fun H1 x Q q =>
  h1 H1 x _ fun v H2 e2 hv => h2 H2 (x.trans e2) _ fun w H3 e3 hw => ⟨d, e, dp_mono e3 hv, hw, s1, s2, q H3 (e2.trans e3)⟩
theorem et_neD (h1 : Et K ta σ H d) (h2 : Et K tb σ H e) (s1 : SeqAt.shaped d = true) (s2 : SeqAt.shaped e = true) : Ev (tOp (rNeD K) ta tb) σ H (.bl (!PyData.eqv d e)) := fun H1 x Q q =>
  h1 H1 x _ fun v H2 e2 hv => h2 H2 (x.trans e2) _ fun w H3 e3 hw => ⟨d, e, dp_mono e3 hv, hw, s1, s2, q H3 (e2.trans e3)⟩
/-- tuple slices x[lo:hi], the cut told by a list equation -/
theorem cutV_dp {xs : List V} {lo hi : Option Int} (h : DpAll K H xs ds) (es : List PyData) (he : es = (ds.drop (HT.sIx ds.length 0 lo)).take (HT.sIx ds.length ds.length hi - HT.sIx ds.length 0 lo)) : DpAll K H (cutV xs lo hi) es := by
  unfold cutV
  rw [he, dpA_len h]
  exact dpA_take _ (dpA_drop _ h)
/-- a def that maps data to a datum -/
def spDat (K : PySem.W.Frag) (n : Nat) (f : List PyData → Option PyData) : Sp := fun vs H Q _ => vs.length = n ∧ ∃ ds d, DpAll K H vs ds ∧ f ds = some d ∧ ∀ v H2, Ex H H2 → Dp K H2 v d → Q v H2
theorem et_ca {n : Nat} {f : List PyData → Option PyData} {E : XK} {ta : TA} (h : EtA K ta σ H ds) (hn : ds.length = n) (hf : f ds = some d) : Et K (tCa (spDat K n f) E ta) σ H d := fun H1 x Q q =>
  h H1 x _ fun vs H2 e2 hvs => ⟨by rw [dpA_len hvs]; exact hn, ds, d, hvs, hf, fun v H3 e3 hv => q v H3 (e2.trans e3) hv⟩
theorem s_retD {Dn : Ends} (h : Et K te σ H d) (k : ∀ v H1, Ex H H1 → Dp K H1 v d → Dn.rt v H1) : tRet te Dn σ H := h H (Ex.refl H) _ k
theorem q_asgD {Dn : Ends} {tz : TS} {i : Nat} (h : Et K te σ H d) (k : ∀ v H1, Ex H H1 → Dp K H1 v d → tz Dn (σ.set i (some v)) H1) : tSeq (tAsg te (gName i)) tz Dn σ H := h H (Ex.refl H) _ k
theorem s_asgD {Dn : Ends} {i : Nat} (h : Et K te σ H d) (k : ∀ v H1, Ex H H1 → Dp K H1 v d → Dn.nx (σ.set i (some v)) H1) : tAsg te (gName i) Dn σ H := h H (Ex.refl H) _ k
/-! a datum without lists -/
mutual
def noL : PyData → Bool
  | .list _ => false
  | .tuple ds => noLA ds
  | .dict _ => false
  | _ => true
def noLA : List PyData → Bool
  | [] => true
  | d :: ds => noL d && noLA ds
end
mutual
theorem dp_upd {p : Addr} {ws ws' : List V} (hp : H p = some (.lst ws)) : ∀ {d : PyData} {v : V}, noL d = true → Dp K H v d → Dp K (upd H p (.lst ws')) v d
  | .none, _, _, h => by cases h; exact .non
  | .bool b, _, _, h => by cases h; exact .bl b
  | .int i, _, _, h => by cases h; exact .int i
  | .str x, _, _, h => by cases h; exact .str x
  | .list ds, _, n, h => by cases n
  | .tuple ds, _, n, h => by
    cases h with
    | tup hs ha =>
      refine .tup ?_ (dpA_upd hp n ha)
      rcases hs with (h | ⟨o, h⟩) | h
      · exact .inl (.inl (by rw [upd_ne (ne_of h hp (by simp))]; exact h))
      · exact .inl (.inr ⟨o, by rw [upd_ne (ne_of h hp (by simp))]; exact h⟩)
      · exact .inr h
  | .dict _, _, n, h => by cases n
theorem dpA_upd {p : Addr} {ws ws' : List V} (hp : H p = some (.lst ws)) : ∀ {ds : List PyData} {vs : List V}, noLA ds = true → DpAll K H vs ds → DpAll K (upd H p (.lst ws')) vs ds
  | [], _, _, h => by cases h; exact .nil
  | d :: ds, _, n, h => by
    have n' : (noL d && noLA ds) = true := n
    obtain ⟨n1, n2⟩ := Bool.and_eq_true_iff.mp n'
    cases h with
    | cons h1 h2 => exact .cons (dp_upd hp n1 h1) (dpA_upd hp n2 h2)
end
/-- data that stay while a new list grows: without lists, or known ahead of it -/
def St1 (K : PySem.W.Frag) (H1 H : Hp) (v : V) (d : PyData) : Prop := (noL d = true ∧ Dp K H v d) ∨ Dp K H1 v d
inductive StA (K : PySem.W.Frag) (H1 H : Hp) : List V → List PyData → Prop
  | nil : StA K H1 H [] []
  | snoc {vs : List V} {ds : List PyData} {v : V} {d : PyData} : StA K H1 H vs ds → St1 K H1 H v d → StA K H1 H (vs ++ [v]) (ds ++ [d])
theorem StA.mono {H1 : Hp} {vs : List V} {ds : List PyData} (h : StA K H1 H vs ds) (k : ∀ v d, St1 K H1 H v d → St1 K H1 H' v d) : StA K H1 H' vs ds := by
  induction h with
  | nil => exact .nil
  | snoc _ q ih => exact .snoc ih (k _ _ q)
theorem StA.all {H1 : Hp} {vs : List V} {ds : List PyData} (h : StA K H1 H vs ds) (e : Ex H1 H) : DpAll K H vs ds := by
  induction h with
  | nil => exact .nil
  | snoc _ q ih =>
    refine dpA_app ih (.cons ?_ .nil)
    rcases q with ⟨_, q⟩ | q
    · exact q
    · exact dp_mono e q
theorem StA.len {H1 : Hp} {vs : List V} {ds : List PyData} (h : StA K H1 H vs ds) : vs.length = ds.length := by
  induction h with
  | nil => rfl
  | snoc _ _ ih => simp [ih]
/-- a comprehension, target a name, over things that stand for abstract ones -/
theorem lc_abs {α : Type} {J : It} {G : Hp → Prop} {xs : List V} {as : List α} {j : Nat} {vs : List Nat} {Qd : Hp → Prop} {H1 : Hp} {Dl : Addr} (w : Walk J xs.length G (YAt xs)) (p : α → Bool) (g : α → PyData) (hl : xs.length = as.length) (hG : ∀ H', Ex H1 H' → G H') (hz : xs.length ≤ 1000000)
    (hw : ∀ x, wipe ((wipe σ vs).set j (some x)) vs = wipe σ vs) (ht : ∀ (i : Nat) (x : V) (a : α), xs[i]? = some x → as[i]? = some a → EvT t ((wipe σ vs).set j (some x)) H1 (p a))
    (he : ∀ (i : Nat) (x : V) (a : α), xs[i]? = some x → as[i]? = some a → p a = true → (noL (g a) = true ∧ Et K te ((wipe σ vs).set j (some x)) H1 (g a)) ∨ ∃ v, Ev te ((wipe σ vs).set j (some x)) H1 v ∧ Dp K H1 v (g a)) (hD : H1 Dl = none)
    (hd : ∀ ys H', Ex H1 H' → H' Dl = some (.lst ys) → DpAll K H' ys ((as.filter p).map g) → Qd H') :
    ∃ W : Nat → Nat → Hp → Prop, (∃ m, W 0 m (upd H1 Dl (.lst []))) ∧ ∀ i m H, W i m H →
      (J.stop i H ∧ Qd H) ∨ (J.go i H ∧ ∃ Nx : Hp → Prop, (∀ H', Nx H' → ∃ m', m' < m ∧ W (i + 1) m' H') ∧ ∀ x H', J.yld i H x H' → gName j x (wipe σ vs) H' fun σ2 H2 => wipe σ2 vs = wipe σ vs ∧ t σ2 H2 fun b H3 =>
        if b = true then te σ2 H3 fun y H4 => ∃ acc, H4 Dl = some (.lst acc) ∧ acc.length < sizeLine ∧ Nx (upd H4 Dl (.lst (acc ++ [y]))) else Nx H3) := by
  refine lc_it w (fun i H' => Ex H1 H' ∧ ∃ ys, H' Dl = some (.lst ys) ∧ StA K H1 H' ys (((as.take i).filter p).map g)) ⟨Ex.new hD, [], upd_same, by rw [List.take_zero]; exact .nil⟩ (fun i H' hi q => hG H' q.1) ?_ ?_
  · rintro i x H2 H3 hi ⟨e, ys, h, hys⟩ ⟨rfl, hx⟩
    obtain ⟨a, ha⟩ : ∃ a, as[i]? = some a := ⟨as[i]'(by omega), List.getElem?_eq_getElem _⟩
    have tk : as.take (i + 1) = as.take i ++ [a] := by rw [List.take_succ, ha]; rfl
    have hlen : ys.length ≤ 1000000 := by
      rw [hys.len, List.length_map]
      exact Nat.le_trans (List.length_filter_le _ _) (Nat.le_trans (by rw [List.length_take]; exact Nat.min_le_right _ _) (by omega))
    refine ⟨hw x, ht i x a hx ha H3 e _ fun H4 e4 => ?_⟩
    cases hp : p a with
    | true =>
      have fin : ∀ y H5, Ex H4 H5 → St1 K H1 H5 y (g a) → ∃ acc, H5 Dl = some (.lst acc) ∧ acc.length < sizeLine ∧ Ex H1 (upd H5 Dl (.lst (acc ++ [y]))) ∧ ∃ ys, upd H5 Dl (.lst (acc ++ [y])) Dl = some (.lst ys) ∧ StA K H1 (upd H5 Dl (.lst (acc ++ [y]))) ys (((as.take (i + 1)).filter p).map g) := fun y H5 e5 hy => by
        have h5 := e5 _ _ (e4 _ _ h)
        refine ⟨ys, h5, Nat.lt_of_le_of_lt hlen (by decide), Ex.mut ((e.trans e4).trans e5) hD, ys ++ [y], upd_same, ?_⟩
        rw [tk, List.filter_append, List.map_append, List.filter_cons, if_pos hp]
        have up : ∀ v d, St1 K H1 H5 v d → St1 K H1 (upd H5 Dl (.lst (ys ++ [y]))) v d := fun v d q => by
          rcases q with ⟨n, q⟩ | q
          · exact .inl ⟨n, dp_upd h5 n q⟩
          · exact .inr q
        have up2 : ∀ v d, St1 K H1 H3 v d → St1 K H1 H5 v d := fun v d q => by
          rcases q with ⟨n, q⟩ | q
          · exact .inl ⟨n, dp_mono (e4.trans e5) q⟩
          · exact .inr q
        exact .snoc (hys.mono fun v d q => up v d (up2 v d q)) (up y (g a) hy)
      rcases he i x a hx ha hp with ⟨n, q⟩ | ⟨v, q, hv⟩
      · exact q H4 (e.trans e4) _ fun y H5 e5 hy => fin y H5 e5 (.inl ⟨n, hy⟩)
      · exact q H4 (e.trans e4) _ fun H5 e5 => fin v H5 e5 (.inr hv)
    | false =>
      refine ⟨e.trans e4, ys, e4 _ _ h, ?_⟩
      rw [tk, List.filter_append, List.map_append, List.filter_cons, if_neg (by rw [hp]; decide)]
      show StA K H1 H4 ys (_ ++ [])
      rw [List.append_nil]
      exact hys.mono fun v d q => by
        rcases q with ⟨n, q⟩ | q
        · exact .inl ⟨n, dp_mono e4 q⟩
        · exact .inr q
  · rintro H2 ⟨e, ys, h, hys⟩
    rw [hl, List.take_length] at hys
    exact hd ys H2 e h (hys.all e)
end
end Q
namespace Q
open PySem PySem.SeqAt
open PySem.AutoSeq1 (wpAny_loadPart')
open PySem.MeetsSeq PySem.MeetsSeq2 PySem.MeetsSeq3
/-! ### order of tuples: only the first place that differs is asked for its order -/
theorem t_ltAt (l b : Addr) (items items2 : Array Value) (n n2 : Nat) (dd dd2 : Option Addr) (sl sl2 : Array (Option Value)) (e r : Nat → Bool) :
    Meets (Builtin.«tuple.__lt__» ⟨[.ref l, .ref b], []⟩)
      (fun A R s => s.heap.get? l = some { cls := .type "tuple", dict := dd, data := .seq items n, slots := sl } ∧ s.heap.get? b = some { cls := .type "tuple", dict := dd2, data := .seq items2 n2, slots := sl2 } ∧
        (∀ j (h1 : j < items.size) (h2 : j < items2.size), EqAt A.in1 s items[j] items2[j] (e j)) ∧
        (∀ j (h1 : j < items.size) (h2 : j < items2.size), (∀ i, i < j → e i = true) → e j = false → Ob.RcOp .Lt A.in1 s items[j] items2[j] (r j)) ∧
        R (.ok (.ret (.bool (Ob.lexAt e r (decide (items.size < items2.size)) 0 (min items.size items2.size))))) s) :=
  .of_wp fun prog w A R s h => by
    obtain ⟨hp, g, d, tk, os⟩ := s; obtain ⟨hl, hb, he, hr, h⟩ := h
    have f2 := AutoSeq1.sub_tuple_tuple
    have hZ : (items.toList.zip items2.toList).length = min items.size items2.size := by simp
    wp_walk using wpAny_loadPart' hl, wpAny_loadPart' hb, wpAny_forIn_list _ (fun rest b s' => b.1 = none ∧ s' = ⟨hp, g, d, tk, os⟩ ∧ ∃ i, (∀ k, k < i → e k = true) ∧ rest = (items.toList.zip items2.toList).drop i ∧
      R (.ok (.ret (.bool (Ob.lexAt e r (decide (items.size < items2.size)) i (min items.size items2.size - i))))) ⟨hp, g, d, tk, os⟩) _
    case turn =>
      rintro ⟨y, x⟩ rest b s' ⟨hb', rfl, i, hpre, hz, hR⟩
      have hlt : i < (items.toList.zip items2.toList).length := by
        rcases Nat.lt_or_ge i (items.toList.zip items2.toList).length with h' | h'
        · exact h'
        · rw [List.drop_of_length_le h'] at hz; cases hz
      have hm : i < min items.size items2.size := hZ ▸ hlt
      have h1 : i < items.size := Nat.lt_of_lt_of_le hm (Nat.min_le_left _ _)
      have h2 : i < items2.size := Nat.lt_of_lt_of_le hm (Nat.min_le_right _ _)
      rw [List.drop_eq_getElem_cons hlt] at hz
      injection hz with hyx hrest
      have hy : y = items[i] := by have := congrArg Prod.fst hyx; simpa using this
      have hx : x = items2[i] := by have := congrArg Prod.snd hyx; simpa using this
      subst hy hx
      rw [show min items.size items2.size - i = (min items.size items2.size - (i + 1)) + 1 by omega, Ob.lexAt_succ] at hR
      refine wpAny_bind (he i h1 h2 prog w _ _ ?_)
      cases hei : e i with
      | true =>
        rw [hei, if_pos rfl] at hR
        wp_walk
        exact ⟨rfl, rfl, i + 1, fun k hk => (Nat.lt_succ_iff_lt_or_eq.mp hk).elim (hpre k) fun q => by rw [q]; exact hei, hrest, hR⟩
      | false =>
        rw [hei, if_neg Bool.false_ne_true] at hR
        have hri := hr i h1 h2 hpre hei prog w
        wp_walk using hri
        exact ⟨_, rfl, by simpa using hR⟩
    case fin =>
      rintro ⟨b1, b2⟩ s' ⟨hb', rfl, i, hpre, hz, hR⟩
      simp only at hb'
      subst hb'
      have hge : min items.size items2.size ≤ i := by
        rcases Nat.lt_or_ge i (items.toList.zip items2.toList).length with h' | h'
        · rw [List.drop_eq_getElem_cons h'] at hz; cases hz
        · exact hZ ▸ h'
      rw [Nat.sub_eq_zero_of_le hge, Ob.lexAt_zero] at hR
      wp_walk
      exact ⟨_, rfl, by simpa [Builtin.Tuple.tupleCompareSizes] using hR⟩
    case h =>
      exact ⟨rfl, rfl, 0, (fun k hk => absurd hk (Nat.not_lt_zero k)), rfl, by simpa using h⟩
theorem t_lt {A : Around} {s : Shared} {l b : Addr} {items items2 : Array Value} {e r : Nat → Bool} (hl : s.heap.IsTuple l items) (hb : s.heap.IsTuple b items2) (hu : A.units < cLine)
    (he : ∀ j (h1 : j < items.size) (h2 : j < items2.size), EqAt A.in1 s items[j] items2[j] (e j))
    (hr : ∀ j (h1 : j < items.size) (h2 : j < items2.size), (∀ i, i < j → e i = true) → e j = false → Ob.RcOp .Lt A.in1 s items[j] items2[j] (r j)) :
    Ob.RcOp .Lt A s (.ref l) (.ref b) (Ob.lexAt e r (decide (items.size < items2.size)) 0 (min items.size items2.size)) := fun prog w E Q h => by
  obtain ⟨⟨cls, dd, data, sl⟩, ho, hc, n, hd⟩ := id hl
  obtain ⟨⟨cls2, dd2, data2, sl2⟩, ho2, hc2, n2, hd2⟩ := id hb
  simp only at hc hd hc2 hd2
  subst hc hd hc2 hd2
  exact richCompare_meets_room (op := .Lt) ⟨_, ho, rfl⟩ ⟨_, ho2, rfl⟩ F.slot_tuple_lt F.entry_tuple_lt (F.args_tuple_lt_2 _ _) (t_ltAt l b items items2 n n2 dd dd2 sl sl2 e r)
    ⟨ho, ho2, he, hr, ⟨(fun x => nomatch x), h⟩⟩ hu

theorem t_leAt (l b : Addr) (items items2 : Array Value) (n n2 : Nat) (dd dd2 : Option Addr) (sl sl2 : Array (Option Value)) (e r : Nat → Bool) :
    Meets (Builtin.«tuple.__le__» ⟨[.ref l, .ref b], []⟩)
      (fun A R s => s.heap.get? l = some { cls := .type "tuple", dict := dd, data := .seq items n, slots := sl } ∧ s.heap.get? b = some { cls := .type "tuple", dict := dd2, data := .seq items2 n2, slots := sl2 } ∧
        (∀ j (h1 : j < items.size) (h2 : j < items2.size), EqAt A.in1 s items[j] items2[j] (e j)) ∧
        (∀ j (h1 : j < items.size) (h2 : j < items2.size), (∀ i, i < j → e i = true) → e j = false → Ob.RcOp .LtE A.in1 s items[j] items2[j] (r j)) ∧
        R (.ok (.ret (.bool (Ob.lexAt e r (decide (items.size ≤ items2.size)) 0 (min items.size items2.size))))) s) :=
  .of_wp fun prog w A R s h => by
    obtain ⟨hp, g, d, tk, os⟩ := s; obtain ⟨hl, hb, he, hr, h⟩ := h
    have f2 := AutoSeq1.sub_tuple_tuple
    have hZ : (items.toList.zip items2.toList).length = min items.size items2.size := by simp
    wp_walk using wpAny_loadPart' hl, wpAny_loadPart' hb, wpAny_forIn_list _ (fun rest b s' => b.1 = none ∧ s' = ⟨hp, g, d, tk, os⟩ ∧ ∃ i, (∀ k, k < i → e k = true) ∧ rest = (items.toList.zip items2.toList).drop i ∧
      R (.ok (.ret (.bool (Ob.lexAt e r (decide (items.size ≤ items2.size)) i (min items.size items2.size - i))))) ⟨hp, g, d, tk, os⟩) _
    case turn =>
      rintro ⟨y, x⟩ rest b s' ⟨hb', rfl, i, hpre, hz, hR⟩
      have hlt : i < (items.toList.zip items2.toList).length := by
        rcases Nat.lt_or_ge i (items.toList.zip items2.toList).length with h' | h'
        · exact h'
        · rw [List.drop_of_length_le h'] at hz; cases hz
      have hm : i < min items.size items2.size := hZ ▸ hlt
      have h1 : i < items.size := Nat.lt_of_lt_of_le hm (Nat.min_le_left _ _)
      have h2 : i < items2.size := Nat.lt_of_lt_of_le hm (Nat.min_le_right _ _)
      rw [List.drop_eq_getElem_cons hlt] at hz
      injection hz with hyx hrest
      have hy : y = items[i] := by have := congrArg Prod.fst hyx; simpa using this
      have hx : x = items2[i] := by have := congrArg Prod.snd hyx; simpa using this
      subst hy hx
      rw [show min items.size items2.size - i = (min items.size items2.size - (i + 1)) + 1 by omega, Ob.lexAt_succ] at hR
      refine wpAny_bind (he i h1 h2 prog w _ _ ?_)
      cases hei : e i with
      | true =>
        rw [hei, if_pos rfl] at hR
        wp_walk
        exact ⟨rfl, rfl, i + 1, fun k hk => (Nat.lt_succ_iff_lt_or_eq.mp hk).elim (hpre k) fun q => by rw [q]; exact hei, hrest, hR⟩
      | false =>
        rw [hei, if_neg Bool.false_ne_true] at hR
        have hri := hr i h1 h2 hpre hei prog w
        wp_walk using hri
        exact ⟨_, rfl, by simpa using hR⟩
    case fin =>
      rintro ⟨b1, b2⟩ s' ⟨hb', rfl, i, hpre, hz, hR⟩
      simp only at hb'
      subst hb'
      have hge : min items.size items2.size ≤ i := by
        rcases Nat.lt_or_ge i (items.toList.zip items2.toList).length with h' | h'
        · rw [List.drop_eq_getElem_cons h'] at hz; cases hz
        · exact hZ ▸ h'
      rw [Nat.sub_eq_zero_of_le hge, Ob.lexAt_zero] at hR
      wp_walk
      exact ⟨_, rfl, by simpa [Builtin.Tuple.tupleCompareSizes] using hR⟩
    case h =>
      exact ⟨rfl, rfl, 0, (fun k hk => absurd hk (Nat.not_lt_zero k)), rfl, by simpa using h⟩
theorem t_le {A : Around} {s : Shared} {l b : Addr} {items items2 : Array Value} {e r : Nat → Bool} (hl : s.heap.IsTuple l items) (hb : s.heap.IsTuple b items2) (hu : A.units < cLine)
    (he : ∀ j (h1 : j < items.size) (h2 : j < items2.size), EqAt A.in1 s items[j] items2[j] (e j))
    (hr : ∀ j (h1 : j < items.size) (h2 : j < items2.size), (∀ i, i < j → e i = true) → e j = false → Ob.RcOp .LtE A.in1 s items[j] items2[j] (r j)) :
    Ob.RcOp .LtE A s (.ref l) (.ref b) (Ob.lexAt e r (decide (items.size ≤ items2.size)) 0 (min items.size items2.size)) := fun prog w E Q h => by
  obtain ⟨⟨cls, dd, data, sl⟩, ho, hc, n, hd⟩ := id hl
  obtain ⟨⟨cls2, dd2, data2, sl2⟩, ho2, hc2, n2, hd2⟩ := id hb
  simp only at hc hd hc2 hd2
  subst hc hd hc2 hd2
  exact richCompare_meets_room (op := .LtE) ⟨_, ho, rfl⟩ ⟨_, ho2, rfl⟩ F.slot_tuple_le F.entry_tuple_le (F.args_tuple_le_2 _ _) (t_leAt l b items items2 n n2 dd dd2 sl sl2 e r)
    ⟨ho, ho2, he, hr, ⟨(fun x => nomatch x), h⟩⟩ hu

theorem t_geAt (l b : Addr) (items items2 : Array Value) (n n2 : Nat) (dd dd2 : Option Addr) (sl sl2 : Array (Option Value)) (e r : Nat → Bool) :
    Meets (Builtin.«tuple.__ge__» ⟨[.ref l, .ref b], []⟩)
      (fun A R s => s.heap.get? l = some { cls := .type "tuple", dict := dd, data := .seq items n, slots := sl } ∧ s.heap.get? b = some { cls := .type "tuple", dict := dd2, data := .seq items2 n2, slots := sl2 } ∧
        (∀ j (h1 : j < items.size) (h2 : j < items2.size), EqAt A.in1 s items[j] items2[j] (e j)) ∧
        (∀ j (h1 : j < items.size) (h2 : j < items2.size), (∀ i, i < j → e i = true) → e j = false → Ob.RcOp .GtE A.in1 s items[j] items2[j] (r j)) ∧
        R (.ok (.ret (.bool (Ob.lexAt e r (decide (items.size ≥ items2.size)) 0 (min items.size items2.size))))) s) :=
  .of_wp fun prog w A R s h => by
    obtain ⟨hp, g, d, tk, os⟩ := s; obtain ⟨hl, hb, he, hr, h⟩ := h
    have f2 := AutoSeq1.sub_tuple_tuple
    have hZ : (items.toList.zip items2.toList).length = min items.size items2.size := by simp
    wp_walk using wpAny_loadPart' hl, wpAny_loadPart' hb, wpAny_forIn_list _ (fun rest b s' => b.1 = none ∧ s' = ⟨hp, g, d, tk, os⟩ ∧ ∃ i, (∀ k, k < i → e k = true) ∧ rest = (items.toList.zip items2.toList).drop i ∧
      R (.ok (.ret (.bool (Ob.lexAt e r (decide (items.size ≥ items2.size)) i (min items.size items2.size - i))))) ⟨hp, g, d, tk, os⟩) _
    case turn =>
      rintro ⟨y, x⟩ rest b s' ⟨hb', rfl, i, hpre, hz, hR⟩
      have hlt : i < (items.toList.zip items2.toList).length := by
        rcases Nat.lt_or_ge i (items.toList.zip items2.toList).length with h' | h'
        · exact h'
        · rw [List.drop_of_length_le h'] at hz; cases hz
      have hm : i < min items.size items2.size := hZ ▸ hlt
      have h1 : i < items.size := Nat.lt_of_lt_of_le hm (Nat.min_le_left _ _)
      have h2 : i < items2.size := Nat.lt_of_lt_of_le hm (Nat.min_le_right _ _)
      rw [List.drop_eq_getElem_cons hlt] at hz
      injection hz with hyx hrest
      have hy : y = items[i] := by have := congrArg Prod.fst hyx; simpa using this
      have hx : x = items2[i] := by have := congrArg Prod.snd hyx; simpa using this
      subst hy hx
      rw [show min items.size items2.size - i = (min items.size items2.size - (i + 1)) + 1 by omega, Ob.lexAt_succ] at hR
      refine wpAny_bind (he i h1 h2 prog w _ _ ?_)
      cases hei : e i with
      | true =>
        rw [hei, if_pos rfl] at hR
        wp_walk
        exact ⟨rfl, rfl, i + 1, fun k hk => (Nat.lt_succ_iff_lt_or_eq.mp hk).elim (hpre k) fun q => by rw [q]; exact hei, hrest, hR⟩
      | false =>
        rw [hei, if_neg Bool.false_ne_true] at hR
        have hri := hr i h1 h2 hpre hei prog w
        wp_walk using hri
        exact ⟨_, rfl, by simpa using hR⟩
    case fin =>
      rintro ⟨b1, b2⟩ s' ⟨hb', rfl, i, hpre, hz, hR⟩
      simp only at hb'
      subst hb'
      have hge : min items.size items2.size ≤ i := by
        rcases Nat.lt_or_ge i (items.toList.zip items2.toList).length with h' | h'
        · rw [List.drop_eq_getElem_cons h'] at hz; cases hz
        · exact hZ ▸ h'
      rw [Nat.sub_eq_zero_of_le hge, Ob.lexAt_zero] at hR
      wp_walk
      exact ⟨_, rfl, by simpa [Builtin.Tuple.tupleCompareSizes] using hR⟩
    case h =>
      exact ⟨rfl, rfl, 0, (fun k hk => absurd hk (Nat.not_lt_zero k)), rfl, by simpa using h⟩
theorem t_ge {A : Around} {s : Shared} {l b : Addr} {items items2 : Array Value} {e r : Nat → Bool} (hl : s.heap.IsTuple l items) (hb : s.heap.IsTuple b items2) (hu : A.units < cLine)
    (he : ∀ j (h1 : j < items.size) (h2 : j < items2.size), EqAt A.in1 s items[j] items2[j] (e j))
    (hr : ∀ j (h1 : j < items.size) (h2 : j < items2.size), (∀ i, i < j → e i = true) → e j = false → Ob.RcOp .GtE A.in1 s items[j] items2[j] (r j)) :
    Ob.RcOp .GtE A s (.ref l) (.ref b) (Ob.lexAt e r (decide (items.size ≥ items2.size)) 0 (min items.size items2.size)) := fun prog w E Q h => by
  obtain ⟨⟨cls, dd, data, sl⟩, ho, hc, n, hd⟩ := id hl
  obtain ⟨⟨cls2, dd2, data2, sl2⟩, ho2, hc2, n2, hd2⟩ := id hb
  simp only at hc hd hc2 hd2
  subst hc hd hc2 hd2
  exact richCompare_meets_room (op := .GtE) ⟨_, ho, rfl⟩ ⟨_, ho2, rfl⟩ F.slot_tuple_ge F.entry_tuple_ge (F.args_tuple_ge_2 _ _) (t_geAt l b items items2 n n2 dd dd2 sl sl2 e r)
    ⟨ho, ho2, he, hr, ⟨(fun x => nomatch x), h⟩⟩ hu

end Q
namespace Q
open PySem PySem.SeqAt PySem.W PyProof.Rows
/-! ### plain data, and which of them can be put in order -/
mutual
def plD : PyData → Bool
  | .int _ => true
  | .str x => PyData.strOk x
  | .tuple ds => plA ds
  | _ => false
def plA : List PyData → Bool
  | [] => true
  | d :: ds => plD d && plA ds
end
mutual
/-- the first place that differs can be put in order -/
def okC : PyData → PyData → Bool
  | .int _, .int _ => true
  | .str _, .str _ => true
  | .tuple xs, .tuple ys => okCA xs ys
  | _, _ => false
def okCA : List PyData → List PyData → Bool
  | x :: xs, y :: ys => if PyData.eqv x y = true then okCA xs ys else okC x y
  | [], _ => true
  | _ :: _, [] => true
end
theorem plA_cons {d : PyData} {ds : List PyData} (h : plA (d :: ds) = true) : plD d = true ∧ plA ds = true := Bool.and_eq_true_iff.mp (show (plD d && plA ds) = true from h)
mutual
theorem eqv_pl : ∀ (x y : PyData), plD x = true → plD y = true → (PyData.eqv x y = true ↔ x = y)
  | .int a, .int b, _, _ => by simp [PyData.eqv]
  | .int a, .str b, _, _ => by simp [PyData.eqv]
  | .int a, .tuple b, _, _ => by simp [PyData.eqv]
  | .str a, .int b, _, _ => by simp [PyData.eqv]
  | .str a, .str b, _, _ => by simp [PyData.eqv]
  | .str a, .tuple b, _, _ => by simp [PyData.eqv]
  | .tuple a, .int b, _, _ => by simp [PyData.eqv]
  | .tuple a, .str b, _, _ => by simp [PyData.eqv]
  | .tuple xs, .tuple ys, h1, h2 => by
    rw [PyData.eqv, eqvA_pl xs ys (by simpa [plD] using h1) (by simpa [plD] using h2)]
    simp
  | .none, _, h, _ => by simp [plD] at h
  | .bool _, _, h, _ => by simp [plD] at h
  | .list _, _, h, _ => by simp [plD] at h
  | .dict _, _, h, _ => by simp [plD] at h
  | .int _, .none, _, h => by simp [plD] at h
  | .int _, .bool _, _, h => by simp [plD] at h
  | .int _, .list _, _, h => by simp [plD] at h
  | .int _, .dict _, _, h => by simp [plD] at h
  | .str _, .none, _, h => by simp [plD] at h
  | .str _, .bool _, _, h => by simp [plD] at h
  | .str _, .list _, _, h => by simp [plD] at h
  | .str _, .dict _, _, h => by simp [plD] at h
  | .tuple _, .none, _, h => by simp [plD] at h
  | .tuple _, .bool _, _, h => by simp [plD] at h
  | .tuple _, .list _, _, h => by simp [plD] at h
  | .tuple _, .dict _, _, h => by simp [plD] at h
theorem eqvA_pl : ∀ (xs ys : List PyData), plA xs = true → plA ys = true → (PyData.eqvAll xs ys = true ↔ xs = ys)
  | [], [], _, _ => by simp [PyData.eqvAll]
  | [], _ :: _, _, _ => by simp [PyData.eqvAll]
  | _ :: _, [], _, _ => by simp [PyData.eqvAll]
  | x :: xs, y :: ys, h1, h2 => by
    rw [PyData.eqvAll, Bool.and_eq_true, eqv_pl x y (plA_cons h1).1 (plA_cons h2).1, eqvA_pl xs ys (plA_cons h1).2 (plA_cons h2).2]
    simp
end
theorem eqv_ne {x y : PyData} (h1 : plD x = true) (h2 : plD y = true) (h : x ≠ y) : PyData.eqv x y = false := by
  cases q : PyData.eqv x y with
  | true => exact absurd ((eqv_pl x y h1 h2).mp q) h
  | false => rfl
mutual
theorem pl_lay : ∀ d : PyData, plD d = true → d.canLay0 = true
  | .int _, _ => by simp [PyData.canLay0]
  | .str _, h => by simpa [PyData.canLay0, plD] using h
  | .tuple ds, h => by
    rw [PyData.canLay0]
    exact plA_lay ds (by simpa [plD] using h)
  | .none, h => by simp [plD] at h
  | .bool _, h => by simp [plD] at h
  | .list _, h => by simp [plD] at h
  | .dict _, h => by simp [plD] at h
theorem plA_lay : ∀ ds : List PyData, plA ds = true → PyData.canLayAll0 ds = true
  | [], _ => by simp [PyData.canLayAll0]
  | d :: ds, h => by
    rw [PyData.canLayAll0, pl_lay d (plA_cons h).1, plA_lay ds (plA_cons h).2]
    rfl
end
theorem okC_tup {xs ys : List PyData} (h : okC (.tuple xs) (.tuple ys) = true) : okCA xs ys = true := by
  rw [okC] at h
  exact h
theorem okCA_yes {x : PyData} {xs ys : List PyData} (hx : plD x = true) (h : okCA (x :: xs) (x :: ys) = true) : okCA xs ys = true := by
  rw [okCA, if_pos ((eqv_pl x x hx hx).mpr rfl)] at h
  exact h
theorem okCA_no {x y : PyData} {xs ys : List PyData} (hx : plD x = true) (hy : plD y = true) (e : x ≠ y) (h : okCA (x :: xs) (y :: ys) = true) : okC x y = true := by
  rw [okCA, if_neg (fun z => e ((eqv_pl x y hx hy).mp z))] at h
  exact h
/-! ### the order as a row of signs -/
theorem toksA_yes (x : PyData) (X Y : List PyData) (l m : List (Int ⊕ List Nat)) : PyProof.Rows.lexLt itemOrd (keyToksAll (x :: X) ++ l) (keyToksAll (x :: Y) ++ m) = PyProof.Rows.lexLt itemOrd (keyToksAll X ++ l) (keyToksAll Y ++ m) := by
  rw [toks_all_cons, toks_all_cons]
  simp only [List.cons_append, List.append_assoc]
  exact (lex_self (O := itemOrd) _ _ _).trans (lex_pre _ _ _)
mutual
theorem tk1 : ∀ (x y : PyData), plD x = true → plD y = true → okC x y = true → x ≠ y → ∀ l m, PyProof.Rows.lexLt itemOrd (keyToks x ++ l) (keyToks y ++ m) = dataLt x y
  | .int a, y, _, _, ok, ne, l, m => by
    cases y with
    | int b =>
      unfold dataLt
      simp only [keyToks, List.cons_append, List.nil_append]
      exact lex_atom (fun q => ne (by rw [Sum.inl.inj q])) l m
    | _ => simp [okC] at ok
  | .str a, y, _, _, ok, ne, l, m => by
    cases y with
    | str b =>
      unfold dataLt
      simp only [keyToks, List.cons_append, List.nil_append]
      exact lex_atom (fun q => ne (by rw [str_of_cps (Sum.inr.inj q)])) l m
    | _ => simp [okC] at ok
  | .tuple xs, y, h1, h2, ok, ne, l, m => by
    cases y with
    | tuple ys =>
      have t := tkA xs ys (by simpa [plD] using h1) (by simpa [plD] using h2) (okC_tup ok) (fun q => ne (by rw [q])) l m
      rw [dataLt_tuple]
      simp only [keyToks]
      exact t
    | _ => simp [okC] at ok
  | .none, _, h, _, _, _, _, _ => by simp [plD] at h
  | .bool _, _, h, _, _, _, _, _ => by simp [plD] at h
  | .list _, _, h, _, _, _, _, _ => by simp [plD] at h
  | .dict _, _, h, _, _, _, _, _ => by simp [plD] at h
theorem tkA : ∀ (xs ys : List PyData), plA xs = true → plA ys = true → okCA xs ys = true → xs ≠ ys → ∀ l m, PyProof.Rows.lexLt itemOrd (keyToksAll xs ++ l) (keyToksAll ys ++ m) = PyProof.Rows.lexLt itemOrd (keyToksAll xs) (keyToksAll ys)
  | [], [], _, _, _, ne, _, _ => absurd rfl ne
  | [], y :: ys, _, _, _, _, l, m => by
    rw [toks_all_cons]
    simp only [keyToksAll, List.cons_append, List.nil_append]
    exact (lex_diff (O := itemOrd) (by simp)).trans (lex_diff (O := itemOrd) (by simp)).symm
  | x :: xs, [], _, _, _, _, l, m => by
    rw [toks_all_cons]
    simp only [keyToksAll, List.cons_append, List.nil_append]
    exact (lex_diff (O := itemOrd) (by simp)).trans (lex_diff (O := itemOrd) (by simp)).symm
  | x :: xs, y :: ys, h1, h2, ok, ne, l, m => by
    by_cases e : x = y
    · subst e
      have b := tkA xs ys (plA_cons h1).2 (plA_cons h2).2 (okCA_yes (plA_cons h1).1 ok) (fun q => ne (by rw [q])) l m
      rw [toksA_yes, b]
      have z := toksA_yes x xs ys [] []
      simp only [List.append_nil] at z
      exact z.symm
    · have a := tk1 x y (plA_cons h1).1 (plA_cons h2).1 (okCA_no (plA_cons h1).1 (plA_cons h2).1 e ok) e
      rw [toks_all_cons, toks_all_cons]
      simp only [List.cons_append, List.append_assoc]
      exact (lex_self (O := itemOrd) _ _ _).trans ((a _ _).trans ((a _ _).symm.trans (lex_self (O := itemOrd) _ _ _).symm))
end
theorem ltA_yes (x : PyData) (xs ys : List PyData) : PyProof.Rows.lexLt itemOrd (keyToksAll (x :: xs)) (keyToksAll (x :: ys)) = PyProof.Rows.lexLt itemOrd (keyToksAll xs) (keyToksAll ys) := by
  have z := toksA_yes x xs ys [] []
  simp only [List.append_nil] at z
  exact z
theorem ltA_no {x y : PyData} (h1 : plD x = true) (h2 : plD y = true) (ok : okC x y = true) (e : x ≠ y) (xs ys : List PyData) : PyProof.Rows.lexLt itemOrd (keyToksAll (x :: xs)) (keyToksAll (y :: ys)) = dataLt x y := by
  rw [toks_all_cons, toks_all_cons]
  exact (lex_self (O := itemOrd) _ _ _).trans (tk1 x y h1 h2 ok e _ _)
theorem lexAt_shift (e r : Nat → Bool) (z : Bool) : ∀ k i, Ob.lexAt e r z (i + 1) k = Ob.lexAt (fun j => e (j + 1)) (fun j => r (j + 1)) z i k
  | 0, _ => rfl
  | k + 1, i => by
    rw [Ob.lexAt_succ, Ob.lexAt_succ, lexAt_shift e r z k (i + 1)]
theorem lexAt_not (e r : Nat → Bool) (z : Bool) : ∀ k i, Ob.lexAt e (fun j => !r j) (!z) i k = !Ob.lexAt e r z i k
  | 0, _ => rfl
  | k + 1, i => by
    rw [Ob.lexAt_succ, Ob.lexAt_succ, lexAt_not e r z k (i + 1)]
    cases e i <;> rfl
theorem lexAt_toks : ∀ (xs ys : List PyData), plA xs = true → plA ys = true → okCA xs ys = true →
    Ob.lexAt (pairEq xs ys) (fun j => dataLt (xs.getD j .none) (ys.getD j .none)) (decide (xs.length < ys.length)) 0 (min xs.length ys.length) = PyProof.Rows.lexLt itemOrd (keyToksAll xs) (keyToksAll ys)
  | [], [], _, _, _ => by simp [Ob.lexAt, keyToksAll, lex_irrefl]
  | [], y :: ys, _, _, _ => by
    rw [toks_all_cons]
    simp only [keyToksAll]
    rw [lex_diff (O := itemOrd) (by simp)]
    simp [Ob.lexAt, itemLt]
  | x :: xs, [], _, _, _ => by
    rw [toks_all_cons]
    simp only [keyToksAll]
    rw [lex_diff (O := itemOrd) (by simp)]
    simp [Ob.lexAt, itemLt]
  | x :: xs, y :: ys, h1, h2, ok => by
    have em : min (x :: xs).length (y :: ys).length = min xs.length ys.length + 1 := by
      rw [List.length_cons, List.length_cons]
      omega
    have ed : decide ((x :: xs).length < (y :: ys).length) = decide (xs.length < ys.length) := by
      rw [List.length_cons, List.length_cons]
      exact decide_eq_decide.mpr (by omega)
    rw [em, ed, Ob.lexAt_succ, lexAt_shift]
    by_cases e : x = y
    · subst e
      rw [if_pos (show pairEq (x :: xs) (x :: ys) 0 = true from (eqv_pl x x (plA_cons h1).1 (plA_cons h1).1).mpr rfl), ltA_yes, ← lexAt_toks xs ys (plA_cons h1).2 (plA_cons h2).2 (okCA_yes (plA_cons h1).1 ok)]
      rfl
    · rw [if_neg (show ¬ pairEq (x :: xs) (y :: ys) 0 = true from fun z => e ((eqv_pl x y (plA_cons h1).1 (plA_cons h2).1).mp z)), ltA_no (plA_cons h1).1 (plA_cons h2).1 (okCA_no (plA_cons h1).1 (plA_cons h2).1 e ok) e]
      rfl
theorem eqv_comm {x y : PyData} (h1 : plD x = true) (h2 : plD y = true) : PyData.eqv x y = PyData.eqv y x := by
  by_cases e : x = y
  · rw [e]
  · rw [eqv_ne h1 h2 e, eqv_ne h2 h1 fun z => e z.symm]
mutual
theorem okC_comm : ∀ (x y : PyData), plD x = true → plD y = true → okC x y = okC y x
  | .int a, y, _, _ => by cases y <;> simp [okC]
  | .str a, y, _, _ => by cases y <;> simp [okC]
  | .tuple xs, y, h1, h2 => by
    cases y with
    | tuple ys =>
      rw [okC, okC]
      exact okCA_comm xs ys (by simpa [plD] using h1) (by simpa [plD] using h2)
    | _ => simp [okC]
  | .none, _, h, _ => by simp [plD] at h
  | .bool _, _, h, _ => by simp [plD] at h
  | .list _, _, h, _ => by simp [plD] at h
  | .dict _, _, h, _ => by simp [plD] at h
theorem okCA_comm : ∀ (xs ys : List PyData), plA xs = true → plA ys = true → okCA xs ys = okCA ys xs
  | [], [], _, _ => by simp [okCA]
  | [], _ :: _, _, _ => by simp [okCA]
  | _ :: _, [], _, _ => by simp [okCA]
  | x :: xs, y :: ys, h1, h2 => by
    rw [okCA, okCA, eqv_comm (plA_cons h1).1 (plA_cons h2).1, okC_comm x y (plA_cons h1).1 (plA_cons h2).1, okCA_comm xs ys (plA_cons h1).2 (plA_cons h2).2]
end
theorem getD_pl : ∀ {xs : List PyData} {j : Nat}, plA xs = true → j < xs.length → plD (xs.getD j .none) = true
  | x :: xs, 0, h, _ => (plA_cons h).1
  | x :: xs, j + 1, h, hj => by
    have := getD_pl (xs := xs) (j := j) (plA_cons h).2 (by simpa using hj)
    simpa using this
theorem pairEq_comm : ∀ {xs ys : List PyData}, plA xs = true → plA ys = true → ∀ k i, i + k ≤ min xs.length ys.length → ∀ r z, Ob.lexAt (pairEq xs ys) r z i k = Ob.lexAt (pairEq ys xs) r z i k
  | xs, ys, h1, h2, 0, i, _, r, z => rfl
  | xs, ys, h1, h2, k + 1, i, hi, r, z => by
    have e : pairEq xs ys i = pairEq ys xs i := eqv_comm (getD_pl h1 (by omega)) (getD_pl h2 (by omega))
    rw [Ob.lexAt_succ, Ob.lexAt_succ, e, pairEq_comm h1 h2 k (i + 1) (by omega)]
theorem lexAt_le (xs ys : List PyData) (h1 : plA xs = true) (h2 : plA ys = true) (ok : okCA xs ys = true) :
    Ob.lexAt (pairEq xs ys) (fun j => !dataLt (ys.getD j .none) (xs.getD j .none)) (decide (xs.length ≤ ys.length)) 0 (min xs.length ys.length) = !PyProof.Rows.lexLt itemOrd (keyToksAll ys) (keyToksAll xs) := by
  have e : decide (xs.length ≤ ys.length) = !decide (ys.length < xs.length) := by
    by_cases h : xs.length ≤ ys.length
    · rw [decide_eq_true h, decide_eq_false (by omega)]
      rfl
    · rw [decide_eq_false h, decide_eq_true (by omega)]
      rfl
  rw [e, lexAt_not, pairEq_comm h1 h2 _ 0 (by omega), Nat.min_comm, lexAt_toks ys xs h2 h1 (by rw [← okCA_comm xs ys h1 h2]; exact ok)]
theorem lexAt_ge (xs ys : List PyData) (h1 : plA xs = true) (h2 : plA ys = true) (ok : okCA xs ys = true) :
    Ob.lexAt (pairEq xs ys) (fun j => !dataLt (xs.getD j .none) (ys.getD j .none)) (decide (xs.length ≥ ys.length)) 0 (min xs.length ys.length) = !PyProof.Rows.lexLt itemOrd (keyToksAll xs) (keyToksAll ys) := by
  have e : decide (xs.length ≥ ys.length) = !decide (xs.length < ys.length) := by
    by_cases h : xs.length ≥ ys.length
    · rw [decide_eq_true h, decide_eq_false (by omega)]
      rfl
    · rw [decide_eq_false h, decide_eq_true (by omega)]
      rfl
  rw [e, lexAt_not, lexAt_toks xs ys h1 h2 ok]
theorem lexAt_lt (xs ys : List PyData) (h1 : plA xs = true) (h2 : plA ys = true) (ok : okCA xs ys = true) :
    Ob.lexAt (pairEq xs ys) (fun j => dataLt (xs.getD j .none) (ys.getD j .none)) (decide (xs.length < ys.length)) 0 (min xs.length ys.length) = PyProof.Rows.lexLt itemOrd (keyToksAll xs) (keyToksAll ys) := lexAt_toks xs ys h1 h2 ok

mutual
theorem rc_lt : ∀ (da db : PyData) (A : Around) (s : Shared) (a b : Value) (as bs : List Addr), Reads s.heap a da as → Reads s.heap b db bs → plD da = true → plD db = true → okC da db = true → A.units + min da.depth db.depth < cLine → Ob.RcOp .Lt A s a b (dataLt (da) (db))
  | .int x, db, A, s, a, b, as, bs, ra, rb, h1, h2, ok, hu => by
    cases db with
    | int y => exact fun prog w E Q hq => lt_data ra rb (by simp [alike]) (by simp) hu hq
    | _ => simp [okC] at ok
  | .str x, db, A, s, a, b, as, bs, ra, rb, h1, h2, ok, hu => by
    cases db with
    | str y => exact fun prog w E Q hq => lt_data ra rb (by simp [alike]) (by simp) hu hq
    | _ => simp [okC] at ok
  | .tuple xs, db, A, s, a, b, as, bs, ra, rb, h1, h2, ok, hu => by
    cases db with
    | tuple ys =>
      have p1 : plA xs = true := by simpa [plD] using h1
      have p2 : plA ys = true := by simpa [plD] using h2
      have ok' := okC_tup ok
      cases ra with
      | @tuple l o vs n _ as₁ g1 g2 g3 g4 =>
        cases rb with
        | @tuple l' o' vs' n' _ bs₁ k1 k2 k3 k4 =>
          have n1 : vs.size = xs.length := by simpa using ReadsAll.length _ _ _ g4
          have n2 : vs'.size = ys.length := by simpa using ReadsAll.length _ _ _ k4
          have e : (dataLt (PyData.tuple xs) (PyData.tuple ys)) = Ob.lexAt (pairEq xs ys) (fun j => dataLt (xs.getD j .none) (ys.getD j .none)) (decide (xs.length < ys.length)) 0 (min xs.length ys.length) := by
            rw [dataLt_tuple, lexAt_lt xs ys p1 p2 ok']
          rw [e, ← n1, ← n2]
          refine t_lt ⟨_, g1, g2, _, g3⟩ ⟨_, k1, k2, _, k3⟩ (room_here hu) (fun j j1 j2 => ?_) fun j j1 j2 hp hj => ?_
          · have := eqAt_readsAll xs ys A.in1 s vs.toList vs'.toList _ _ g4 k4 (plA_lay xs p1) (plA_lay ys p2) (room_in hu) j (by simpa using j1) (by simpa using j2)
            simpa using this
          · have := rc_ltA xs ys A.in1 s vs.toList vs'.toList _ _ g4 k4 p1 p2 ok' (room_in hu) j (by simpa using j1) (by simpa using j2) hp hj
            simpa using this
    | _ => simp [okC] at ok
  | .none, _, _, _, _, _, _, _, _, _, h, _, _, _ => by simp [plD] at h
  | .bool _, _, _, _, _, _, _, _, _, _, h, _, _, _ => by simp [plD] at h
  | .list _, _, _, _, _, _, _, _, _, _, h, _, _, _ => by simp [plD] at h
  | .dict _, _, _, _, _, _, _, _, _, _, h, _, _, _ => by simp [plD] at h
theorem rc_ltA : ∀ (xs ys : List PyData) (A : Around) (s : Shared) (vs ws : List Value) (as bs : List Addr), ReadsAll s.heap vs xs as → ReadsAll s.heap ws ys bs → plA xs = true → plA ys = true → okCA xs ys = true →
    A.units + min (PyData.depthAll xs) (PyData.depthAll ys) < cLine → ∀ j (h1 : j < vs.length) (h2 : j < ws.length), (∀ i, i < j → pairEq xs ys i = true) → pairEq xs ys j = false → Ob.RcOp .Lt A s vs[j] ws[j] (dataLt (xs.getD j .none) (ys.getD j .none))
  | [], _, _, _, _, _, _, _, ra, _, _, _, _, _, j, h1, _, _, _ => by cases ra; exact absurd h1 (Nat.not_lt_zero _)
  | _ :: _, [], _, _, _, _, _, _, _, rb, _, _, _, _, j, _, h2, _, _ => by cases rb; exact absurd h2 (Nat.not_lt_zero _)
  | x :: xs, y :: ys, A, s, _, _, _, _, ra, rb, h1, h2, ok, hu, j, j1, j2, hp, hj => by
    cases ra with
    | cons r rs =>
      cases rb with
      | cons r' rs' =>
        cases j with
        | zero =>
          have e : x ≠ y := fun z => by
            subst z
            have q : PyData.eqv x x = false := hj
            rw [(eqv_pl x x (plA_cons h1).1 (plA_cons h1).1).mpr rfl] at q
            cases q
          exact rc_lt x y A s _ _ _ _ r r' (plA_cons h1).1 (plA_cons h2).1 (okCA_no (plA_cons h1).1 (plA_cons h2).1 e ok) (room_head hu)
        | succ j =>
          have e : x = y := (eqv_pl x y (plA_cons h1).1 (plA_cons h2).1).mp (hp 0 (Nat.succ_pos j))
          subst e
          exact rc_ltA xs ys A s _ _ _ _ rs rs' (plA_cons h1).2 (plA_cons h2).2 (okCA_yes (plA_cons h1).1 ok) (room_tail hu) j (Nat.lt_of_succ_lt_succ j1) (Nat.lt_of_succ_lt_succ j2) (fun i hi => hp (i + 1) (Nat.succ_lt_succ hi)) hj
end
mutual
theorem rc_le : ∀ (da db : PyData) (A : Around) (s : Shared) (a b : Value) (as bs : List Addr), Reads s.heap a da as → Reads s.heap b db bs → plD da = true → plD db = true → okC da db = true → A.units + min da.depth db.depth < cLine → Ob.RcOp .LtE A s a b (!dataLt (db) (da))
  | .int x, db, A, s, a, b, as, bs, ra, rb, h1, h2, ok, hu => by
    cases db with
    | int y => exact fun prog w E Q hq => le_data ra rb (by simp [alike]) (by simp) hu hq
    | _ => simp [okC] at ok
  | .str x, db, A, s, a, b, as, bs, ra, rb, h1, h2, ok, hu => by
    cases db with
    | str y => exact fun prog w E Q hq => le_data ra rb (by simp [alike]) (by simp) hu hq
    | _ => simp [okC] at ok
  | .tuple xs, db, A, s, a, b, as, bs, ra, rb, h1, h2, ok, hu => by
    cases db with
    | tuple ys =>
      have p1 : plA xs = true := by simpa [plD] using h1
      have p2 : plA ys = true := by simpa [plD] using h2
      have ok' := okC_tup ok
      cases ra with
      | @tuple l o vs n _ as₁ g1 g2 g3 g4 =>
        cases rb with
        | @tuple l' o' vs' n' _ bs₁ k1 k2 k3 k4 =>
          have n1 : vs.size = xs.length := by simpa using ReadsAll.length _ _ _ g4
          have n2 : vs'.size = ys.length := by simpa using ReadsAll.length _ _ _ k4
          have e : (!dataLt (PyData.tuple ys) (PyData.tuple xs)) = Ob.lexAt (pairEq xs ys) (fun j => !dataLt (ys.getD j .none) (xs.getD j .none)) (decide (xs.length ≤ ys.length)) 0 (min xs.length ys.length) := by
            rw [dataLt_tuple, lexAt_le xs ys p1 p2 ok']
          rw [e, ← n1, ← n2]
          refine t_le ⟨_, g1, g2, _, g3⟩ ⟨_, k1, k2, _, k3⟩ (room_here hu) (fun j j1 j2 => ?_) fun j j1 j2 hp hj => ?_
          · have := eqAt_readsAll xs ys A.in1 s vs.toList vs'.toList _ _ g4 k4 (plA_lay xs p1) (plA_lay ys p2) (room_in hu) j (by simpa using j1) (by simpa using j2)
            simpa using this
          · have := rc_leA xs ys A.in1 s vs.toList vs'.toList _ _ g4 k4 p1 p2 ok' (room_in hu) j (by simpa using j1) (by simpa using j2) hp hj
            simpa using this
    | _ => simp [okC] at ok
  | .none, _, _, _, _, _, _, _, _, _, h, _, _, _ => by simp [plD] at h
  | .bool _, _, _, _, _, _, _, _, _, _, h, _, _, _ => by simp [plD] at h
  | .list _, _, _, _, _, _, _, _, _, _, h, _, _, _ => by simp [plD] at h
  | .dict _, _, _, _, _, _, _, _, _, _, h, _, _, _ => by simp [plD] at h
theorem rc_leA : ∀ (xs ys : List PyData) (A : Around) (s : Shared) (vs ws : List Value) (as bs : List Addr), ReadsAll s.heap vs xs as → ReadsAll s.heap ws ys bs → plA xs = true → plA ys = true → okCA xs ys = true →
    A.units + min (PyData.depthAll xs) (PyData.depthAll ys) < cLine → ∀ j (h1 : j < vs.length) (h2 : j < ws.length), (∀ i, i < j → pairEq xs ys i = true) → pairEq xs ys j = false → Ob.RcOp .LtE A s vs[j] ws[j] (!dataLt (ys.getD j .none) (xs.getD j .none))
  | [], _, _, _, _, _, _, _, ra, _, _, _, _, _, j, h1, _, _, _ => by cases ra; exact absurd h1 (Nat.not_lt_zero _)
  | _ :: _, [], _, _, _, _, _, _, _, rb, _, _, _, _, j, _, h2, _, _ => by cases rb; exact absurd h2 (Nat.not_lt_zero _)
  | x :: xs, y :: ys, A, s, _, _, _, _, ra, rb, h1, h2, ok, hu, j, j1, j2, hp, hj => by
    cases ra with
    | cons r rs =>
      cases rb with
      | cons r' rs' =>
        cases j with
        | zero =>
          have e : x ≠ y := fun z => by
            subst z
            have q : PyData.eqv x x = false := hj
            rw [(eqv_pl x x (plA_cons h1).1 (plA_cons h1).1).mpr rfl] at q
            cases q
          exact rc_le x y A s _ _ _ _ r r' (plA_cons h1).1 (plA_cons h2).1 (okCA_no (plA_cons h1).1 (plA_cons h2).1 e ok) (room_head hu)
        | succ j =>
          have e : x = y := (eqv_pl x y (plA_cons h1).1 (plA_cons h2).1).mp (hp 0 (Nat.succ_pos j))
          subst e
          exact rc_leA xs ys A s _ _ _ _ rs rs' (plA_cons h1).2 (plA_cons h2).2 (okCA_yes (plA_cons h1).1 ok) (room_tail hu) j (Nat.lt_of_succ_lt_succ j1) (Nat.lt_of_succ_lt_succ j2) (fun i hi => hp (i + 1) (Nat.succ_lt_succ hi)) hj
end
mutual
theorem rc_ge : ∀ (da db : PyData) (A : Around) (s : Shared) (a b : Value) (as bs : List Addr), Reads s.heap a da as → Reads s.heap b db bs → plD da = true → plD db = true → okC da db = true → A.units + min da.depth db.depth < cLine → Ob.RcOp .GtE A s a b (!dataLt (da) (db))
  | .int x, db, A, s, a, b, as, bs, ra, rb, h1, h2, ok, hu => by
    cases db with
    | int y => exact fun prog w E Q hq => ge_data ra rb (by simp [alike]) (by simp) hu hq
    | _ => simp [okC] at ok
  | .str x, db, A, s, a, b, as, bs, ra, rb, h1, h2, ok, hu => by
    cases db with
    | str y => exact fun prog w E Q hq => ge_data ra rb (by simp [alike]) (by simp) hu hq
    | _ => simp [okC] at ok
  | .tuple xs, db, A, s, a, b, as, bs, ra, rb, h1, h2, ok, hu => by
    cases db with
    | tuple ys =>
      have p1 : plA xs = true := by simpa [plD] using h1
      have p2 : plA ys = true := by simpa [plD] using h2
      have ok' := okC_tup ok
      cases ra with
      | @tuple l o vs n _ as₁ g1 g2 g3 g4 =>
        cases rb with
        | @tuple l' o' vs' n' _ bs₁ k1 k2 k3 k4 =>
          have n1 : vs.size = xs.length := by simpa using ReadsAll.length _ _ _ g4
          have n2 : vs'.size = ys.length := by simpa using ReadsAll.length _ _ _ k4
          have e : (!dataLt (PyData.tuple xs) (PyData.tuple ys)) = Ob.lexAt (pairEq xs ys) (fun j => !dataLt (xs.getD j .none) (ys.getD j .none)) (decide (xs.length ≥ ys.length)) 0 (min xs.length ys.length) := by
            rw [dataLt_tuple, lexAt_ge xs ys p1 p2 ok']
          rw [e, ← n1, ← n2]
          refine t_ge ⟨_, g1, g2, _, g3⟩ ⟨_, k1, k2, _, k3⟩ (room_here hu) (fun j j1 j2 => ?_) fun j j1 j2 hp hj => ?_
          · have := eqAt_readsAll xs ys A.in1 s vs.toList vs'.toList _ _ g4 k4 (plA_lay xs p1) (plA_lay ys p2) (room_in hu) j (by simpa using j1) (by simpa using j2)
            simpa using this
          · have := rc_geA xs ys A.in1 s vs.toList vs'.toList _ _ g4 k4 p1 p2 ok' (room_in hu) j (by simpa using j1) (by simpa using j2) hp hj
            simpa using this
    | _ => simp [okC] at ok
  | .none, _, _, _, _, _, _, _, _, _, h, _, _, _ => by simp [plD] at h
  | .bool _, _, _, _, _, _, _, _, _, _, h, _, _, _ => by simp [plD] at h
  | .list _, _, _, _, _, _, _, _, _, _, h, _, _, _ => by simp [plD] at h
  | .dict _, _, _, _, _, _, _, _, _, _, h, _, _, _ => by simp [plD] at h
theorem rc_geA : ∀ (xs ys : List PyData) (A : Around) (s : Shared) (vs ws : List Value) (as bs : List Addr), ReadsAll s.heap vs xs as → ReadsAll s.heap ws ys bs → plA xs = true → plA ys = true → okCA xs ys = true →
    A.units + min (PyData.depthAll xs) (PyData.depthAll ys) < cLine → ∀ j (h1 : j < vs.length) (h2 : j < ws.length), (∀ i, i < j → pairEq xs ys i = true) → pairEq xs ys j = false → Ob.RcOp .GtE A s vs[j] ws[j] (!dataLt (xs.getD j .none) (ys.getD j .none))
  | [], _, _, _, _, _, _, _, ra, _, _, _, _, _, j, h1, _, _, _ => by cases ra; exact absurd h1 (Nat.not_lt_zero _)
  | _ :: _, [], _, _, _, _, _, _, _, rb, _, _, _, _, j, _, h2, _, _ => by cases rb; exact absurd h2 (Nat.not_lt_zero _)
  | x :: xs, y :: ys, A, s, _, _, _, _, ra, rb, h1, h2, ok, hu, j, j1, j2, hp, hj => by
    cases ra with
    | cons r rs =>
      cases rb with
      | cons r' rs' =>
        cases j with
        | zero =>
          have e : x ≠ y := fun z => by
            subst z
            have q : PyData.eqv x x = false := hj
            rw [(eqv_pl x x (plA_cons h1).1 (plA_cons h1).1).mpr rfl] at q
            cases q
          exact rc_ge x y A s _ _ _ _ r r' (plA_cons h1).1 (plA_cons h2).1 (okCA_no (plA_cons h1).1 (plA_cons h2).1 e ok) (room_head hu)
        | succ j =>
          have e : x = y := (eqv_pl x y (plA_cons h1).1 (plA_cons h2).1).mp (hp 0 (Nat.succ_pos j))
          subst e
          exact rc_geA xs ys A s _ _ _ _ rs rs' (plA_cons h1).2 (plA_cons h2).2 (okCA_yes (plA_cons h1).1 ok) (room_tail hu) j (Nat.lt_of_succ_lt_succ j1) (Nat.lt_of_succ_lt_succ j2) (fun i hi => hp (i + 1) (Nat.succ_lt_succ hi)) hj
end
end Q
namespace Q
open PySem PySem.SeqAt PySem.W PyProof.Rows L2
/-! ### a <= b, a >= b of data -/
def OrdD (d e : PyData) : Prop := plD d = true ∧ plD e = true ∧ okC d e = true ∧ d.depth ≤ 60
def rLeD (K : PySem.W.Frag) : R2 := fun x y H Q => ∃ d e, Dp K H x d ∧ Dp K H y e ∧ OrdD d e ∧ Q (.bl (!dataLt e d)) H
def rGeD (K : PySem.W.Frag) : R2 := fun x y H Q => ∃ d e, Dp K H x d ∧ Dp K H y e ∧ OrdD d e ∧ Q (.bl (!dataLt d e)) H
theorem op_leD {X : Cx} (hu : X.A.units + 64 < cLine) : OpR X (compareOp .LtE) (rLeD X.K) := by
  intro pins s σ H x y v u Q I rx ry h
  obtain ⟨d, e, hd, he, ⟨pd, pe, ok, dp⟩, q⟩ := h
  obtain ⟨as, r1⟩ := Dp.reads I d x v hd rx
  obtain ⟨bs, r2⟩ := Dp.reads I e y u he ry
  have R := rc_le d e X.A s v u as bs r1 r2 pd pe ok (by omega)
  have z : wpAny (model X.prog X.w) X.A (compareOp .LtE v u) (EP X pins σ Q) X.xe s := R X.prog X.w X.xe (EP X pins σ Q) ⟨.bl _, H, I, rfl, q⟩
  exact z
theorem op_geD {X : Cx} (hu : X.A.units + 64 < cLine) : OpR X (compareOp .GtE) (rGeD X.K) := by
  intro pins s σ H x y v u Q I rx ry h
  obtain ⟨d, e, hd, he, ⟨pd, pe, ok, dp⟩, q⟩ := h
  obtain ⟨as, r1⟩ := Dp.reads I d x v hd rx
  obtain ⟨bs, r2⟩ := Dp.reads I e y u he ry
  have R := rc_ge d e X.A s v u as bs r1 r2 pd pe ok (by omega)
  have z : wpAny (model X.prog X.w) X.A (compareOp .GtE v u) (EP X pins σ Q) X.xe s := R X.prog X.w X.xe (EP X pins σ Q) ⟨.bl _, H, I, rfl, q⟩
  exact z
/-! ### values that read as plain data -/
mutual
theorem pl_unique {h : Heap} : ∀ (d d' : PyData) (v : Value) (as as' : List Addr), plD d = true → plD d' = true → Reads h v d as → Reads h v d' as' → d = d'
  | .int _, _, _, _, _, _, p', r, r' => by
    cases r
    cases r'
    rfl
  | .str _, _, _, _, _, _, p', r, r' => by
    cases r
    cases r'
    rfl
  | .tuple xs, d', _, _, _, p, p', r, r' => by
    cases r with
    | tuple h1 h2 h3 h4 =>
      cases r' with
      | tuple k1 k2 k3 k4 =>
        rw [h1] at k1; cases k1
        rw [h3] at k3; cases k3
        rw [plA_unique xs _ _ _ _ (by simpa [plD] using p) (by simpa [plD] using p') h4 k4]
      | list k1 k2 k3 k4 => simp [plD] at p'
      | dict k1 k2 k3 k4 k5 => simp [plD] at p'
  | .none, _, _, _, _, h, _, _, _ => by simp [plD] at h
  | .bool _, _, _, _, _, h, _, _, _ => by simp [plD] at h
  | .list _, _, _, _, _, h, _, _, _ => by simp [plD] at h
  | .dict _, _, _, _, _, h, _, _, _ => by simp [plD] at h
theorem plA_unique {h : Heap} : ∀ (xs ys : List PyData) (vs : List Value) (as as' : List Addr), plA xs = true → plA ys = true → ReadsAll h vs xs as → ReadsAll h vs ys as' → xs = ys
  | [], ys, _, _, _, _, _, r, r' => by cases r; cases r'; rfl
  | x :: xs, [], _, _, _, _, _, r, r' => by cases r'; cases r
  | x :: xs, y :: ys, _, _, _, p, p', r, r' => by
    cases r with
    | cons h1 h2 =>
      cases r' with
      | cons k1 k2 => rw [pl_unique x y _ _ _ (plA_cons p).1 (plA_cons p').1 h1 k1, plA_unique xs ys _ _ _ (plA_cons p).2 (plA_cons p').2 h2 k2]
end
/-- what a value reads as, among ds -/
noncomputable def datOf (h : Heap) (ds : List PyData) (v : Value) : PyData := open Classical in if q : ∃ d, d ∈ ds ∧ ∃ as, Reads h v d as then q.choose else .none
theorem datOf_eq {h : Heap} {ds : List PyData} {v : Value} {d : PyData} {as : List Addr} (hp : ∀ d ∈ ds, plD d = true) (hd : d ∈ ds) (r : Reads h v d as) : datOf h ds v = d := by
  have q : ∃ d, d ∈ ds ∧ ∃ as, Reads h v d as := ⟨d, hd, as, r⟩
  have e : datOf h ds v = q.choose := by
    unfold datOf
    exact dif_pos q
  obtain ⟨h1, as', h2⟩ := q.choose_spec
  rw [e]
  exact pl_unique _ _ _ _ _ (hp _ h1) (hp _ hd) h2 r
theorem datOf_map {h : Heap} {ds : List PyData} (hp : ∀ d ∈ ds, plD d = true) : ∀ {vs : List Value} {es : List PyData} {as : List Addr}, (∀ e ∈ es, e ∈ ds) → ReadsAll h vs es as → vs.map (datOf h ds) = es
  | _, [], _, _, r => by cases r; rfl
  | _, e :: es, _, m, r => by
    cases r with
    | cons h1 h2 =>
      rw [List.map_cons, datOf_eq hp (m e (List.mem_cons_self ..)) h1, datOf_map hp (fun e he => m e (List.mem_cons_of_mem _ he)) h2]
theorem readsAll_mem {h : Heap} : ∀ {vs : List Value} {es : List PyData} {as : List Addr} {v : Value}, ReadsAll h vs es as → v ∈ vs → ∃ d as', d ∈ es ∧ Reads h v d as'
  | _, [], _, _, r, m => by
    cases r
    cases m
  | _, e :: es, _, v, r, m => by
    cases r with
    | cons h1 h2 =>
      rcases List.mem_cons.mp m with q | m
      · subst q
        exact ⟨e, _, List.mem_cons_self .., h1⟩
      · obtain ⟨d, as', hd, hr⟩ := readsAll_mem h2 m
        exact ⟨d, as', List.mem_cons_of_mem _ hd, hr⟩
/-! ### sorting -/
theorem dataLt_swo : SrtO.Swo dataLt := by
  refine ⟨fun x y h => ?_, fun x y z h1 h2 => ?_⟩
  · cases q : dataLt y x with
    | false => rfl
    | true =>
      have z : dataLt x x = true := lex_trans (O := itemOrd) _ _ _ h q
      unfold dataLt at z
      rw [lex_irrefl] at z
      cases z
  · cases q : dataLt z x with
    | false => rfl
    | true =>
      rcases lex_negTrans (O := itemOrd) _ (keyToks y) _ q with e | e
      · have e' : dataLt z y = true := e
        rw [h2] at e'
        cases e'
      · have e' : dataLt y x = true := e
        rw [h1] at e'
        cases e'
/-- each begins with a number; each begins with a tuple -/
def Begun (tup : Bool) (ds : List PyData) : Prop := ∀ d ∈ ds, ∃ f r, d = .tuple (f :: r) ∧ if tup = true then ∃ gs, f = .tuple gs else ∃ n, f = .int n
section
variable {prog : Program} {w : World} {A : Around} {s : Shared}
theorem kat_ok {b fin : Bool} {Q : Bool → Shared → Prop} : ∀ (xs ys : List PyData) (i : Nat) (vs ws : List Value) (as bs : List Addr), ReadsAll s.heap vs xs as → ReadsAll s.heap ws ys bs → plA xs = true → plA ys = true → okCA xs ys = true →
    A.units + min (PyData.depthAll xs) (PyData.depthAll ys) < cLine → (b = true → i = 0 → ∀ x r, xs = x :: r → ∃ n, x = .int n) → fin = decide (xs.length < ys.length) → Q (PyProof.Rows.lexLt itemOrd (keyToksAll xs) (keyToksAll ys)) s → KatLex prog w A b fin Q (vs.zip ws) i s
  | [], [], i, _, _, _, _, ra, rb, _, _, _, _, _, hf, hq => by
    cases ra
    cases rb
    have e : fin = false := by rw [hf]; rfl
    subst e
    rw [lex_irrefl] at hq
    exact kat_nil hq
  | [], y :: ys, i, _, _, _, _, ra, rb, _, _, _, _, _, hf, hq => by
    cases ra
    have e : fin = true := by rw [hf]; exact decide_eq_true (Nat.succ_pos _)
    subst e
    rw [toks_all_cons] at hq
    simp only [keyToksAll] at hq
    rw [lex_diff (O := itemOrd) (by simp)] at hq
    rw [List.zip_nil_left]
    exact kat_nil (by simpa [itemLt] using hq)
  | x :: xs, [], i, _, _, _, _, ra, rb, _, _, _, _, _, hf, hq => by
    cases rb
    have e : fin = false := by rw [hf]; exact decide_eq_false (Nat.not_lt_zero _)
    subst e
    rw [toks_all_cons] at hq
    simp only [keyToksAll] at hq
    rw [lex_diff (O := itemOrd) (by simp)] at hq
    rw [List.zip_nil_right]
    exact kat_nil (by simpa [itemLt] using hq)
  | x :: xs, y :: ys, i, _, _, _, _, ra, rb, h1, h2, ok, hu, hb, hf, hq => by
    have hf' : fin = decide (xs.length < ys.length) := by
      rw [hf]
      simp only [List.length_cons, Nat.add_lt_add_iff_right]
    cases ra with
    | cons r rs =>
      cases rb with
      | cons r' rs' =>
        rw [List.zip_cons_cons]
        refine kat_cons (eqAt_reads x y A s _ _ _ _ r r' (pl_lay x (plA_cons h1).1) (pl_lay y (plA_cons h2).1) (room_head hu) prog w _ _ ?_)
        by_cases hx : x = y
        · subst hx
          rw [ltA_yes] at hq
          rw [(eqv_pl x x (plA_cons h1).1 (plA_cons h1).1).mpr rfl]
          exact kat_yes (kat_ok xs ys (i + 1) _ _ _ _ rs rs' (plA_cons h1).2 (plA_cons h2).2 (okCA_yes (plA_cons h1).1 ok) (room_tail hu) (fun _ hi => absurd hi (Nat.succ_ne_zero i)) hf' hq)
        · have ok1 := okCA_no (plA_cons h1).1 (plA_cons h2).1 hx ok
          rw [ltA_no (plA_cons h1).1 (plA_cons h2).1 ok1 hx] at hq
          rw [eqv_ne (plA_cons h1).1 (plA_cons h2).1 hx]
          refine kat_no ?_
          cases hc : (b && i == 0) with
          | true =>
            obtain ⟨e1, e2⟩ := Bool.and_eq_true_iff.mp hc
            obtain ⟨n, rfl⟩ := hb e1 (by simpa using e2) x xs rfl
            cases y with
            | int m =>
              cases r
              cases r'
              rw [dataLt_int] at hq
              exact oneLt_int hq
            | _ => simp [okC] at ok1
          | false => exact kat_one _ _ (rc_lt x y A s _ _ _ _ r r' (plA_cons h1).1 (plA_cons h2).1 ok1 (room_head hu) prog w _ _ hq)
def tyB (tup : Bool) : Value := if tup = true then .type "tuple" else .type "int"
theorem begun_firsts {h : Heap} {tup : Bool} : ∀ {vs : List Value} {ds : List PyData} {as : List Addr}, ReadsAll h vs ds as → Begun tup ds → ∃ fs, KatTups h vs fs ∧ fs.length = vs.length ∧ ∀ f ∈ fs, ∃ d as, Reads h f d as ∧ dataType d = tyB tup
  | _, [], _, r, _ => by
    cases r
    exact ⟨[], KatTups.nil, rfl, fun f hf => absurd hf (by simp)⟩
  | _, d :: ds, _, r, ht => by
    cases r with
    | @cons v vs' _ _ as1 _ r t =>
      obtain ⟨fs, h1, h2, h3⟩ := begun_firsts t fun d hd => ht d (List.mem_cons_of_mem _ hd)
      obtain ⟨x, rest, rfl, hx⟩ := ht d (List.mem_cons_self ..)
      cases r with
      | @tuple a o xs n _ _ ho hc hd hr =>
        cases q : xs.toList with
        | nil =>
          rw [q] at hr
          cases hr
        | cons f fr =>
          rw [q] at hr
          cases hr with
          | cons r1 r2 =>
            have hf : xs[0]? = some f := by rw [← Array.getElem?_toList, q]; rfl
            refine ⟨f :: fs, KatTups.cons ho hc hd hf h1, by rw [List.length_cons, List.length_cons, h2], fun g hg => ?_⟩
            rcases List.mem_cons.mp hg with rfl | hg
            · refine ⟨x, _, r1, ?_⟩
              cases tup with
              | true =>
                obtain ⟨gs, rfl⟩ := hx
                rfl
              | false =>
                obtain ⟨n, rfl⟩ := hx
                rfl
            · exact h3 g hg
/-- sorted(l) of plain data that can be put in order -/
theorem sorted_pl {tup : Bool} {l : Addr} {vs : List Value} {ds : List PyData} {as : List Addr} {E : Value → Shared → Prop} {Q : Value → Shared → Prop} (hl : s.heap.IsList l vs.toArray) (hz : vs.length ≤ sizeLine) (r : ReadsAll s.heap vs ds as) (hp : ∀ d ∈ ds, plD d = true)
    (hok : ∀ d ∈ ds, ∀ e ∈ ds, okC d e = true) (hb : Begun tup ds) (hu : ∀ d ∈ ds, A.in1.in1.units + d.depth < cLine)
    (h : ∀ (h' : Heap) (d : Addr) (out : List Value), SrtO.Srtd (fun v u => dataLt (datOf s.heap ds v) (datOf s.heap ds u)) out → out.Perm vs → (∀ b o, s.heap.get? b = some o → h'.get? b = some o) → s.heap.objs.size ≤ d → (∃ n, h'.get? d = some (seqObj "list" out.toArray n)) → Q (.ref d) { s with heap := h' }) :
    wpAny (model prog w) A (call (.builtin "sorted") [.ref l]) Q E s := by
  have O : SrtO.Swo fun v u => dataLt (datOf s.heap ds v) (datOf s.heap ds u) := ⟨fun x y => dataLt_swo.asym _ _, fun x y z => dataLt_swo.tr _ _ _⟩
  refine SrtO.sorted_ord O hl hz (fun h2 h₁ a ha kk => ?_) fun out hs hb => h _ _ out hs hb.perm (fun b o e => sortedAll_old e) (Nat.le_succ _) (sortedAll_at s.heap vs out.toArray)
  intro h' keep
  have kp : ∀ b o, s.heap.get? b = some o → h'.get? b = some o := fun b o e => keep b o (kk b o e).1 (kk b o e).2
  obtain ⟨fs, f1, f2, f3⟩ := begun_firsts (PyProof.Rows.ReadsAll.keeps kp r) hb
  refine ⟨tuples' (tyB tup != Value.type "tuple"), fun Q E hq => ?_, ?_⟩
  · refine kat_kind (T := tyB tup) f1 (by omega) (fun f hm => ?_) ?_ hq
    · obtain ⟨d, as', rd, e⟩ := f3 f hm
      rw [← e]
      exact looks_reads rd
    · cases tup <;> rfl
  · intro p q hm hm'
    obtain ⟨d, as1, hd, rd⟩ := readsAll_mem r hm
    obtain ⟨e, as2, he, re⟩ := readsAll_mem r hm'
    show wpAny (model prog w) A.in1.in1 (keyLt' _ p.1 q.1) (fun r s' => s' = _ ∧ r = dataLt (datOf s.heap ds p.1) (datOf s.heap ds q.1)) (fun _ _ => False) _
    rw [datOf_eq hp hd rd, datOf_eq hp he re]
    have rd' := PyProof.Rows.Reads.keeps kp rd
    have re' := PyProof.Rows.Reads.keeps kp re
    obtain ⟨f, rst, rfl, hf⟩ := hb d hd
    obtain ⟨f', rst', rfl, hf'⟩ := hb e he
    have ok := okC_tup (hok _ hd _ he)
    have p1 : plA (f :: rst) = true := by simpa [plD] using hp _ hd
    have p2 : plA (f' :: rst') = true := by simpa [plD] using hp _ he
    have hu1 := hu _ hd
    have hd0 : (PyData.tuple (f :: rst)).depth = PyData.depthAll (f :: rst) + 1 := by rw [PyData.depth]
    rw [dataLt_tuple]
    generalize p.1 = v at rd'
    generalize q.1 = u at re'
    cases rd' with
    | @tuple a1 o1 ps n1 _ _ ho1 hc1 hd1 hr1 =>
      cases re' with
      | @tuple a2 o2 qs n2 _ _ ho2 hc2 hd2 hr2 =>
        have n1 : ps.size = (f :: rst).length := by simpa using ReadsAll.length _ _ _ hr1
        have n2 : qs.size = (f' :: rst').length := by simpa using ReadsAll.length _ _ _ hr2
        refine kat_lt ho1 hd1 ho2 hd2 ?_
        refine kat_ok (f :: rst) (f' :: rst') 0 _ _ _ _ hr1 hr2 p1 p2 ok (by rw [hd0] at hu1; omega) (fun ht _ x r e => ?_) (by rw [n1, n2]) ⟨rfl, rfl⟩
        cases tup with
        | true => exact absurd ht (by decide)
        | false =>
          cases e
          exact hf
end
end Q
namespace Q
open PySem PySem.SeqAt PySem.W PyProof.Rows L2
theorem dpA_of {K : PySem.W.Frag} {H : Hp} {α : Type} {f : α → V} {g : α → PyData} : ∀ {l : List α}, (∀ x ∈ l, Dp K H (f x) (g x)) → DpAll K H (l.map f) (l.map g)
  | [], _ => .nil
  | x :: l, h => .cons (h x (List.mem_cons_self ..)) (dpA_of fun y hy => h y (List.mem_cons_of_mem _ hy))
theorem dpA_mem {K : PySem.W.Frag} {H : Hp} {α : Type} {f : α → V} {g : α → PyData} : ∀ {l : List α}, DpAll K H (l.map f) (l.map g) → ∀ x ∈ l, Dp K H (f x) (g x)
  | [], _, x, hx => by cases hx
  | y :: l, h, x, hx => by
    cases h with
    | cons h1 h2 =>
      rcases List.mem_cons.mp hx with e | hx
      · subst e
        exact h1
      · exact dpA_mem h2 x hx
theorem dpA_ref {K : PySem.W.Frag} {H : Hp} : ∀ {xs : List V} {ds : List PyData}, DpAll K H xs ds → (∀ d ∈ ds, ∃ gs, d = .tuple gs) → ∀ x ∈ xs, ∃ a, x = V.ref a
  | _, _, .nil, _, x, hx => by cases hx
  | _, _, .cons h1 h2, hd, x, hx => by
    rcases List.mem_cons.mp hx with e | hx
    · subst e
      obtain ⟨gs, rfl⟩ := hd _ (List.mem_cons_self ..)
      cases h1
      exact ⟨_, rfl⟩
    · exact dpA_ref h2 (fun d hd' => hd d (List.mem_cons_of_mem _ hd')) x hx
/-- sorted(xs), xs a list of plain data that can be put in order -/
def rSortD (K : PySem.W.Frag) : List V → Hp → VK → Prop := fun vs H Q => ∃ (a : Addr) (xs : List V) (ds : List PyData) (tup : Bool), vs = [V.ref a] ∧ SqL K H a xs ∧ DpAll K H xs ds ∧ (∀ d ∈ ds, plD d = true) ∧ (∀ d ∈ ds, ∀ e ∈ ds, okC d e = true) ∧ Begun tup ds ∧ (∀ d ∈ ds, d.depth ≤ 60) ∧
  ∀ ys es p, es.Perm ds → es.Pairwise (fun x y => dataLt y x = false) → DpAll K H ys es → H p = none → Q (.ref p) (upd H p (.lst ys))
theorem cr_sortedD {X : Cx} (hu : X.A.units + 66 < cLine) : CallR X (.builtin "sorted") (rSortD X.K) := by
  intro pins s σ H vs us Q I r h
  obtain ⟨a, xs, ds, tup, rfl, hs, hx, hp, hok, hb, hdep, q⟩ := h
  obtain ⟨its, rv, hl, hz⟩ := I.list hs
  obtain ⟨u, rfl, ru⟩ := vals1 r
  obtain rfl : u = Value.ref a := ru
  obtain ⟨e1, e2⟩ := refs_back rv (dpA_ref hx fun d hd => by
    obtain ⟨f, r, e, _⟩ := hb d hd
    exact ⟨_, e⟩)
  obtain ⟨as, rd⟩ := Dp.readsAll I ds xs its hx rv
  refine sorted_pl (tup := tup) hl.isList (by rw [← rv.length]; exact hz) rd hp hok hb (fun d hd => ?_) fun h' d out h1 h2 kp hd hn => ?_
  · have := hdep d hd
    have e : X.A.in1.in1.units = X.A.units + 2 := rfl
    omega
  · have h3 : ∀ u ∈ out, ∃ a, u = Value.ref a := fun u hu => e2 u (h2.mem_iff.mp hu)
    obtain ⟨n, hn⟩ := hn
    have hds : its.map (datOf s.heap ds) = ds := datOf_map hp (fun e he => he) rd
    have hx' : DpAll X.K H (its.map backV) (its.map (datOf s.heap ds)) := by
      rw [hds, ← e1]
      exact hx
    refine ⟨.ref d, upd H d (.lst (out.map backV)), I.laid (t' := s.toks) kp hd ⟨?_, out, n, vals_back h3, hn⟩, rfl, q _ (out.map (datOf s.heap ds)) d ?_ ?_ (dpA_of fun v hv => dpA_mem hx' v (h2.mem_iff.mp hv)) (I.hok.fresh hd)⟩
    · rw [List.length_map, h2.length_eq, ← rv.length]
      exact hz
    · have z := h2.map (datOf s.heap ds)
      rw [hds] at z
      exact z
    · exact List.pairwise_map.mpr h1
end Q
namespace Q
open PySem PySem.SeqAt PySem.W PyProof.Rows
/-! ### uses, lots: plain -/
def sm : List Nat := [97, 98, 99, 100, 101, 102, 103, 104, 105, 106, 107, 108, 109, 110, 111, 112, 113, 114, 115, 116, 117, 118, 119, 120, 121, 122]
def gr : List Nat := [65, 66, 67, 68, 69, 70, 71, 72, 73, 74, 75, 76, 77, 78, 79, 80, 81, 82, 83, 84, 85, 86, 87, 88, 89, 90]
def inL (cs : List Nat) (l : List Nat) : Bool := l.all fun c => decide (c ∈ cs)
def wd (l : List Nat) : Bool := decide (1 ≤ l.length) && decide (l.length ≤ 8) && inL gr (l.take 1) && inL sm (l.drop 1)
/-- data of at most n levels, s items in each -/
def domD (s : Nat) : Nat → PyData → Bool
  | _, .none => true
  | _, .bool _ => true
  | _, .int _ => true
  | _, .str x => PyData.strOk x && decide (x.length ≤ 1000)
  | n + 1, .list ds => decide (ds.length ≤ s) && ds.all (domD s n)
  | n + 1, .tuple ds => decide (ds.length ≤ s) && ds.all (domD s n)
  | _, _ => false
theorem domD_tup {s n : Nat} {ds : List PyData} (h : domD s n (.tuple ds) = true) : ∃ m, n = m + 1 ∧ ds.length ≤ s ∧ ∀ d ∈ ds, domD s m d = true := by
  cases n with
  | zero => simp [domD] at h
  | succ m =>
    rw [domD, Bool.and_eq_true] at h
    exact ⟨m, rfl, of_decide_eq_true h.1, fun d hd => List.all_eq_true.mp h.2 d hd⟩
theorem domD_lst {s n : Nat} {ds : List PyData} (h : domD s n (.list ds) = true) : ∃ m, n = m + 1 ∧ ds.length ≤ s ∧ ∀ d ∈ ds, domD s m d = true := by
  cases n with
  | zero => simp [domD] at h
  | succ m =>
    rw [domD, Bool.and_eq_true] at h
    exact ⟨m, rfl, of_decide_eq_true h.1, fun d hd => List.all_eq_true.mp h.2 d hd⟩
theorem domD_mk {s n : Nat} {ds : List PyData} (h1 : ds.length ≤ s) (h2 : ∀ d ∈ ds, domD s n d = true) : domD s (n + 1) (.tuple ds) = true := by
  rw [domD, Bool.and_eq_true]
  exact ⟨decide_eq_true h1, List.all_eq_true.mpr h2⟩
theorem domD_mkL {s n : Nat} {ds : List PyData} (h1 : ds.length ≤ s) (h2 : ∀ d ∈ ds, domD s n d = true) : domD s (n + 1) (.list ds) = true := by
  rw [domD, Bool.and_eq_true]
  exact ⟨decide_eq_true h1, List.all_eq_true.mpr h2⟩
theorem domD_mono {s t : Nat} (hs : s ≤ t) : ∀ {n m : Nat} {d : PyData}, n ≤ m → domD s n d = true → domD t m d = true
  | _, _, .none, _, _ => by simp [domD]
  | _, _, .bool _, _, _ => by simp [domD]
  | _, _, .int _, _, _ => by simp [domD]
  | _, _, .str x, _, h => by simpa [domD] using h
  | 0, _, .list _, _, h => by simp [domD] at h
  | 0, _, .tuple _, _, h => by simp [domD] at h
  | n + 1, 0, _, hn, _ => absurd hn (by omega)
  | n + 1, m + 1, .list ds, hn, h => by
    obtain ⟨k, e, h1, h2⟩ := domD_lst h
    cases e
    exact domD_mkL (Nat.le_trans h1 hs) fun d hd => domD_mono hs (by omega) (h2 d hd)
  | n + 1, m + 1, .tuple ds, hn, h => by
    obtain ⟨k, e, h1, h2⟩ := domD_tup h
    cases e
    exact domD_mk (Nat.le_trans h1 hs) fun d hd => domD_mono hs (by omega) (h2 d hd)
  | _, _, .dict _, _, h => by simp [domD] at h
theorem lay_all : ∀ {ds : List PyData}, (∀ d ∈ ds, d.canLay0 = true) → PyData.canLayAll0 ds = true
  | [], _ => by simp [PyData.canLayAll0]
  | d :: ds, h => by
    rw [PyData.canLayAll0, h d (List.mem_cons_self ..), lay_all fun e he => h e (List.mem_cons_of_mem _ he)]
    rfl
theorem depth_all {n : Nat} : ∀ {ds : List PyData}, (∀ d ∈ ds, d.depth ≤ n) → PyData.depthAll ds ≤ n
  | [], _ => by simp [PyData.depthAll]
  | d :: ds, h => by
    rw [PyData.depthAll]
    exact Nat.max_le.mpr ⟨h d (List.mem_cons_self ..), depth_all fun e he => h e (List.mem_cons_of_mem _ he)⟩
theorem dom_lay {s : Nat} : ∀ {n : Nat} {d : PyData}, domD s n d = true → d.canLay0 = true ∧ d.depth ≤ n
  | _, .none, _ => by simp [PyData.canLay0, PyData.depth]
  | _, .bool _, _ => by simp [PyData.canLay0, PyData.depth]
  | _, .int _, _ => by simp [PyData.canLay0, PyData.depth]
  | _, .str x, h => by
    rw [domD, Bool.and_eq_true] at h
    exact ⟨by simpa [PyData.canLay0] using h.1, by simp [PyData.depth]⟩
  | 0, .list _, h => by simp [domD] at h
  | 0, .tuple _, h => by simp [domD] at h
  | n + 1, .list ds, h => by
    obtain ⟨k, e, h1, h2⟩ := domD_lst h
    cases e
    rw [PyData.canLay0, PyData.depth]
    exact ⟨lay_all fun d hd => (dom_lay (h2 d hd)).1, Nat.succ_le_succ (depth_all fun d hd => (dom_lay (h2 d hd)).2)⟩
  | n + 1, .tuple ds, h => by
    obtain ⟨k, e, h1, h2⟩ := domD_tup h
    cases e
    rw [PyData.canLay0, PyData.depth]
    exact ⟨lay_all fun d hd => (dom_lay (h2 d hd)).1, Nat.succ_le_succ (depth_all fun d hd => (dom_lay (h2 d hd)).2)⟩
  | _, .dict _, h => by simp [domD] at h
theorem dom_shaped {s n : Nat} {d : PyData} (h : domD s n d = true) (hn : n ≤ 64) : SeqAt.shaped d = true := by
  unfold SeqAt.shaped
  rw [(dom_lay h).1, decide_eq_true (Nat.le_trans (dom_lay h).2 hn)]
  rfl
/-! ### lots -/
abbrev Lot := List (Nat × Int)
def pairD (p : Nat × Int) : PyData := .tuple [.int (p.1 : Int), .int p.2]
def lotD (l : Lot) : PyData := .tuple (l.map pairD)
def isPairD (m : Nat) : PyData → Bool
  | .tuple [.int a, .int b] => (decide (0 ≤ a) && decide (a < (m : Int))) && decide (1 ≤ b)
  | _ => false
def pnD : PyData → Int
  | .tuple (.int a :: _) => a
  | _ => 0
def incD : List PyData → Bool
  | a :: b :: r => decide (pnD a < pnD b) && incD (b :: r)
  | _ => true
def isLotD (m : Nat) : PyData → Bool
  | .tuple ds => ds.all (isPairD m) && incD ds
  | _ => false
structure OkLot (m : Nat) (l : Lot) : Prop where
  ok : ∀ p ∈ l, p.1 < m ∧ 1 ≤ p.2
  inc : l.Pairwise fun a b => a.1 < b.1
theorem isPairD_of {m : Nat} {d : PyData} (h : isPairD m d = true) : ∃ p : Nat × Int, d = pairD p ∧ p.1 < m ∧ 1 ≤ p.2 := by
  unfold isPairD at h
  split at h
  · rename_i a b
    rw [Bool.and_eq_true, Bool.and_eq_true] at h
    obtain ⟨⟨h1, h2⟩, h3⟩ := h
    have h1 := of_decide_eq_true h1
    have h2 := of_decide_eq_true h2
    have h3 := of_decide_eq_true h3
    refine ⟨(a.toNat, b), ?_, by show a.toNat < m; omega, h3⟩
    unfold pairD
    rw [Int.toNat_of_nonneg h1]
  · cases h
theorem isPairD_mk {m : Nat} {p : Nat × Int} (h : p.1 < m ∧ 1 ≤ p.2) : isPairD m (pairD p) = true := by
  show ((decide ((0 : Int) ≤ (p.1 : Int)) && decide ((p.1 : Int) < (m : Int))) && decide (1 ≤ p.2)) = true
  rw [decide_eq_true (by omega), decide_eq_true (by omega), decide_eq_true h.2]
  rfl
theorem pnD_pair (p : Nat × Int) : pnD (pairD p) = (p.1 : Int) := rfl
theorem incD_iff : ∀ (l : Lot), incD (l.map pairD) = true ↔ l.Pairwise fun a b => a.1 < b.1
  | [] => by simp [incD]
  | [p] => by simp [incD]
  | p :: q :: r => by
    show (decide (pnD (pairD p) < pnD (pairD q)) && incD ((q :: r).map pairD)) = true ↔ _
    rw [Bool.and_eq_true, incD_iff (q :: r), pnD_pair, pnD_pair, decide_eq_true_eq]
    refine ⟨fun ⟨h1, h2⟩ => List.pairwise_cons.mpr ⟨fun x hx => ?_, h2⟩, fun h => ⟨?_, (List.pairwise_cons.mp h).2⟩⟩
    · rcases List.mem_cons.mp hx with rfl | hx
      · omega
      · have := (List.pairwise_cons.mp h2).1 x hx
        omega
    · have := (List.pairwise_cons.mp h).1 q (List.mem_cons_self ..)
      omega
theorem pairs_of {m : Nat} : ∀ {ds : List PyData}, (∀ d ∈ ds, isPairD m d = true) → ∃ l : Lot, ds = l.map pairD ∧ ∀ p ∈ l, p.1 < m ∧ 1 ≤ p.2
  | [], _ => ⟨[], rfl, fun p hp => by cases hp⟩
  | d :: ds, h => by
    obtain ⟨p, rfl, hp⟩ := isPairD_of (h d (List.mem_cons_self ..))
    obtain ⟨l, rfl, hl⟩ := pairs_of fun e he => h e (List.mem_cons_of_mem _ he)
    refine ⟨p :: l, rfl, fun q hq => ?_⟩
    rcases List.mem_cons.mp hq with rfl | hq
    · exact hp
    · exact hl q hq
theorem isLotD_of {m : Nat} {d : PyData} (h : isLotD m d = true) : ∃ l, d = lotD l ∧ OkLot m l := by
  cases d with
  | tuple ds =>
    have h' : (ds.all (isPairD m) && incD ds) = true := h
    rw [Bool.and_eq_true] at h'
    obtain ⟨l, rfl, hl⟩ := pairs_of (List.all_eq_true.mp h'.1)
    exact ⟨l, rfl, hl, (incD_iff l).mp h'.2⟩
  | _ => cases h
theorem isLotD_mk {m : Nat} {l : Lot} (h : OkLot m l) : isLotD m (lotD l) = true := by
  show ((l.map pairD).all (isPairD m) && incD (l.map pairD)) = true
  rw [(incD_iff l).mpr h.inc, Bool.and_true, List.all_map]
  exact List.all_eq_true.mpr fun p hp => isPairD_mk (h.ok p hp)
/-! ### uses -/
inductive Use where
  | num (i : Int)
  | fin
  | con (w : List Nat) (ls : List Lot)
  | fn (a b : Lot)
def Use.lots : Use → List Lot
  | .con _ ls => ls
  | .fn a b => [a, b]
  | _ => []
abbrev SL (l : List Nat) : Str := SX.S l
def useD : Use → PyData
  | .num i => .tuple [.str "num", .int i]
  | .fin => .tuple [.str "end"]
  | .con w ls => .tuple [.str "con", .str (SL w), .tuple (ls.map lotD)]
  | .fn a b => .tuple [.str "fun", lotD a, lotD b]
def OkUse (m : Nat) : Use → Prop
  | .con w ls => wd w = true ∧ ls.length ≤ 4 ∧ ∀ l ∈ ls, OkLot m l
  | .fn a b => OkLot m a ∧ OkLot m b
  | _ => True
/-- the part behind the kind -/
def isRestD (m : Nat) (k : Str) (r : List PyData) : Bool :=
  if k = "num" then (match r with
    | [.int _] => true
    | _ => false)
  else if k = "end" then (match r with
    | [] => true
    | _ => false)
  else if k = "con" then (match r with
    | [.str w, .tuple ls] => wd w.cps.toList && (decide (ls.length ≤ 4) && ls.all (isLotD m))
    | _ => false)
  else if k = "fun" then (match r with
    | [a, b] => isLotD m a && isLotD m b
    | _ => false)
  else false
def isUseD (m : Nat) : PyData → Bool
  | .tuple (.str k :: r) => isRestD m k r
  | _ => false
theorem lots_of {m : Nat} : ∀ {ds : List PyData}, (∀ d ∈ ds, isLotD m d = true) → ∃ ls : List Lot, ds = ls.map lotD ∧ ∀ l ∈ ls, OkLot m l
  | [], _ => ⟨[], rfl, fun p hp => by cases hp⟩
  | d :: ds, h => by
    obtain ⟨p, rfl, hp⟩ := isLotD_of (h d (List.mem_cons_self ..))
    obtain ⟨l, rfl, hl⟩ := lots_of fun e he => h e (List.mem_cons_of_mem _ he)
    refine ⟨p :: l, rfl, fun q hq => ?_⟩
    rcases List.mem_cons.mp hq with rfl | hq
    · exact hp
    · exact hl q hq
theorem isUseD_of {m : Nat} {d : PyData} (h : isUseD m d = true) : ∃ u, d = useD u ∧ OkUse m u := by
  unfold isUseD at h
  split at h
  · rename_i k r
    unfold isRestD at h
    split at h
    · rename_i e
      subst e
      split at h
      · exact ⟨.num _, rfl, trivial⟩
      · cases h
    · split at h
      · rename_i e
        subst e
        split at h
        · exact ⟨.fin, rfl, trivial⟩
        · cases h
      · split at h
        · rename_i e
          subst e
          split at h
          · rename_i w ls
            rw [Bool.and_eq_true, Bool.and_eq_true] at h
            obtain ⟨ls', rfl, hl⟩ := lots_of (List.all_eq_true.mp h.2.2)
            refine ⟨.con w.cps.toList ls', ?_, h.1, ?_, hl⟩
            · show _ = PyData.tuple [.str "con", .str (SL w.cps.toList), .tuple (ls'.map lotD)]
              rw [show SL w.cps.toList = w from SX.S_tl w]
            · have := of_decide_eq_true h.2.1
              simpa using this
          · cases h
        · split at h
          · rename_i e
            subst e
            split at h
            · rename_i a b
              rw [Bool.and_eq_true] at h
              obtain ⟨l1, rfl, h1⟩ := isLotD_of h.1
              obtain ⟨l2, rfl, h2⟩ := isLotD_of h.2
              exact ⟨.fn l1 l2, rfl, h1, h2⟩
            · cases h
          · cases h
  · cases h
theorem isUseD_mk {m : Nat} {u : Use} (h : OkUse m u) : isUseD m (useD u) = true := by
  cases u with
  | num i => rfl
  | fin => rfl
  | con w ls =>
    show (wd (SL w).cps.toList && (decide ((ls.map lotD).length ≤ 4) && (ls.map lotD).all (isLotD m))) = true
    have e : (SL w).cps.toList = w := by simp [SL, SX.S]
    rw [e, h.1, List.length_map, decide_eq_true h.2.1, List.all_map]
    exact List.all_eq_true.mpr fun l hl => isLotD_mk (h.2.2 l hl)
  | fn a b =>
    show (isLotD m (lotD a) && isLotD m (lotD b)) = true
    rw [isLotD_mk h.1, isLotD_mk h.2]
    rfl
end Q
namespace Q
open PySem PySem.Spec PyProof.Rows L2 Evl
def top (i : Nat) : Stmt := PySem.Challenge.pw_runsbilled_k21_tables_of_uses.main.body.getD i (.Pass ⟨0, 0, 0, 0⟩)
/-- a def of the text stands behind its name -/
def FunAt (D : Wd) (x : Str) (i : Nat) : Prop := ∃ (f : Addr) (fd : FuncData), FunD D.K x x (defArgs (top i)) (defBody (top i)) (defScope (top i)) [] [] f fd ∧ D.mg x = some (.ref f)
def kinds : List Str := ["num", "end", "con", "fun"]
/-- what the head leaves -/
structure Tx (D : Wd) (aK cB cT fL : Addr) : Prop where
  n_len : D.mg "len" = none
  n_isinstance : D.mg "isinstance" = none
  n_all : D.mg "all" = none
  n_abs : D.mg "abs" = none
  n_repr : D.mg "repr" = none
  n_str : D.mg "str" = none
  n_bool : D.mg "bool" = none
  n_tuple : D.mg "tuple" = none
  n_int : D.mg "int" = none
  n_list : D.mg "list" = none
  n_range : D.mg "range" = none
  n_min : D.mg "min" = none
  n_max : D.mg "max" = none
  n_zip : D.mg "zip" = none
  n_enumerate : D.mg "enumerate" = none
  n_sorted : D.mg "sorted" = none
  g_SMALL : ∃ t, D.mg "SMALL" = some (.str "abcdefghijklmnopqrstuvwxyz" t)
  g_GREAT : ∃ t, D.mg "GREAT" = some (.str "ABCDEFGHIJKLMNOPQRSTUVWXYZ" t)
  g_MOST_LETTERS : ∃ t, D.mg "MOST_LETTERS" = some (.int 8 t)
  g_MOST_PARTS : ∃ t, D.mg "MOST_PARTS" = some (.int 4 t)
  g_KINDS : D.mg "KINDS" = some (.ref aK)
  s_KINDS : ∀ H, SqT D.K H aK (kinds.map .str)
  d_KINDS : ∃ o, D.K.lookup aK = some o ∧ o.cls = .type "tuple" ∧ o.dict = none
  g_BadTable : D.mg "BadTable" = some (.ref cT)
  g_BillError : D.mg "BillError" = some (.ref cB)
  g_is_lot_below : D.mg "is_lot_below" = some (.ref fL)
  eN : PySem.W.excIn D.K cT He.veBase "ValueError.__new__" = true ∧ PySem.W.keepIn D.K (.ref cT) = true ∧ PySem.W.subIn D.K (.ref cT) (.type "BaseException") = some true ∧ PySem.W.typeIn D.K (.ref cT) = some (.type "type")
  xN : PySem.W.exmOne D.K (.ref cT) (.ref cB) = some true
  eN' : ExcC D.K cT
  kNN : PySem.W.kitOne D.K (.ref cT) (.ref cT) = some true
  f4 : FunAt D "is_number" 4
  f5 : FunAt D "is_tuple" 5
  f10 : FunAt D "is_word" 10
  f14 : FunAt D "is_pair" 14
  f15 : FunAt D "is_lot_below" 15
  f16 : FunAt D "has_kind" 16
  f17 : FunAt D "lots_in" 17
  f18 : FunAt D "is_use" 18
  f19 : FunAt D "height_of" 19
  f20 : FunAt D "use_key" 20
  f21 : FunAt D "heights_told" 21
  f22 : FunAt D "is_table" 22
  f23 : FunAt D "need_table" 23
  f24 : FunAt D "use_heights" 24
  f25 : FunAt D "is_lot" 25
  f27 : FunAt D "_law_begun" 27
  f28 : FunAt D "_law_mixed" 28
  f29 : FunAt D "_law_take" 29
  f30 : FunAt D "_law_pick" 30
  f31 : FunAt D "_law_shuffled" 31
  f32 : FunAt D "_law_caught" 32
  f33 : FunAt D "_law_is" 33
  f34 : FunAt D "_law_same" 34
  f35 : FunAt D "_law_is_number" 35
  f36 : FunAt D "_law_lots_in" 36
  f37 : FunAt D "_law_moved_lot" 37
  f38 : FunAt D "_law_moved_use" 38
  f39 : FunAt D "_law_heights" 39
  f40 : FunAt D "_law_use_key" 40
  f41 : FunAt D "_law_table" 41
  f42 : FunAt D "_law_is_lot" 42
  f43 : FunAt D "_law_is_word" 43
  f44 : FunAt D "_law_is_use" 44
  f45 : FunAt D "_law_first_use" 45
  f46 : FunAt D "_law_drawn_lot" 46
  f47 : FunAt D "_law_drawn_uses" 47
  f48 : FunAt D "_law_changed" 48
  f49 : FunAt D "_law_odd" 49
  f50 : FunAt D "_law_is_table" 50
  f51 : FunAt D "_law_is_right" 51
  f52 : FunAt D "law" 52
theorem t_small : (("abcdefghijklmnopqrstuvwxyz" : Str)) = S sm := by decide +kernel
theorem t_great : (("ABCDEFGHIJKLMNOPQRSTUVWXYZ" : Str)) = S gr := by decide +kernel
/-! ### isinstance of data -/
section
variable {K : PySem.W.Frag}
def isIntD : PyData → Bool
  | .int _ => true
  | .bool _ => true
  | _ => false
def isBoolD : PyData → Bool
  | .bool _ => true
  | _ => false
def isTupD : PyData → Bool
  | .tuple _ => true
  | _ => false
def isStrD : PyData → Bool
  | .str _ => true
  | _ => false
theorem kit_int (d : PyData) : PySem.W.kitOne K (.type (tyD d)) (.type "int") = some (isIntD d) := by
  cases d <;> rfl
theorem kit_bool (d : PyData) : PySem.W.kitOne K (.type (tyD d)) (.type "bool") = some (isBoolD d) := by
  cases d <;> rfl
theorem kit_tup (d : PyData) : PySem.W.kitOne K (.type (tyD d)) (.type "tuple") = some (isTupD d) := by
  cases d <;> rfl
theorem kit_str (d : PyData) : PySem.W.kitOne K (.type (tyD d)) (.type "str") = some (isStrD d) := by
  cases d <;> rfl
end
end Q
namespace Q
open PySem PySem.Spec PyProof.Rows L2 Evl
/-! ### comprehensions over data -/
section
variable {K : PySem.W.Frag} {σ : L2.St} {H H' : Hp} {ta tb tc te tl ts : TE} {t u : TT} {v w : V} {d e : PyData} {ds es : List PyData}
/-- what is asked of one turn: the state behind the target, the test, the item -/
def Turn1 (K : PySem.W.Frag) (H1 : Hp) (σ : L2.St) (vs : List Nat) (t : TT) (te : TE) (b : Bool) (d : PyData) (σ2 : L2.St) (H3 : Hp) : Prop :=
  wipe σ2 vs = wipe σ vs ∧ EvT t σ2 H3 b ∧ (b = true → (noL d = true ∧ Et K te σ2 H3 d) ∨ ∃ v, Ev te σ2 H3 v ∧ Dp K H1 v d)
theorem lc_dat {α : Type} {J : It} {G : Hp → Prop} {Y : Nat → Hp → V → Hp → Prop} {as : List α} {vs : List Nat} {gt : TG} {Qd : Hp → Prop} {H1 : Hp} {Dl : Addr} (w : Walk J as.length G Y) (p : α → Bool) (g : α → PyData) (hG : ∀ H', Ex H1 H' → G H') (hz : as.length ≤ 1000000)
    (hg : ∀ i a H2 x H3, as[i]? = some a → Ex H1 H2 → Y i H2 x H3 → Ex H2 H3 ∧ ∀ Qg : L2.St → Hp → Prop, (∀ σ2, Turn1 K H1 σ vs t te (p a) (g a) σ2 H3 → Qg σ2 H3) → gt x (wipe σ vs) H3 Qg) (hD : H1 Dl = none)
    (hd : ∀ ys H', Ex H1 H' → H' Dl = some (.lst ys) → DpAll K H' ys ((as.filter p).map g) → Qd H') :
    ∃ W : Nat → Nat → Hp → Prop, (∃ m, W 0 m (upd H1 Dl (.lst []))) ∧ ∀ i m H, W i m H →
      (J.stop i H ∧ Qd H) ∨ (J.go i H ∧ ∃ Nx : Hp → Prop, (∀ H', Nx H' → ∃ m', m' < m ∧ W (i + 1) m' H') ∧ ∀ x H', J.yld i H x H' → gt x (wipe σ vs) H' fun σ2 H2 => wipe σ2 vs = wipe σ vs ∧ t σ2 H2 fun b H3 =>
        if b = true then te σ2 H3 fun y H4 => ∃ acc, H4 Dl = some (.lst acc) ∧ acc.length < sizeLine ∧ Nx (upd H4 Dl (.lst (acc ++ [y]))) else Nx H3) := by
  refine lc_it w (fun i H' => Ex H1 H' ∧ ∃ ys, H' Dl = some (.lst ys) ∧ StA K H1 H' ys (((as.take i).filter p).map g)) ⟨Ex.new hD, [], upd_same, by rw [List.take_zero]; exact .nil⟩ (fun i H' hi q => hG H' q.1) ?_ ?_
  · rintro i x H2 H3 hi ⟨e, ys, h, hys⟩ hY
    obtain ⟨a, ha⟩ : ∃ a, as[i]? = some a := ⟨as[i]'(by omega), List.getElem?_eq_getElem _⟩
    have tk : as.take (i + 1) = as.take i ++ [a] := by rw [List.take_succ, ha]; rfl
    have hlen : ys.length ≤ 1000000 := by
      rw [hys.len, List.length_map]
      exact Nat.le_trans (List.length_filter_le _ _) (Nat.le_trans (by rw [List.length_take]; exact Nat.min_le_right _ _) (by omega))
    obtain ⟨e3, tgt⟩ := hg i a H2 x H3 ha e hY
    refine tgt _ fun σ2 ⟨hw, ht, he⟩ => ⟨hw, ht H3 (Ex.refl H3) _ fun H4 e4 => ?_⟩
    have e24 := e3.trans e4
    cases hp : p a with
    | true =>
      have fin : ∀ y H5, Ex H4 H5 → St1 K H1 H5 y (g a) → ∃ acc, H5 Dl = some (.lst acc) ∧ acc.length < sizeLine ∧ Ex H1 (upd H5 Dl (.lst (acc ++ [y]))) ∧ ∃ ys, upd H5 Dl (.lst (acc ++ [y])) Dl = some (.lst ys) ∧ StA K H1 (upd H5 Dl (.lst (acc ++ [y]))) ys (((as.take (i + 1)).filter p).map g) := fun y H5 e5 hy => by
        have h5 := e5 _ _ (e24 _ _ h)
        refine ⟨ys, h5, Nat.lt_of_le_of_lt hlen (by decide), Ex.mut ((e.trans e24).trans e5) hD, ys ++ [y], upd_same, ?_⟩
        rw [tk, List.filter_append, List.map_append, List.filter_cons, if_pos hp]
        have up : ∀ v d, St1 K H1 H5 v d → St1 K H1 (upd H5 Dl (.lst (ys ++ [y]))) v d := fun v d q => by
          rcases q with ⟨n, q⟩ | q
          · exact .inl ⟨n, dp_upd h5 n q⟩
          · exact .inr q
        have up2 : ∀ v d, St1 K H1 H2 v d → St1 K H1 H5 v d := fun v d q => by
          rcases q with ⟨n, q⟩ | q
          · exact .inl ⟨n, dp_mono (e24.trans e5) q⟩
          · exact .inr q
        exact .snoc (hys.mono fun v d q => up v d (up2 v d q)) (up y (g a) hy)
      rcases he hp with ⟨n, q⟩ | ⟨v, q, hv⟩
      · exact q H4 e4 _ fun y H5 e5 hy => fin y H5 e5 (.inl ⟨n, hy⟩)
      · exact q H4 e4 _ fun H5 e5 => fin v H5 e5 (.inr hv)
    | false =>
      refine ⟨e.trans e24, ys, e24 _ _ h, ?_⟩
      rw [tk, List.filter_append, List.map_append, List.filter_cons, if_neg (by rw [hp]; decide)]
      show StA K H1 H4 ys (_ ++ [])
      rw [List.append_nil]
      exact hys.mono fun v d q => by
        rcases q with ⟨n, q⟩ | q
        · exact .inl ⟨n, dp_mono e24 q⟩
        · exact .inr q
  · rintro H2 ⟨e, ys, h, hys⟩
    rw [List.take_length] at hys
    exact hd ys H2 e h (hys.all e)
/-- over a tuple, target a name -/
theorem etl_T {j : Nat} {vs : List Nat} (p : PyData → Bool) (g : PyData → PyData) (h : Et K ts σ H (.tuple ds)) (hz : ds.length ≤ 1000000)
    (hs : ∀ d x H1 H3, d ∈ ds → Ex H H1 → Ex H1 H3 → Dp K H1 x d → Turn1 K H1 σ vs t te (p d) (g d) ((wipe σ vs).set j (some x)) H3) : EtL K (tLc (iTup K ts) (gName j) t te vs) σ H ((ds.filter p).map g) := fun H0 e Q q => h H0 e _ fun v H1 e1 hv => by
  cases hv with
  | @tup a xs _ hs1 ha =>
    have hl : xs.length = ds.length := dpA_len ha
    refine ⟨a, rfl, ⟨xs, hs1⟩, fun Dl hD => ?_⟩
    refine lc_dat (K := K) (Y := YAt xs) (G := fun H => SqT K H a xs) (as := ds) (by rw [← hl]; exact walk_tup) p g (fun H' e' => ex_t e' hs1) hz (fun i d H2 x H3 hd e2 hY => ?_) hD fun ys H' e' h' hy => q Dl ys H' (fresh_back e1 hD) (e1.trans e') h' hy
    obtain ⟨rfl, hx⟩ := hY
    obtain ⟨d', hd', hdp⟩ := dpA_getV ha hx
    rw [hd] at hd'
    cases hd'
    exact ⟨Ex.refl _, fun Qg qg => qg _ (hs d x H1 _ (List.mem_of_getElem? hd) (e.trans e1) e2 hdp)⟩
theorem etl_L {j : Nat} {vs : List Nat} (p : PyData → Bool) (g : PyData → PyData) (h : Et K ts σ H (.list ds)) (hz : ds.length ≤ 1000000)
    (hs : ∀ d x H1 H3, d ∈ ds → Ex H H1 → Ex H1 H3 → Dp K H1 x d → Turn1 K H1 σ vs t te (p d) (g d) ((wipe σ vs).set j (some x)) H3) : EtL K (tLc (iList K ts) (gName j) t te vs) σ H ((ds.filter p).map g) := fun H0 e Q q => h H0 e _ fun v H1 e1 hv => by
  cases hv with
  | @lst a xs _ hs1 ha =>
    have hl : xs.length = ds.length := dpA_len ha
    refine ⟨a, rfl, ⟨xs, hs1⟩, fun Dl hD => ?_⟩
    refine lc_dat (K := K) (Y := YAt xs) (G := fun H => SqL K H a xs) (as := ds) (by rw [← hl]; exact walk_list) p g (fun H' e' => ex_l e' hs1) hz (fun i d H2 x H3 hd e2 hY => ?_) hD fun ys H' e' h' hy => q Dl ys H' (fresh_back e1 hD) (e1.trans e') h' hy
    obtain ⟨rfl, hx⟩ := hY
    obtain ⟨d', hd', hdp⟩ := dpA_getV ha hx
    rw [hd] at hd'
    cases hd'
    exact ⟨Ex.refl _, fun Qg qg => qg _ (hs d x H1 _ (List.mem_of_getElem? hd) (e.trans e1) e2 hdp)⟩
/-- over a tuple of pairs, target two names -/
theorem etl_T2 {α : Type} {as : List α} {c : α → PyData} {f1 f2 : α → PyData} {i j : Nat} {vs : List Nat} (p : α → Bool) (g : α → PyData) (h : Et K ts σ H (.tuple (as.map c))) (hc : ∀ a ∈ as, c a = .tuple [f1 a, f2 a]) (hz : as.length ≤ 1000000)
    (hs : ∀ a x y H1 H3, a ∈ as → Ex H H1 → Ex H1 H3 → Dp K H1 x (f1 a) → Dp K H1 y (f2 a) → Turn1 K H1 σ vs t te (p a) (g a) (((wipe σ vs).set i (some x)).set j (some y)) H3) : EtL K (tLc (iTup K ts) (gTup K 2 (gCons (gName i) (gCons (gName j) gNil))) t te vs) σ H ((as.filter p).map g) := fun H0 e Q q => h H0 e _ fun v H1 e1 hv => by
  cases hv with
  | @tup a xs _ hs1 ha =>
    have hl : xs.length = as.length := by rw [dpA_len ha, List.length_map]
    refine ⟨a, rfl, ⟨xs, hs1⟩, fun Dl hD => ?_⟩
    refine lc_dat (K := K) (Y := YAt xs) (G := fun H => SqT K H a xs) (as := as) (by rw [← hl]; exact walk_tup) p g (fun H' e' => ex_t e' hs1) hz (fun n b H2 x H3 hb e2 hY => ?_) hD fun ys H' e' h' hy => q Dl ys H' (fresh_back e1 hD) (e1.trans e') h' hy
    obtain ⟨rfl, hx⟩ := hY
    obtain ⟨d', hd', hdp⟩ := dpA_getV ha hx
    rw [List.getElem?_map, hb] at hd'
    cases hd'
    have hb' := List.mem_of_getElem? hb
    rw [hc b hb'] at hdp
    cases hdp with
    | @tup r zs _ hr hzs =>
      cases hzs with
      | cons z1 hzs =>
        cases hzs with
        | cons z2 hzs =>
          cases hzs
          exact ⟨Ex.refl _, fun Qg qg => ⟨r, _, rfl, ex_t e2 hr, rfl, _, _, rfl, _, _, rfl, rfl, qg _ (hs b _ _ H1 _ hb' (e.trans e1) e2 z1 z2)⟩⟩
/-- all(..) of a list of truth values -/
theorem dpA_bl {H : Hp} : ∀ {vs : List V} {bs : List Bool}, DpAll K H vs (bs.map .bool) → vs = bs.map V.bl
  | _, [], h => by cases h; rfl
  | _, b :: bs, h => by
    cases h with
    | cons h1 h2 =>
      cases h1
      rw [dpA_bl h2]
      rfl
theorem ev_allD {bs : List Bool} (h : EtL K ta σ H (bs.map .bool)) : Ev (tCB (rAll K) (tCons ta tNil)) σ H (.bl (bs.all id)) := fun H1 e Q q =>
  h H1 e _ fun p xs H2 _ e2 h2 hd => ⟨p, bs, rfl, by rw [← dpA_bl hd]; exact sq_of h2, q H2 e2⟩
theorem etl_is (h : EtL K te σ H ds) (e : ds = es) : EtL K te σ H es := e ▸ h
/-! ### arguments -/
theorem dpA1 {H : Hp} {vs : List V} (h : DpAll K H vs [d]) : ∃ v, vs = [v] ∧ Dp K H v d := by
  cases h with
  | cons h1 h2 =>
    cases h2
    exact ⟨_, rfl, h1⟩
theorem dpA2 {H : Hp} {vs : List V} (h : DpAll K H vs [d, e]) : ∃ v w, vs = [v, w] ∧ Dp K H v d ∧ Dp K H w e := by
  cases h with
  | cons h1 h2 =>
    obtain ⟨w, rfl, h3⟩ := dpA1 h2
    exact ⟨_, _, rfl, h1, h3⟩
theorem dec_int (a b : Int) : decide (V.int a = V.int b) = decide (a = b) := decide_eq_decide.mpr ⟨fun h => V.int.inj h, fun h => by rw [h]⟩
theorem dec_nat (a b : Nat) : decide (V.int (a : Int) = V.int (b : Int)) = decide (a = b) := by
  rw [dec_int]
  exact decide_eq_decide.mpr (by omega)
theorem dec_str (a b : Str) : decide (V.str a = V.str b) = decide (a = b) := decide_eq_decide.mpr ⟨fun h => V.str.inj h, fun h => by rw [h]⟩
end
end Q
namespace Q
open PySem PySem.Spec PyProof.Rows L2 Evl
theorem ev_isiD {K : PySem.W.Frag} {σ : L2.St} {H : Hp} {ta : TE} {d : PyData} {n : String} {b : Bool} (h : Et K ta σ H d) (hk : PySem.W.kitOne K (.type (tyD d)) (.type n) = some b) : Ev (tCB (rIsi K) (tCons ta (tCons (tC (.ty n)) tNil))) σ H (.bl b) := et_isi h hk
theorem et_chain2 {σ : L2.St} {H : Hp} {ta tb tc : TE} {i j k : Int} (ha : Ev ta σ H (.int i)) (hb : Ev tb σ H (.int j)) (hc : Ev tc σ H (.int k)) : Ev (tChain (rI0 fun i j => .bl (decide (i ≤ j))) (rI0 fun i j => .bl (decide (i < j))) ta tb tc) σ H (.bl (decide (i ≤ j) && decide (j < k))) := fun H1 e Q q =>
  ha H1 e _ fun H2 e2 => hb H2 (e.trans e2) _ fun H3 e3 => ⟨i, j, rfl, rfl, decide (i ≤ j), rfl, by
    cases h : decide (i ≤ j) with
    | true => exact hc H3 ((e.trans e2).trans e3) _ fun H4 e4 => ⟨j, k, rfl, rfl, by
        have z := q H4 ((e2.trans e3).trans e4)
        rw [h, Bool.true_and] at z
        exact z⟩
    | false =>
      have z := q H3 (e2.trans e3)
      rw [h, Bool.false_and] at z
      exact z⟩
end Q
namespace Q
open PySem PySem.Spec PyProof.Rows L2 Evl
section
variable {K : PySem.W.Frag} {σ : L2.St} {H H' : Hp} {tb tc te tl ts : TE} {ta : TA} {t u : TT} {v w : V} {d e : PyData} {ds es : List PyData}
/-- x[lo:hi] of a tuple, the whole too -/
theorem et_slA {tl th : TO} {lo hi : Option Int} (h : Et K te σ H (.tuple ds)) (h1 : EvO tl σ H lo) (h2 : EvO th σ H hi) (he : es = (ds.drop (HT.sIx ds.length 0 lo)).take (HT.sIx ds.length ds.length hi - HT.sIx ds.length 0 lo)) : Et K (tSl (rSlA K) te tl th) σ H (.tuple es) := fun H1 x Q q =>
  h H1 x _ fun v H2 e2 hv => h1 H2 (x.trans e2) _ fun H3 e3 => h2 H3 ((x.trans e2).trans e3) _ fun H4 e4 => by
    cases hv with
    | @tup a xs _ hs ha =>
      have hl := dpA_len ha
      have e24 := e3.trans e4
      refine ⟨a, xs, rfl, ex_t e24 hs, fun hw => ?_, fun hw p hp => ?_⟩
      · have ee : es = ds := by
          rw [hl] at hw
          rw [he, hw.1, hw.2]
          simp
        rw [ee] at q
        exact q _ H4 (e2.trans e24) (.tup (ex_t e24 hs) (dpA_mono e24 ha))
      · exact q _ _ ((e2.trans e24).trans (Ex.new hp)) (.tup (st_of upd_same) (dpA_mono (Ex.new hp) (cutV_dp (dpA_mono e24 ha) es he)))
theorem cut_from (ds : List PyData) (k : Nat) : (ds.drop (HT.sIx ds.length 0 (some (k : Int)))).take (HT.sIx ds.length ds.length none - HT.sIx ds.length 0 (some (k : Int))) = ds.drop k := by
  rw [HT.sIx_none, HT.sIx_nat]
  by_cases h : k ≤ ds.length
  · rw [Nat.min_eq_left h, List.take_of_length_le (by rw [List.length_drop]; omega)]
  · rw [Nat.min_eq_right (by omega), List.drop_of_length_le (Nat.le_refl _), List.drop_of_length_le (by omega)]
    simp
theorem cut_to (ds : List PyData) (k : Nat) : (ds.drop (HT.sIx ds.length 0 none)).take (HT.sIx ds.length ds.length (some (k : Int)) - HT.sIx ds.length 0 none) = ds.take k := by
  rw [HT.sIx_none, HT.sIx_nat, Nat.sub_zero, List.drop_zero]
  by_cases h : k ≤ ds.length
  · rw [Nat.min_eq_left h]
  · rw [Nat.min_eq_right (by omega), List.take_of_length_le (Nat.le_refl _), List.take_of_length_le (by omega)]
theorem walk_zipT {a b : Addr} {xs ys : List V} : Walk (RZ.ItzT K a b) (min xs.length ys.length) (fun H => SqT K H a xs ∧ SqT K H b ys) (YPair (fun i => xs[i]?) (fun i => ys[i]?)) := by
  refine ⟨fun i H hi q => ?_, fun H q => ?_, fun i H x H' hi q y => ?_⟩
  · exact ⟨xs, ys, xs[i]'(by omega), ys[i]'(by omega), q.1, q.2, List.getElem?_eq_getElem _, List.getElem?_eq_getElem _⟩
  · exact ⟨xs, ys, q.1, q.2, by omega⟩
  · obtain ⟨T, x', y', e1, e2, e3, h1, h2⟩ := y
    exact ⟨T, x', y', e1, e2, e3, h1 xs q.1, h2 ys q.2⟩
/-- over zip of two tuples, target two names -/
theorem etl_zip {i j : Nat} {vs : List Nat} (p : PyData × PyData → Bool) (g : PyData × PyData → PyData) (h : EtA K ta σ H [.tuple ds, .tuple es]) (hz : ds.length ≤ 1000000)
    (hs : ∀ d e x y H1 H3, (d, e) ∈ ds.zip es → Ex H H1 → Ex H1 H3 → Dp K H1 x d → Dp K H1 y e → Turn1 K H1 σ vs t te (p (d, e)) (g (d, e)) (((wipe σ vs).set i (some x)).set j (some y)) H3) :
    EtL K (tLc (RZ.iZipA K ta) (gTup K 2 (gCons (gName i) (gCons (gName j) gNil))) t te vs) σ H (((ds.zip es).filter p).map g) := fun H0 ex Q q => h H0 ex _ fun vs' H1 e1 hvs => by
  obtain ⟨v1, v2, rfl, hv1, hv2⟩ := dpA2 hvs
  cases hv1 with
  | @tup a xs _ hs1 ha =>
    cases hv2 with
    | @tup b ys _ hs2 hb =>
      have l1 := dpA_len ha
      have l2 := dpA_len hb
      have hl : min xs.length ys.length = (ds.zip es).length := by rw [List.length_zip, l1, l2]
      refine ⟨a, b, xs, ys, rfl, .inr ⟨hs1, hs2, fun Dl hD => ?_⟩⟩
      refine lc_dat (K := K) (Y := YPair (fun i => xs[i]?) (fun i => ys[i]?)) (G := fun H => SqT K H a xs ∧ SqT K H b ys) (as := ds.zip es) (by rw [← hl]; exact walk_zipT) p g (fun H' e' => ⟨ex_t e' hs1, ex_t e' hs2⟩) (by rw [List.length_zip]; omega) (fun n c H2 x H3 hc e2 hY => ?_) hD fun zs H' e' h' hy => q Dl zs H' (fresh_back e1 hD) (e1.trans e') h' hy
      obtain ⟨T, x', y', rfl, hT, rfl, hx, hy⟩ := hY
      obtain ⟨d, e⟩ := c
      have hcm := List.mem_of_getElem? hc
      rw [List.getElem?_zip_eq_some] at hc
      obtain ⟨d', hd', hd1⟩ := dpA_getV ha hx
      obtain ⟨e', he', he1⟩ := dpA_getV hb hy
      rw [hc.1] at hd'
      rw [hc.2] at he'
      cases hd'
      cases he'
      exact ⟨Ex.new hT, fun Qg qg => ⟨T, _, rfl, st_of upd_same, rfl, _, _, rfl, _, _, rfl, rfl, qg _ (hs d e _ _ H1 _ hcm (ex.trans e1) (e2.trans (Ex.new hT)) hd1 he1)⟩⟩
end
/-! ### rules whose frame is named -/
section
variable {X : Cx} {K : PySem.W.Frag}
theorem ixTK (h : X.K = K) : IxR X (rIxT K) := h ▸ ix_tup
theorem ixLK (h : X.K = K) : IxR X (rIxL K) := h ▸ ix_list
theorem lenK (h : X.K = K) : CallR X (.builtin "len") (rLenS K) := h ▸ call_lenL
theorem isiK (h : X.K = K) : CallR X (.builtin "isinstance") (rIsi K) := h ▸ call_isi
theorem slTK (h : X.K = K) : SlR X (rSlA K) := h ▸ sl_tupA
theorem inK (h : X.K = K) : OpR X (compareOp .In) (rIn K false) := h ▸ op_in_seq
theorem niK (h : X.K = K) : OpR X (compareOp .NotIn) (rIn K true) := h ▸ op_notIn_seq
end
end Q
namespace Q
open PySem PySem.Spec PyProof.Rows L2 Evl
variable {D : Wd} {aK cB cT fL : Addr}
def isNumD : PyData → Bool
  | .int _ => true
  | _ => false
theorem isNumD_eq (d : PyData) : isNumD d = (isIntD d && !isBoolD d) := by cases d <;> rfl
def fNum : List PyData → Option PyData
  | [d] => some (.bool (isNumD d))
  | _ => none
def tupN (x : PyData) (n : Int) : Bool := match x with
  | .tuple ds => decide ((ds.length : Int) = n)
  | _ => false
def fTup : List PyData → Option PyData
  | [x, .int n] => some (.bool (tupN x n))
  | _ => none
theorem fTup_inv {ds : List PyData} {d : PyData} (h : fTup ds = some d) : ∃ x n, ds = [x, .int n] ∧ d = .bool (tupN x n) := by
  unfold fTup at h
  split at h
  · cases h
    exact ⟨_, _, rfl, rfl⟩
  · cases h
theorem tupN_two {x : PyData} (h : tupN x 2 = true) : ∃ a b, x = .tuple [a, b] := by
  cases x with
  | tuple ds =>
    have h' : (ds.length : Int) = 2 := of_decide_eq_true h
    match ds, h' with
    | [a, b], _ => exact ⟨a, b, rfl⟩
    | [], h' => simp at h'
    | [_], h' => simp at h'
    | _ :: _ :: _ :: _, h' => simp at h'; omega
  | _ => cases h
def fPair : List PyData → Option PyData
  | [d, .int (.ofNat m)] => some (.bool (isPairD m d))
  | _ => none
theorem fPair_inv {ds : List PyData} {d : PyData} (h : fPair ds = some d) : ∃ x m, ds = [x, .int (.ofNat m)] ∧ d = .bool (isPairD m x) := by
  unfold fPair at h
  split at h
  · cases h
    exact ⟨_, _, rfl, rfl⟩
  · cases h
abbrev s_is_number : Stmt := top 4
abbrev N_is_number : List Str := ["thing"]
theorem sc_is_number : FnScope N_is_number ["thing"] (defScope s_is_number) := ⟨rfl, rfl, rfl, by decide +kernel, rfl, by decide +kernel, by decide +kernel⟩
theorem c_is_number (T : Tx D aK cB cT fL) : Ca D false 1 "is_number" 1 (spDat D.K 1 fNum) := by
  obtain ⟨f, fd, F, gm⟩ := T.f4
  refine ca_mk (st := s_is_number) (N := N_is_number) (ps := ["thing"]) false F gm sc_is_number (F.bindsN fun _ _ _ _ _ _ us hl => match us, hl with | [_], _ => rfl) (fun vs H Q E h => h.1) fun cdv A outer s H vs Q E hG hr h => ?_
  refine ⟨_, (pss_one (ps_ret (pe_and (pe_callB call_isi (by rfl) T.n_isinstance (by decide +kernel) (pa_cons (pv 0) (pa_cons (pe_bltn (v := .ty "int") rfl T.n_int (by decide +kernel) rfl) pa_nil))) (pe_one (pe_not (pe_callB call_isi (by rfl) T.n_isinstance (by decide +kernel) (pa_cons (pv 0) (pa_cons (pe_bltn (v := .ty "bool") rfl T.n_bool (by decide +kernel) rfl) pa_nil)))))))), ?_⟩
  obtain ⟨_, ds, d, hvs, hf, q⟩ := h
  match ds, hf, hvs with
  | [x], hf, hvs =>
    obtain ⟨v, rfl, hv⟩ := dpA1 hvs
    cases hf
    rw [isNumD_eq] at q
    exact s_ret (ev_andV (ev_isiD (etv_var rfl hv) (kit_int x)) fun _ => ev_notV (ev_isiD (etv_var rfl hv) (kit_bool x))) fun H1 e1 => q _ H1 e1 (.bl _)
abbrev s_is_tuple : Stmt := top 5
abbrev N_is_tuple : List Str := ["thing", "size"]
theorem sc_is_tuple : FnScope N_is_tuple ["thing", "size"] (defScope s_is_tuple) := ⟨rfl, rfl, rfl, by decide +kernel, rfl, by decide +kernel, by decide +kernel⟩
theorem c_is_tuple (T : Tx D aK cB cT fL) : Ca D false 1 "is_tuple" 2 (spDat D.K 2 fTup) := by
  obtain ⟨f, fd, F, gm⟩ := T.f5
  refine ca_mk (st := s_is_tuple) (N := N_is_tuple) (ps := ["thing", "size"]) false F gm sc_is_tuple (F.bindsN fun _ _ _ _ _ _ us hl => match us, hl with | [_, _], _ => rfl) (fun vs H Q E h => h.1) fun cdv A outer s H vs Q E hG hr h => ?_
  refine ⟨_, (pss_one (ps_ret (pe_and (pe_callB call_isi (by rfl) T.n_isinstance (by decide +kernel) (pa_cons (pv 0) (pa_cons (pe_bltn (v := .ty "tuple") rfl T.n_tuple (by decide +kernel) rfl) pa_nil))) (pe_one (pe_cmpR op_eq (pe_callB call_lenL (by rfl) T.n_len (by decide +kernel) (pa_cons (pv 0) pa_nil)) (pv 1) (nomark _)))))), ?_⟩
  obtain ⟨_, ds, d, hvs, hf, q⟩ := h
  obtain ⟨x, n, rfl, rfl⟩ := fTup_inv hf
  obtain ⟨v, w, rfl, hv, hw⟩ := dpA2 hvs
  cases hw
  have e : tupN x n = (isTupD x && tupN x n) := by cases x <;> rfl
  rw [e] at q
  refine s_ret (ev_andV (ev_isiD (etv_var rfl hv) (kit_tup x)) fun z => ?_) fun H1 e1 => q _ H1 e1 (.bl _)
  cases x with
  | tuple xs => exact ev_sub (ev_op (et_lenT (etv_var rfl hv)) (ev_var rfl) (rv_eq rfl)) (congrArg V.bl (dec_int _ _))
  | _ => cases z
abbrev s_is_pair : Stmt := top 14
abbrev N_is_pair : List Str := ["thing", "most"]
theorem sc_is_pair : FnScope N_is_pair ["thing", "most"] (defScope s_is_pair) := ⟨rfl, rfl, rfl, by decide +kernel, rfl, by decide +kernel, by decide +kernel⟩
theorem isPairD_no {m : Nat} {a b : PyData} (h : ¬ (isNumD a = true ∧ isNumD b = true)) : isPairD m (.tuple [a, b]) = false := by
  cases a <;> cases b <;> first | rfl | exact absurd ⟨rfl, rfl⟩ h
theorem isPairD_tup {m : Nat} {x : PyData} (h : tupN x 2 = false) : isPairD m x = false := by
  cases q : isPairD m x with
  | false => rfl
  | true =>
    obtain ⟨p, rfl, _⟩ := isPairD_of q
    exact absurd h (by simp [pairD, tupN])
theorem c_is_pair (T : Tx D aK cB cT fL) : Ca D false 2 "is_pair" 2 (spDat D.K 2 fPair) := by
  have c_is_number := c_is_number T
  have c_is_tuple := c_is_tuple T
  obtain ⟨f, fd, F, gm⟩ := T.f14
  refine ca_mk (st := s_is_pair) (N := N_is_pair) (ps := ["thing", "most"]) false F gm sc_is_pair (F.bindsN fun _ _ _ _ _ _ us hl => match us, hl with | [_, _], _ => rfl) (fun vs H Q E h => h.1) fun cdv A outer s H vs Q E hG hr h => ?_
  refine ⟨_, (pss_cons (ps_if (PW.pt (pw_or (pt_not (pt_val (pe_ca c_is_tuple (fun z => nomatch z) hr (by decide) passL rfl (pa_cons (pv 0) (pa_cons pe_int pa_nil))))) (pw_or (pt_not (pt_val (pe_ca c_is_number (fun z => nomatch z) hr (by decide) passL rfl (pa_cons (pe_ix ix_tup (pv 0) pe_int (fun _ _ => rfl)) pa_nil)))) (pw_or1 (pt_not (pt_val (pe_ca c_is_number (fun z => nomatch z) hr (by decide) passL rfl (pa_cons (pe_ix ix_tup (pv 0) pe_int (fun _ _ => rfl)) pa_nil)))))))) (pss_one (ps_ret pe_bl)) pss_nil)
    (pss_one (ps_ret (pe_and (pe_chain op_le op_lt pe_int (pe_ix ix_tup (pv 0) pe_int (fun _ _ => rfl)) (pv 1)) (pe_one (pe_cmpR op_ge (pe_ix ix_tup (pv 0) pe_int (fun _ _ => rfl)) pe_int (nomark _))))))), ?_⟩
  obtain ⟨_, ds, d, hvs, hf, q⟩ := h
  obtain ⟨x, m, rfl, rfl⟩ := fPair_inv hf
  obtain ⟨v, w, rfl, hv, hw⟩ := dpA2 hvs
  cases hw
  cases hx : tupN x 2 with
  | false =>
    rw [isPairD_tup hx] at q
    exact q_when (b := !false || true) (et_or (et_not (et_B (ev_etB (et_ca (ds := [x, .int 2]) (eta_cons (etv_var rfl hv) (eta_cons (etI ev_c) eta_nil)) rfl (congrArg (fun b => some (PyData.bool b)) hx))))) fun z => absurd z (by decide)) (fun _ H1 e1 => s_ret ev_c fun H2 e2 => q _ H2 (e1.trans e2) (.bl false)) fun z => absurd z (by decide)
  | true =>
    obtain ⟨a, b, rfl⟩ := tupN_two hx
    have h0 : ∀ H1, Ex H H1 → Et D.K (tOp (rIxT D.K) (tVar 0) (tC (.int 0))) (L2.start N_is_pair [v, .int (.ofNat m)]) H1 a := fun H1 e1 => et_ixT (i := 0) (etv_var rfl (dp_mono e1 hv)) ev_c rfl
    have h1 : ∀ H1, Ex H H1 → Et D.K (tOp (rIxT D.K) (tVar 0) (tC (.int 1))) (L2.start N_is_pair [v, .int (.ofNat m)]) H1 b := fun H1 e1 => et_ixT (i := 1) (etv_var rfl (dp_mono e1 hv)) ev_c rfl
    refine q_when (b := !true || (!isNumD a || !isNumD b)) (et_or (et_not (et_B (ev_etB (et_ca (ds := [.tuple [a, b], .int 2]) (eta_cons (etv_var rfl hv) (eta_cons (etI ev_c) eta_nil)) rfl rfl)))) fun _ => et_or (et_not (et_B (ev_etB (et_ca (ds := [a]) (eta_cons (h0 _ (Ex.refl H)) eta_nil) rfl rfl)))) fun _ => et_not (et_B (ev_etB (et_ca (ds := [b]) (eta_cons (h1 _ (Ex.refl H)) eta_nil) rfl rfl)))) (fun hb H1 e1 => ?_) fun hb H1 e1 => ?_
    · rw [isPairD_no (by
        rintro ⟨z1, z2⟩
        rw [z1, z2] at hb
        cases hb)] at q
      exact s_ret ev_c fun H2 e2 => q _ H2 (e1.trans e2) (.bl false)
    · cases a with
      | int i =>
        cases b with
        | int j => exact s_ret (ev_andV (et_chain2 ev_c (ev_etI (h0 H1 e1)) (ev_var rfl)) fun _ => ev_op (ev_etI (h1 H1 e1)) ev_c rv_I0) fun H2 e2 => q _ H2 (e1.trans e2) (.bl _)
        | _ => cases hb
      | _ => cases hb
end Q
namespace Q
open PySem PySem.Spec PyProof.Rows L2 Evl
variable {D : Wd} {aK cB cT fL : Addr}
def isWordD : PyData → Bool
  | .str x => wd x.cps.toList
  | _ => false
def fWord : List PyData → Option PyData
  | [.str x] => if x.length ≤ 1000 then some (.bool (wd x.cps.toList)) else none
  | [d] => some (.bool (isWordD d))
  | _ => none
theorem fWord_inv {ds : List PyData} {d : PyData} (h : fWord ds = some d) : ∃ x, ds = [x] ∧ d = .bool (isWordD x) ∧ ∀ z, x = .str z → z.length ≤ 1000 := by
  unfold fWord at h
  split at h
  · split at h
    · cases h
      rename_i hx
      exact ⟨_, rfl, rfl, fun z e => by cases e; exact hx⟩
    · cases h
  · rename_i x hx
    cases h
    exact ⟨_, rfl, rfl, fun z e => absurd e (hx z)⟩
  · cases h
theorem dle1 (l : List Nat) : decide ((1 : Int) ≤ ((S l).length : Int)) = decide (1 ≤ l.length) := by
  rw [S_len]
  exact decide_eq_decide.mpr (by omega)
theorem dle8 (l : List Nat) (n : Nat) : decide (((S l).length : Int) ≤ (n : Int)) = decide (l.length ≤ n) := by
  rw [S_len]
  exact decide_eq_decide.mpr (by omega)
theorem all_in {l : List Nat} {z : Str} {g : List Nat} (e : z = S g) : (((S l).cps.toList.map fun c => V.str ⟨#[c]⟩).filter (fun _ => true)).map (fun x => match x with | .str w => V.bl (decide (w.cps.toList.headD 0 ∈ z.cps.toList)) | _ => V.bl false) = (l.map fun c => decide (c ∈ g)).map V.bl := by
  subst e
  rw [S_tl, S_tl]
  induction l with
  | nil => rfl
  | cons c l ih =>
    show V.bl (decide (c ∈ g)) :: _ = V.bl (decide (c ∈ g)) :: _
    exact congrArg (V.bl (decide (c ∈ g)) :: ·) ih
theorem all_id (l g : List Nat) : (l.map fun c => decide (c ∈ g)).all id = inL g l := by
  unfold inL
  rw [List.all_map]
  rfl
abbrev s_is_word : Stmt := top 10
abbrev N_is_word : List Str := ["thing", "sign"]
theorem sc_is_word : FnScope N_is_word ["thing"] (defScope s_is_word) := ⟨rfl, rfl, rfl, by decide +kernel, rfl, by decide +kernel, by decide +kernel⟩
theorem c_is_word (T : Tx D aK cB cT fL) : Ca D false 1 "is_word" 1 (spDat D.K 1 fWord) := by
  obtain ⟨f, fd, F, gm⟩ := T.f10
  refine ca_mk (st := s_is_word) (N := N_is_word) (ps := ["thing"]) false F gm sc_is_word (F.bindsN fun _ _ _ _ _ _ us hl => match us, hl with | [_], _ => rfl) (fun vs H Q E h => h.1) fun cdv A outer s H vs Q E hG hr h => ?_
  have nd := sc_is_word.nd
  refine ⟨_, (pss_cons (ps_if (PW.pt (pw_or (pt_not (pt_val (pe_callB call_isi (by rfl) T.n_isinstance (by decide +kernel) (pa_cons (pv 0) (pa_cons (pe_bltn (v := .ty "str") rfl T.n_str (by decide +kernel) rfl) pa_nil))))) (pw_or (pt_not (pt_chain op_le op_le pe_int (pe_callB call_lenS (by rfl) T.n_len (by decide +kernel) (pa_cons (pv 0) pa_nil)) (pe_gi rfl T.g_MOST_LETTERS))) (pw_or1 (pt_cmpR op_notInS (pe_ix ix_str (pv 0) pe_int (fun _ _ => rfl)) (pe_gs rfl T.g_GREAT) (by rfl)))))) (pss_one (ps_ret pe_bl)) pss_nil)
    (pss_one (ps_ret (pe_callB (cr_all rfl) (by rfl) T.n_all (by decide +kernel) (pa_cons (pe_lc (own := [("sign", 1)]) (g := gName 1) rfl nd (pi_str (pe_slice sl_str (pv 0) (po_some pe_int) po_none)) (blkOk_by (own := [("sign", 1)]) (N := N_is_word) (sc := defScope s_is_word) (by decide +kernel)) (fun _ _ _ _ _ => pg_name (i := 1) nd rfl (Or.inl rfl)) (fun _ _ _ _ _ => pts_nil) (fun _ _ _ _ _ => (pe_cmpR op_inS (pv 1) (pe_gs rfl T.g_SMALL) (by rfl)))) pa_nil))))), ?_⟩
  obtain ⟨_, ds, d, hvs, hf, q⟩ := h
  obtain ⟨x, rfl, rfl, hx⟩ := fWord_inv hf
  obtain ⟨v, rfl, hv⟩ := dpA1 hvs
  have bad : isStrD x = false → isWordD x = false := fun h => by cases x <;> first | rfl | cases h
  cases hs : isStrD x with
  | false =>
    rw [bad hs] at q
    exact q_when (b := !false || true) (et_or (et_not (et_B (ev_isiD (etv_var rfl hv) (by rw [kit_str, hs])))) fun z => absurd z (by decide)) (fun _ H1 e1 => s_ret ev_c fun H2 e2 => q _ H2 (e1.trans e2) (.bl false)) fun z => absurd z (by decide)
  | true =>
    cases x with
    | str z =>
      cases hv
      have hz := hx z rfl
      obtain ⟨l, rfl⟩ : ∃ l, z = S l := ⟨_, str_S z⟩
      have q' : ∀ H2, Ex H H2 → Q (.bl (wd l)) H2 := fun H2 e => by
        have y := q (.bl (wd (S l).cps.toList)) H2 e (.bl _)
        rw [S_tl] at y
        exact y
      have hL : (S l).length ≤ 1000000 := by omega
      cases l with
      | nil =>
        exact q_when (b := !true || (!(decide ((1 : Int) ≤ ((S []).length : Int)) && decide (((S []).length : Int) ≤ 8)) || true)) (et_or (et_not (et_B (ev_isiD (etS (ev_var rfl)) (kit_str _)))) fun _ => et_or (et_not (et_test (et_chain ev_c (ev_lenS (ev_var rfl) hL) ev_c))) fun hb => absurd hb (by decide)) (fun hb H1 e1 => s_ret ev_c fun H2 e2 => q' H2 (e1.trans e2)) fun hb H1 e1 => absurd hb (by decide)
      | cons c r =>
        have hw : wd (c :: r) = (!(!true || (!(decide ((1 : Int) ≤ ((S (c :: r)).length : Int)) && decide (((S (c :: r)).length : Int) ≤ ((8 : Nat) : Int))) || !decide (c ∈ gr))) && inL sm r) := by
          rw [dle1, dle8]
          unfold wd
          show (_ && _ && (decide (c ∈ gr) && true) && inL sm r) = _
          generalize decide (1 ≤ (c :: r).length) = a
          generalize decide ((c :: r).length ≤ 8) = b
          generalize decide (c ∈ gr) = d
          generalize inL sm r = e
          cases a <;> cases b <;> cases d <;> cases e <;> rfl
        have hg : ((V.bl (!decide (c ∈ ("ABCDEFGHIJKLMNOPQRSTUVWXYZ" : Str).cps.toList)))) = V.bl (!decide (c ∈ gr)) := by rw [t_great, S_tl]
        refine q_when (b := !true || (!(decide ((1 : Int) ≤ ((S (c :: r)).length : Int)) && decide (((S (c :: r)).length : Int) ≤ ((8 : Nat) : Int))) || !decide (c ∈ gr))) (et_or (et_not (et_B (ev_isiD (etS (ev_var rfl)) (kit_str _)))) fun _ => et_or (et_not (et_test (et_chain ev_c (ev_lenS (ev_var rfl) hL) ev_c))) fun _ => et_test (ev_sub (ev_op (ev_ixS (ev_var rfl) ev_c hL (by rw [S_tl]; exact atI_nat (i := 0) rfl)) ev_c rv_niS) hg)) (fun hb H1 e1 => ?_) fun hb H1 e1 => ?_
        · rw [hw, hb] at q'
          exact s_ret ev_c fun H2 e2 => q' H2 (e1.trans e2)
        · rw [hw, hb, ← all_id] at q'
          refine s_ret (ev_all (el_is (bs := r.map fun c => decide (c ∈ sm)) (el_lcS (w := S r) (fun _ => true) (fun x => match x with | .str w => V.bl (decide (w.cps.toList.headD 0 ∈ ("abcdefghijklmnopqrstuvwxyz" : Str).cps.toList)) | _ => V.bl false)
            (ev_sub (ev_slS (ev_var rfl) (eo_some ev_c) eo_none hL) (congrArg V.str (cutS_from (c :: r) 1))) (Nat.le_trans (by rw [S_len, S_len]; simp) hL) (fun _ => rfl) (fun c H1 _ _ => et_yes) (fun c H1 _ _ _ => ev_op (ev_var rfl) ev_c rv_inS)) (all_in t_small))) fun H2 e2 => q' H2 (e1.trans e2)
    | _ => cases hs
end Q
namespace Q
open PySem PySem.Spec PyProof.Rows L2 Evl
variable {D : Wd} {aK cB cT fL : Addr}
def lenB : PyData → Bool
  | .tuple ds => decide (ds.length ≤ 100000)
  | .list ds => decide (ds.length ≤ 100000)
  | _ => true
def fLot : List PyData → Option PyData
  | [d, .int (.ofNat m)] => if lenB d = true then some (.bool (isLotD m d)) else none
  | _ => none
theorem fLot_inv {ds : List PyData} {d : PyData} (h : fLot ds = some d) : ∃ x m, ds = [x, .int (.ofNat m)] ∧ d = .bool (isLotD m x) ∧ lenB x = true := by
  unfold fLot at h
  split at h
  · split at h
    · cases h
      rename_i hx
      exact ⟨_, _, rfl, rfl, hx⟩
    · cases h
  · cases h
theorem fLot_mk {x : PyData} {m : Nat} (h : lenB x = true) : fLot [x, .int (m : Int)] = some (.bool (isLotD m x)) := if_pos h
theorem filter_yes {α : Type} (l : List α) : l.filter (fun _ => true) = l := List.filter_eq_self.mpr fun _ _ => rfl
theorem inc_zip : ∀ ds : List PyData, (((ds.zip (ds.drop 1)).filter fun _ => true).map fun q => PyData.bool (decide (pnD q.1 < pnD q.2))) = (((ds.zip (ds.drop 1)).map fun q => decide (pnD q.1 < pnD q.2))).map .bool := fun ds => by
  rw [filter_yes, List.map_map]
  rfl
theorem inc_all : ∀ ds : List PyData, ((ds.zip (ds.drop 1)).map fun q => decide (pnD q.1 < pnD q.2)).all id = incD ds
  | [] => rfl
  | [a] => rfl
  | a :: b :: r => by
    have ih := inc_all (b :: r)
    show (decide (pnD a < pnD b) && (((b :: r).zip r).map fun q => decide (pnD q.1 < pnD q.2)).all id) = (decide (pnD a < pnD b) && incD (b :: r))
    rw [← ih]
    rfl
abbrev s_is_lot_below : Stmt := top 15
abbrev N_is_lot_below : List Str := ["thing", "most", "one", "other"]
theorem sc_is_lot_below : FnScope N_is_lot_below ["thing", "most"] (defScope s_is_lot_below) := ⟨rfl, rfl, rfl, by decide +kernel, rfl, by decide +kernel, by decide +kernel⟩
theorem c_is_lot_below (T : Tx D aK cB cT fL) : Ca D false 3 "is_lot_below" 2 (spDat D.K 2 fLot) := by
  have c_is_pair := c_is_pair T
  obtain ⟨f, fd, F, gm⟩ := T.f15
  refine ca_mk (st := s_is_lot_below) (N := N_is_lot_below) (ps := ["thing", "most"]) false F gm sc_is_lot_below (F.bindsN fun _ _ _ _ _ _ us hl => match us, hl with | [_, _], _ => rfl) (fun vs H Q E h => h.1) fun cdv A outer s H vs Q E hG hr h => ?_
  have nd := sc_is_lot_below.nd
  refine ⟨_, (pss_cons (ps_if (PW.pt (pw_or (pt_not (pt_val (pe_callB call_isi (by rfl) T.n_isinstance (by decide +kernel) (pa_cons (pv 0) (pa_cons (pe_bltn (v := .ty "tuple") rfl T.n_tuple (by decide +kernel) rfl) pa_nil))))) (pw_or1 (pt_not (pt_val (pe_callB (cr_all rfl) (by rfl) T.n_all (by decide +kernel) (pa_cons (pe_lc (own := [("one", 2)]) (g := gName 2) rfl nd (pi_tup (pv 0)) (blkOk_by (own := [("one", 2)]) (N := N_is_lot_below) (sc := defScope s_is_lot_below) (by decide +kernel)) (fun _ _ _ _ _ => pg_name (i := 2) nd rfl (Or.inl rfl)) (fun _ _ _ _ _ => pts_nil) (fun _ _ _ _ _ => (pe_ca c_is_pair (fun z => nomatch z) hr (by decide) passL rfl (pa_cons (pv 2) (pa_cons (pv 1) pa_nil))))) pa_nil))))))) (pss_one (ps_ret pe_bl)) pss_nil)
    (pss_one (ps_ret (pe_callB (cr_all rfl) (by rfl) T.n_all (by decide +kernel) (pa_cons (pe_lc (own := [("one", 2), ("other", 3)]) (g := gTup D.K 2 (gCons (gName 2) (gCons (gName 3) gNil))) rfl nd (RZ.pi_zipA rfl T.n_zip (pa_cons (pv 0) (pa_cons (pe_slice sl_tupA (pv 0) (po_some pe_int) po_none) pa_nil))) (blkOk_by (own := [("one", 2), ("other", 3)]) (N := N_is_lot_below) (sc := defScope s_is_lot_below) (by decide +kernel)) (fun _ _ _ _ _ => pg_tup rfl (pgs_cons (pg_name (i := 2) nd rfl (Or.inl rfl)) (pgs_cons (pg_name (i := 3) nd rfl (Or.inl rfl)) pgs_nil))) (fun _ _ _ _ _ => pts_nil) (fun _ _ _ _ _ => (pe_cmpR op_lt (pe_ix (ixTK (K := D.K) rfl) (pv 2) pe_int (fun _ _ => rfl)) (pe_ix (ixTK (K := D.K) rfl) (pv 3) pe_int (fun _ _ => rfl)) (nomark _)))) pa_nil))))), ?_⟩
  obtain ⟨_, ds, d, hvs, hf, q⟩ := h
  obtain ⟨x, m, rfl, rfl, hx⟩ := fLot_inv hf
  obtain ⟨v, w, rfl, hv, hw⟩ := dpA2 hvs
  cases hw
  cases hs : isTupD x with
  | false =>
    have e : isLotD m x = false := by cases x <;> first | rfl | cases hs
    rw [e] at q
    exact q_when (b := !false || true) (et_or (et_not (et_B (ev_isiD (etv_var rfl hv) (by rw [kit_tup, hs])))) fun z => absurd z (by decide)) (fun _ H1 e1 => s_ret ev_c fun H2 e2 => q _ H2 (e1.trans e2) (.bl false)) fun z => absurd z (by decide)
  | true =>
    cases x with
    | tuple xs =>
      have hl : xs.length ≤ 100000 := of_decide_eq_true hx
      refine q_when (b := !true || !((xs.map (isPairD m)).all id)) (et_or (et_not (et_B (ev_isiD (etv_var rfl hv) (kit_tup _)))) fun _ => et_not (et_B (ev_allD (etl_is (etl_T (fun _ => true) (fun d => .bool (isPairD m d)) (etv_var rfl hv) (by omega) fun d x H1 H3 hd e1 e3 hx => ⟨rfl, et_yes, fun _ => .inl ⟨rfl, et_ca (ds := [d, .int (.ofNat m)]) (eta_cons (etv_var rfl (dp_mono e3 hx)) (eta_cons (etI (ev_var rfl)) eta_nil)) rfl rfl⟩⟩) (by rw [filter_yes, List.map_map]; rfl))))) (fun hb H1 e1 => ?_) fun hb H1 e1 => ?_
      · have e : isLotD m (.tuple xs) = false := by
          show (xs.all (isPairD m) && incD xs) = false
          rw [List.all_map] at hb
          have z : xs.all (isPairD m) = false := by simpa using hb
          rw [z]
          rfl
        rw [e] at q
        exact s_ret ev_c fun H2 e2 => q _ H2 (e1.trans e2) (.bl false)
      · have hall : xs.all (isPairD m) = true := by
          rw [List.all_map] at hb
          simpa using hb
        have e : isLotD m (.tuple xs) = incD xs := by
          show (xs.all (isPairD m) && incD xs) = incD xs
          rw [hall, Bool.true_and]
        rw [e, ← inc_all] at q
        have hp : ∀ d ∈ xs, ∃ p : Nat × Int, d = pairD p := fun d hd => by
          obtain ⟨p, h, _⟩ := isPairD_of (List.all_eq_true.mp hall d hd)
          exact ⟨p, h⟩
        refine s_ret (ev_allD (etl_is (etl_zip (fun _ => true) (fun q => .bool (decide (pnD q.1 < pnD q.2))) (eta_cons (etv_var rfl (dp_mono e1 hv)) (eta_cons (et_slA (etv_var rfl (dp_mono e1 hv)) (eo_some ev_c) eo_none (cut_from xs 1).symm) eta_nil)) (by omega) fun d e x y H1 H3 hd e1 e3 hx hy => ?_) (inc_zip xs))) fun H2 e2 => q _ H2 (e1.trans e2) (.bl _)
        obtain ⟨p1, rfl⟩ := hp d (List.of_mem_zip hd).1
        obtain ⟨p2, rfl⟩ := hp e (List.mem_of_mem_drop (List.of_mem_zip hd).2)
        exact ⟨rfl, et_yes, fun _ => .inl ⟨rfl, etB (ev_op (ev_etI (et_ixT (i := 0) (etv_var rfl (dp_mono e3 hx)) ev_c rfl)) (ev_etI (et_ixT (i := 0) (etv_var rfl (dp_mono e3 hy)) ev_c rfl)) rv_I0)⟩⟩
    | _ => cases hs
end Q
namespace Q
open PySem PySem.Spec PyProof.Rows L2 Evl
variable {D : Wd} {aK cB cT fL : Addr}
/-! ### a display of constants, looked up -/
theorem tPairs_c {σ : L2.St} {H : Hp} : ∀ (kvs : List (Key × V)) (Q : List (V × V) → Hp → Prop), Q (kvs.map fun kv => (kV kv.1, kv.2)) H → tPairs (kvs.map fun kv => (tC (kV kv.1), tC kv.2)) σ H Q
  | [], Q, q => q
  | kv :: kvs, Q, q => tPairs_c kvs (fun ps H3 => Q ((kV kv.1, kv.2) :: ps) H3) q
theorem ev_dispGet {σ : L2.St} {H : Hp} {ty : TE} {k : Key} {v : V} (kvs : List (Key × V)) (hl : kvs.length ≤ 15) (hy : Ev ty σ H (kV k)) (hv : valV (mergeK [] kvs) k = some v) : Ev (tDGet (tDisp (kvs.map fun kv => (tC (kV kv.1), tC kv.2))) ty) σ H v := fun H1 e Q q => fun p hp =>
  tPairs_c kvs _ ⟨upd_same, kvs, rfl, hl, by
    have e2 : Ex H1 (upd (upd H1 p (.dK [])) p (.dK (mergeK [] kvs))) := Ex.mut (Ex.new hp) hp
    exact hy _ (e.trans e2) _ fun H3 e3 => ⟨p, v, rfl, by rw [← hv]; exact DGet.k (e3 _ _ upd_same), q H3 (e2.trans e3)⟩⟩
def kindLen (k : Str) : Option Nat := if k = "num" then some 2 else if k = "end" then some 1 else if k = "con" then some 3 else if k = "fun" then some 3 else none
def hasKindD : PyData → Bool
  | .tuple (.str k :: r) => decide (kindLen k = some (r.length + 1))
  | _ => false
def fKind : List PyData → Option PyData
  | [d] => if SeqAt.shaped d = true then some (.bool (hasKindD d)) else none
  | _ => none
theorem fKind_inv {ds : List PyData} {d : PyData} (h : fKind ds = some d) : ∃ x, ds = [x] ∧ d = .bool (hasKindD x) ∧ SeqAt.shaped x = true := by
  unfold fKind at h
  split at h
  · split at h
    · cases h
      rename_i hx
      exact ⟨_, rfl, rfl, hx⟩
    · cases h
  · cases h
theorem in_kinds (k : Str) : inV (.str k) (kinds.map .str) = (kindLen k).isSome := by
  unfold kinds kindLen
  show (eqV (.str "num") (.str k) || (eqV (.str "end") (.str k) || (eqV (.str "con") (.str k) || (eqV (.str "fun") (.str k) || false)))) = _
  show (("num" : Str) == k || (("end" : Str) == k || (("con" : Str) == k || (("fun" : Str) == k || false)))) = _
  by_cases h1 : k = "num"
  · subst h1
    rfl
  · by_cases h2 : k = "end"
    · subst h2
      rfl
    · by_cases h3 : k = "con"
      · subst h3
        rfl
      · by_cases h4 : k = "fun"
        · subst h4
          rfl
        · rw [if_neg h1, if_neg h2, if_neg h3, if_neg h4]
          simp [Ne.symm h1, Ne.symm h2, Ne.symm h3, Ne.symm h4]
def kindKvs : List (Key × V) := [(.inr "num", .int 2), (.inr "end", .int 1), (.inr "con", .int 3), (.inr "fun", .int 3)]
theorem kind_val {k : Str} {n : Nat} (h : kindLen k = some n) : valV (mergeK [] kindKvs) (.inr k) = some (.int (n : Int)) := by
  unfold kindLen at h
  by_cases h1 : k = "num"
  · subst h1
    cases h
    rfl
  · rw [if_neg h1] at h
    by_cases h2 : k = "end"
    · subst h2
      cases h
      rfl
    · rw [if_neg h2] at h
      by_cases h3 : k = "con"
      · subst h3
        cases h
        rfl
      · rw [if_neg h3] at h
        by_cases h4 : k = "fun"
        · subst h4
          cases h
          rfl
        · rw [if_neg h4] at h
          cases h
abbrev s_has_kind : Stmt := top 16
abbrev N_has_kind : List Str := ["thing"]
theorem sc_has_kind : FnScope N_has_kind ["thing"] (defScope s_has_kind) := ⟨rfl, rfl, rfl, by decide +kernel, rfl, by decide +kernel, by decide +kernel⟩
theorem c_has_kind (T : Tx D aK cB cT fL) : Ca D false 1 "has_kind" 1 (spDat D.K 1 fKind) := by
  obtain ⟨f, fd, F, gm⟩ := T.f16
  refine ca_mk (st := s_has_kind) (N := N_has_kind) (ps := ["thing"]) false F gm sc_has_kind (F.bindsN fun _ _ _ _ _ _ us hl => match us, hl with | [_], _ => rfl) (fun vs H Q E h => h.1) fun cdv A outer s H vs Q E hG hr h => ?_
  have hu := hr.units
  refine ⟨_, (pss_cons (ps_if (PW.pt (pw_or (pt_not (pt_val (pe_callB call_isi (by rfl) T.n_isinstance (by decide +kernel) (pa_cons (pv 0) (pa_cons (pe_bltn (v := .ty "tuple") rfl T.n_tuple (by decide +kernel) rfl) pa_nil))))) (pw_or (pt_cmpR (op_eqD hu) (pv 0) (pe_tup pa_nil) (nomark _)) (pw_or (pt_not (pt_val (pe_callB call_isi (by rfl) T.n_isinstance (by decide +kernel) (pa_cons (pe_ix ix_tup (pv 0) pe_int (fun _ _ => rfl)) (pa_cons (pe_bltn (v := .ty "str") rfl T.n_str (by decide +kernel) rfl) pa_nil))))) (pw_or1 (pt_cmpR op_notIn_seq (pe_ix ix_tup (pv 0) pe_int (fun _ _ => rfl)) (pe_gr rfl T.g_KINDS) (by rfl))))))) (pss_one (ps_ret pe_bl)) pss_nil)
    (pss_one (ps_ret (pe_cmpR op_eq (pe_callB call_lenL (by rfl) T.n_len (by decide +kernel) (pa_cons (pv 0) pa_nil)) (pe_dget (hu_of hr) (pe_disp (pps_cons pe_str pe_int (pps_cons pe_str pe_int (pps_cons pe_str pe_int (pps_cons pe_str pe_int pps_nil)))) (by rfl) (by rfl) (fun z => by cases z) (by decide)) (pe_ix ix_tup (pv 0) pe_int (fun _ _ => rfl)) (fun _ _ => rfl)) (nomark _))))), ?_⟩
  obtain ⟨_, ds, d, hvs, hf, q⟩ := h
  obtain ⟨x, rfl, rfl, hx⟩ := fKind_inv hf
  obtain ⟨v, rfl, hv⟩ := dpA1 hvs
  cases ht : isTupD x with
  | false =>
    have e : hasKindD x = false := by cases x <;> first | rfl | cases ht
    rw [e] at q
    exact q_when (b := !false || true) (et_or (et_not (et_B (ev_isiD (etv_var rfl hv) (by rw [kit_tup, ht])))) fun z => absurd z (by decide)) (fun _ H1 e1 => s_ret ev_c fun H2 e2 => q _ H2 (e1.trans e2) (.bl false)) fun z => absurd z (by decide)
  | true =>
    cases x with
    | tuple xs =>
      cases xs with
      | nil => exact q_when (b := !true || (PyData.eqv (.tuple []) (.tuple []) || true)) (et_or (et_not (et_B (ev_isiD (etv_var rfl hv) (kit_tup _)))) fun _ => et_or (et_test (et_eqD (etv_var rfl hv) (et_tup (ta := tNil) eta_nil (by decide)) hx rfl)) fun z => absurd z (by decide)) (fun _ H1 e1 => s_ret ev_c fun H2 e2 => q _ H2 (e1.trans e2) (.bl false)) fun z => absurd z (by decide)
      | cons a r =>
        have h0 : ∀ H1, Ex H H1 → Et D.K (tOp (rIxT D.K) (tVar 0) (tC (.int 0))) (L2.start N_has_kind [v]) H1 a := fun H1 e1 => et_ixT (i := 0) (etv_var rfl (dp_mono e1 hv)) ev_c rfl
        have hne : PyData.eqv (.tuple (a :: r)) (.tuple []) = false := by simp [PyData.eqv, PyData.eqvAll]
        cases hs : isStrD a with
        | false =>
          have e : hasKindD (.tuple (a :: r)) = false := by cases a <;> first | rfl | cases hs
          rw [e] at q
          exact q_when (b := !true || (PyData.eqv (.tuple (a :: r)) (.tuple []) || (!false || true))) (et_or (et_not (et_B (ev_isiD (etv_var rfl hv) (kit_tup _)))) fun _ => et_or (et_test (et_eqD (etv_var rfl hv) (et_tup (ta := tNil) eta_nil (by decide)) hx rfl)) fun _ => et_or (et_not (et_B (ev_isiD (h0 _ (Ex.refl H)) (by rw [kit_str, hs])))) fun z => absurd z (by decide)) (fun _ H1 e1 => s_ret ev_c fun H2 e2 => q _ H2 (e1.trans e2) (.bl false)) fun z => absurd z (by rw [hne]; decide)
        | true =>
          cases a with
          | str k =>
            have hb : ∀ {b c : Bool}, (!true || (false || (!true || b))) = c → b = c := fun {b c} h => h
            refine q_when (b := !true || (PyData.eqv (.tuple (.str k :: r)) (.tuple []) || (!true || !(kindLen k).isSome))) (et_or (et_not (et_B (ev_isiD (etv_var rfl hv) (kit_tup _)))) fun _ => et_or (et_test (et_eqD (etv_var rfl hv) (et_tup (ta := tNil) eta_nil (by decide)) hx rfl)) fun _ => et_or (et_not (et_B (ev_isiD (h0 _ (Ex.refl H)) (kit_str _)))) fun _ => et_test (ev_sub (ev_op (ev_etS (h0 _ (Ex.refl H))) ev_c (rv_niT (T.s_KINDS _) rfl rfl)) (by rw [in_kinds]))) (fun hb1 H1 e1 => ?_) fun hb1 H1 e1 => ?_
            · rw [hne] at hb1
              have hk : kindLen k = none := by
                cases hk : kindLen k with
                | none => rfl
                | some n =>
                  rw [hk] at hb1
                  cases hb1
              have e : hasKindD (.tuple (.str k :: r)) = false := by
                show decide (kindLen k = some (r.length + 1)) = false
                rw [hk]
                rfl
              rw [e] at q
              exact s_ret ev_c fun H2 e2 => q _ H2 (e1.trans e2) (.bl false)
            · rw [hne] at hb1
              obtain ⟨n, hk⟩ : ∃ n, kindLen k = some n := by
                cases hk : kindLen k with
                | some n => exact ⟨n, rfl⟩
                | none =>
                  rw [hk] at hb1
                  cases hb1
              refine s_ret (ev_op (et_lenT (etv_var rfl (dp_mono e1 hv))) (ev_dispGet (k := .inr k) kindKvs (by decide) (ev_etS (h0 H1 e1)) (kind_val hk)) (rv_eq rfl)) fun H2 e2 => ?_
              have e : hasKindD (.tuple (.str k :: r)) = decide (V.int (((PyData.str k :: r).length : Nat) : Int) = V.int (n : Int)) := by
                show decide (kindLen k = some (r.length + 1)) = _
                rw [hk, dec_nat]
                exact decide_eq_decide.mpr ⟨fun h => (Option.some.inj h).symm, fun h => congrArg some h.symm⟩
              rw [e] at q
              exact q _ H2 (e1.trans e2) (.bl _)
          | _ => cases hs
    | _ => cases ht
end Q
namespace Q
open PySem PySem.Spec PyProof.Rows L2 Evl
variable {D : Wd} {aK cB cT fL : Addr}
def fLots : List PyData → Option PyData
  | [.tuple (.str k :: r)] => if k = "fun" then some (.tuple r) else if k = "con" then r[1]? else some (.tuple [])
  | _ => none
theorem fLots_inv {ds : List PyData} {d : PyData} (h : fLots ds = some d) : ∃ k r, ds = [.tuple (.str k :: r)] ∧ (if k = "fun" then some (.tuple r) else if k = "con" then r[1]? else some (.tuple [])) = some d := by
  unfold fLots at h
  split at h
  · exact ⟨_, _, rfl, h⟩
  · cases h
theorem fLots_use (u : Use) : fLots [useD u] = some (.tuple (u.lots.map lotD)) := by cases u <;> rfl
theorem q_whenD {t : TT} {tu tz : TS} {σ : L2.St} {H : Hp} {Dn : Ends} {b : Bool} (h : EvT t σ H b) (h1 : b = true → ∀ H1, Ex H H1 → tu { Dn with nx := tz Dn } σ H1) (h2 : b = false → ∀ H1, Ex H H1 → tz Dn σ H1) : tSeq (tIfS t tu tNext) tz Dn σ H := q_when h h1 h2
theorem et_if {K : PySem.W.Frag} {t : TT} {ta tb : TE} {σ : L2.St} {H : Hp} {d : PyData} {b : Bool} (h : EvT t σ H b) (h1 : b = true → Et K ta σ H d) (h2 : b = false → Et K tb σ H d) : Et K (tIf t ta tb) σ H d := fun H1 e Q q => h H1 e _ fun H2 e2 => by
  cases b with
  | true => rw [if_pos rfl]; exact h1 rfl H2 (e.trans e2) Q fun v H3 e3 => q v H3 (e2.trans e3)
  | false => rw [if_neg (by decide)]; exact h2 rfl H2 (e.trans e2) Q fun v H3 e3 => q v H3 (e2.trans e3)
abbrev s_lots_in : Stmt := top 17
abbrev N_lots_in : List Str := ["use"]
theorem sc_lots_in : FnScope N_lots_in ["use"] (defScope s_lots_in) := ⟨rfl, rfl, rfl, by decide +kernel, rfl, by decide +kernel, by decide +kernel⟩
theorem c_lots_in (T : Tx D aK cB cT fL) : Ca D false 1 "lots_in" 1 (spDat D.K 1 fLots) := by
  obtain ⟨f, fd, F, gm⟩ := T.f17
  refine ca_mk (st := s_lots_in) (N := N_lots_in) (ps := ["use"]) false F gm sc_lots_in (F.bindsN fun _ _ _ _ _ _ us hl => match us, hl with | [_], _ => rfl) (fun vs H Q E h => h.1) fun cdv A outer s H vs Q E hG hr h => ?_
  refine ⟨_, (pss_cons (ps_if (pt_cmpR op_eq (pe_ix ix_tup (pv 0) pe_int (fun _ _ => rfl)) pe_str (nomark _)) (pss_one (ps_ret (pe_slice sl_tupA (pv 0) (po_some pe_int) po_none))) pss_nil)
    (pss_one (ps_ret (pe_ifExp (pt_cmpR op_eq (pe_ix ix_tup (pv 0) pe_int (fun _ _ => rfl)) pe_str (nomark _)) (pe_ix ix_tup (pv 0) pe_int (fun _ _ => rfl)) (pe_tup pa_nil))))), ?_⟩
  obtain ⟨_, ds, d, hvs, hf, q⟩ := h
  obtain ⟨k, r, rfl, hd⟩ := fLots_inv hf
  obtain ⟨v, rfl, hv⟩ := dpA1 hvs
  have h0 : ∀ H1, Ex H H1 → Ev (tOp (rIxT D.K) (tVar 0) (tC (.int 0))) (L2.start N_lots_in [v]) H1 (.str k) := fun H1 e1 => ev_etS (et_ixT (i := 0) (etv_var rfl (dp_mono e1 hv)) ev_c rfl)
  refine q_when (b := decide (V.str k = V.str "fun")) (et_test (ev_op (h0 _ (Ex.refl H)) ev_c (rv_eq rfl))) (fun hb H1 e1 => ?_) fun hb H1 e1 => ?_
  · rw [dec_str] at hb
    rw [if_pos (of_decide_eq_true hb)] at hd
    cases hd
    exact s_retD (et_slA (etv_var rfl (dp_mono e1 hv)) (eo_some ev_c) eo_none (cut_from (.str k :: r) 1).symm) fun v H2 e2 hv => q v H2 (e1.trans e2) hv
  · rw [dec_str] at hb
    rw [if_neg (of_decide_eq_false hb)] at hd
    refine s_retD (K := D.K) (d := d) (et_if (b := decide (V.str k = V.str "con")) (et_test (ev_op (h0 H1 e1) ev_c (rv_eq rfl))) (fun hc => ?_) fun hc => ?_) fun v H2 e2 hv => q v H2 (e1.trans e2) hv
    · rw [dec_str] at hc
      rw [if_pos (of_decide_eq_true hc)] at hd
      exact et_ixT (i := 2) (etv_var rfl (dp_mono e1 hv)) ev_c hd
    · rw [dec_str] at hc
      rw [if_neg (of_decide_eq_false hc)] at hd
      cases hd
      exact et_tup eta_nil (by decide)
end Q
namespace Q
open PySem PySem.Spec PyProof.Rows L2 Evl
/-! ### a call of a local name that holds a def of the module -/
def tCaL (i : Nat) (f : Addr) (sp : Sp) (E : XK) (t : TA) : TE := fun σ H Q => σ[i]? = some (some (.ref f)) ∧ t σ H fun vs H1 => sp vs H1 Q E
section
variable {X : Cx} {g : Bool} {j k n i : Nat} {x y : Str} {sp : Sp} {E : XK} {p pos : Pos} {e : Expr} {es : List Expr} {t : TA} {f : Addr}
theorem pe_caL (c : Ca (.of X) g j y n sp) (hf : X.mg y = some (.ref f)) (hG : g = true → X.A.guards = some []) (hr : Room k X.A) (hk : j ≤ k) (hx : Passes (L2.CX X.prog X.w) X E) (hN : X.N[i]? = some x) (hv : Vis X.env.scope x) (ha : PA X (e :: es) t)
    (hdb : (x == ("__debug__" : Str)) = false := by decide) (hcd : (x == ("__classdict__" : Str)) = false := by decide)
    (he : starEach (e :: es) X.env = (false, eval e X.env) :: starEach es X.env := by rfl) (hpl : (backTo pos (starEach es X.env)).any (·.1) = false := by rfl) :
    PE X (.Call (.Name x p) (e :: es) [] pos) (tCaL i f sp E t) := by
  refine ⟨fun pins s σ H Q I h => ?_⟩
  obtain ⟨hs, ht⟩ := h
  have kp : PySem.W.keepIn X.K (.ref f) = true := by
    obtain ⟨f', hm, kp⟩ := c.at_
    have z := hm.symm.trans hf
    cases z
    exact kp
  refine wpAny_Call_Name_kw (thn ((pe_var (pos := p) hN hv hdb hcd).run pins s σ H (fun v H1 => v = .ref f ∧ H1 = H) I ⟨.ref f, hs, rfl, rfl⟩) fun u s1 ⟨v, H1, I1, r1, q1⟩ => ?_)
  obtain ⟨rfl, rfl⟩ := q1
  cases r1
  exact PySem.W.callWith_K (h₀ := X.base) I.ok.mod.kin kp (thn (ha.run pos pins s1 σ _ _ I1 ht) fun us s2 ⟨vs, H2, I2, r, q⟩ => ⟨I2.kIn, run_ca c hG hr hk hx hf I2 r q⟩) he hpl
theorem et_caL {K : PySem.W.Frag} {σ : L2.St} {H : Hp} {ds : List PyData} {d : PyData} {F : List PyData → Option PyData} {ta : TA} (hs : σ[i]? = some (some (.ref f))) (h : EtA K ta σ H ds) (hn : ds.length = n) (hf : F ds = some d) : Et K (tCaL i f (spDat K n F) E ta) σ H d := fun H1 x Q q =>
  ⟨hs, h H1 x _ fun vs H2 e2 hvs => ⟨by rw [dpA_len hvs]; exact hn, ds, d, hvs, hf, fun v H3 e3 hv => q v H3 (e2.trans e3) hv⟩⟩
end
end Q
namespace Q
open PySem PySem.Spec PyProof.Rows L2 Evl
variable {D : Wd} {aK cB cT fL : Addr}
theorem hasKind_cases {x : PyData} (h : hasKindD x = true) : (∃ a, x = .tuple [.str "num", a]) ∨ x = .tuple [.str "end"] ∨ (∃ a b, x = .tuple [.str "con", a, b]) ∨ ∃ a b, x = .tuple [.str "fun", a, b] := by
  unfold hasKindD at h
  split at h
  · rename_i k r
    have h := of_decide_eq_true h
    unfold kindLen at h
    by_cases h1 : k = "num"
    · subst h1
      have e : 2 = r.length + 1 := Option.some.inj h
      match r, e with
      | [a], _ => exact .inl ⟨a, rfl⟩
    · rw [if_neg h1] at h
      by_cases h2 : k = "end"
      · subst h2
        have e : 1 = r.length + 1 := Option.some.inj h
        match r, e with
        | [], _ => exact .inr (.inl rfl)
      · rw [if_neg h2] at h
        by_cases h3 : k = "con"
        · subst h3
          have e : 3 = r.length + 1 := Option.some.inj h
          match r, e with
          | [a, b], _ => exact .inr (.inr (.inl ⟨a, b, rfl⟩))
        · rw [if_neg h3] at h
          by_cases h4 : k = "fun"
          · subst h4
            have e : 3 = r.length + 1 := Option.some.inj h
            match r, e with
            | [a, b], _ => exact .inr (.inr (.inr ⟨a, b, rfl⟩))
          · rw [if_neg h4] at h
            cases h
  · cases h
theorem use_kind {m : Nat} {x : PyData} (h : hasKindD x = false) : isUseD m x = false := by
  cases q : isUseD m x with
  | false => rfl
  | true =>
    obtain ⟨u, rfl, _⟩ := isUseD_of q
    have e : hasKindD (useD u) = true := by cases u <;> rfl
    rw [e] at h
    cases h
def isPartsD (m : Nat) : PyData → Bool
  | .tuple ls => decide (ls.length ≤ 4) && ls.all (isLotD m)
  | _ => false
theorem use_con (m : Nat) (a b : PyData) : isUseD m (.tuple [.str "con", a, b]) = (isWordD a && isPartsD m b) := by
  show isRestD m "con" [a, b] = _
  cases a <;> cases b <;> first | rfl | (simp [isRestD, isWordD, isPartsD]; done) | skip
theorem use_num (m : Nat) (a : PyData) : isUseD m (.tuple [.str "num", a]) = isNumD a := by
  cases a <;> rfl
theorem use_fun (m : Nat) (a b : PyData) : isUseD m (.tuple [.str "fun", a, b]) = (isLotD m a && isLotD m b) := rfl
theorem dom_len {s n : Nat} (hs : s ≤ 100000) {d : PyData} (h : domD s n d = true) : lenB d = true := by
  cases d with
  | tuple ds =>
    obtain ⟨_, _, h1, _⟩ := domD_tup h
    exact decide_eq_true (by omega)
  | list ds =>
    obtain ⟨_, _, h1, _⟩ := domD_lst h
    exact decide_eq_true (by omega)
  | _ => rfl
theorem dom_word {s n : Nat} {d : PyData} (h : domD s n d = true) : fWord [d] = some (.bool (isWordD d)) := by
  cases d with
  | str x =>
    rw [domD, Bool.and_eq_true] at h
    exact if_pos (of_decide_eq_true h.2)
  | _ => rfl
def spUse (K : PySem.W.Frag) (fL : Addr) : Sp := fun vs H Q _ => vs.length = 3 ∧ ∃ v x m, vs = [v, .int ((m : Nat) : Int), .ref fL] ∧ Dp K H v x ∧ domD 1000 40 x = true ∧ ∀ H2, Ex H H2 → Q (.bl (isUseD m x)) H2
abbrev s_is_use : Stmt := top 18
abbrev N_is_use : List Str := ["thing", "most", "is_one", "lot"]
theorem sc_is_use : FnScope N_is_use ["thing", "most", "is_one"] (defScope s_is_use) := ⟨rfl, rfl, rfl, by decide +kernel, rfl, by decide +kernel, by decide +kernel⟩
theorem c_is_use (T : Tx D aK cB cT fL) : Ca D false 4 "is_use" 3 (spUse D.K fL) := by
  have c_is_number := c_is_number T
  have c_is_word := c_is_word T
  have c_is_lot_below := c_is_lot_below T
  have c_has_kind := c_has_kind T
  have c_lots_in := c_lots_in T
  obtain ⟨f, fd, F, gm⟩ := T.f18
  refine ca_mk (st := s_is_use) (N := N_is_use) (ps := ["thing", "most", "is_one"]) false F gm sc_is_use (F.bindsN fun _ _ _ _ _ _ us hl => match us, hl with | [_, _, _], _ => rfl) (fun vs H Q E h => h.1) fun cdv A outer s H vs Q E hG hr h => ?_
  have nd := sc_is_use.nd
  refine ⟨_, (pss_cons (ps_if (pt_not (pt_val (pe_ca c_has_kind (fun z => nomatch z) hr (by decide) passL rfl (pa_cons (pv 0) pa_nil)))) (pss_one (ps_ret pe_bl)) pss_nil)
    (pss_cons (ps_if (pt_cmpR op_eq (pe_ix ix_tup (pv 0) pe_int (fun _ _ => rfl)) pe_str (nomark _)) (pss_one (ps_ret (pe_ca c_is_number (fun z => nomatch z) hr (by decide) passL rfl (pa_cons (pe_ix ix_tup (pv 0) pe_int (fun _ _ => rfl)) pa_nil)))) pss_nil)
    (Evl.pss_cut (ps_if (pt_cmpR op_eq (pe_ix ix_tup (pv 0) pe_int (fun _ _ => rfl)) pe_str (nomark _)) (pss_one (ps_if (PW.pt (pw_or (pt_not (pt_val (pe_ca c_is_word (fun z => nomatch z) hr (by decide) passL rfl (pa_cons (pe_ix ix_tup (pv 0) pe_int (fun _ _ => rfl)) pa_nil)))) (pw_or (pt_not (pt_val (pe_callB call_isi (by rfl) T.n_isinstance (by decide +kernel) (pa_cons (pe_ix ix_tup (pv 0) pe_int (fun _ _ => rfl)) (pa_cons (pe_bltn (v := .ty "tuple") rfl T.n_tuple (by decide +kernel) rfl) pa_nil))))) (pw_or1 (pt_cmpR op_gt (pe_callB call_lenL (by rfl) T.n_len (by decide +kernel) (pa_cons (pe_ix ix_tup (pv 0) pe_int (fun _ _ => rfl)) pa_nil)) (pe_gi rfl T.g_MOST_PARTS) (nomark _)))))) (pss_one (ps_ret pe_bl)) pss_nil)) pss_nil)
    (pss_one (ps_ret (pe_callB (cr_all rfl) (by rfl) T.n_all (by decide +kernel) (pa_cons (pe_lc (own := [("lot", 3)]) (g := gName 3) rfl nd (pi_tup (pe_ca c_lots_in (fun z => nomatch z) hr (by decide) passL rfl (pa_cons (pv 0) pa_nil))) (blkOk_by (own := [("lot", 3)]) (N := N_is_use) (sc := defScope s_is_use) (by decide +kernel)) (fun _ _ _ _ _ => pg_name (i := 3) nd rfl (Or.inl rfl)) (fun _ _ _ _ _ => pts_nil) (fun _ _ _ _ _ => (pe_caL (i := 2) c_is_lot_below T.g_is_lot_below (fun z => nomatch z) hr (by decide) passL rfl (by first | exact Or.inl rfl | exact Or.inr (Or.inl rfl) | exact Or.inr (Or.inr rfl)) (pa_cons (pv 3) (pa_cons (pv 1) pa_nil))))) pa_nil))))))), ?_⟩
  obtain ⟨_, v, x, m, rfl, hv, hx, q⟩ := h
  have hkind : Ev (tCa (spDat D.K 1 fKind) E (tCons (tVar 0) tNil)) (L2.start N_is_use [v, .int (m : Int), .ref fL]) H (.bl (hasKindD x)) := ev_etB (et_ca (ds := [x]) (eta_cons (etv_var rfl hv) eta_nil) rfl (if_pos (dom_shaped hx (by decide))))
  have ix : ∀ {i : Nat} {r : List PyData} {d : PyData} {H1 : Hp}, Ex H H1 → x = .tuple r → r[i]? = some d → Et D.K (tOp (rIxT D.K) (tVar 0) (tC (.int (i : Int)))) (L2.start N_is_use [v, .int (m : Int), .ref fL]) H1 d := fun e1 ex h => et_ixT (etv_var rfl (ex ▸ dp_mono e1 hv)) ev_c h
  have dom : ∀ {r : List PyData} {d : PyData}, x = .tuple r → d ∈ r → domD 1000 39 d = true := fun ex hd => by
    rw [ex] at hx
    obtain ⟨k, e, _, h2⟩ := domD_tup hx
    cases e
    exact h2 _ hd
  have last : ∀ {ls : List PyData} {H1 : Hp} {b : Bool}, Ex H H1 → fLots [x] = some (.tuple ls) → ls.length ≤ 1000 → (∀ d ∈ ls, lenB d = true) → (ls.map (isLotD m)).all id = isUseD m x → tRet (tCB (rAll D.K) (tCons (tLc (iTup D.K (tCa (spDat D.K 1 fLots) E (tCons (tVar 0) tNil))) (gName 3) tYes (tCaL 2 fL (spDat D.K 2 fLot) E (tCons (tVar 3) (tCons (tVar 1) tNil))) [3]) tNil)) { nx := fun _ H' => Q .non H', rt := Q } (L2.start N_is_use [v, .int (m : Int), .ref fL]) H1 := fun {ls H1 b} e1 hls hl hlen hall => by
    rw [← hall] at q
    refine s_ret (ev_allD (etl_is (etl_T (fun _ => true) (fun d => .bool (isLotD m d)) (et_ca (ds := [x]) (eta_cons (etv_var rfl (dp_mono e1 hv)) eta_nil) rfl hls) (by omega) fun d y H2 H3 hd e2 e3 hy => ⟨rfl, et_yes, fun _ => .inl ⟨rfl, et_caL (ds := [d, .int (.ofNat m)]) rfl (eta_cons (etv_var rfl (dp_mono e3 hy)) (eta_cons (etI (ev_var rfl)) eta_nil)) rfl (fLot_mk (hlen d hd))⟩⟩) (by rw [filter_yes, List.map_map]; rfl))) fun H2 e2 => q H2 (e1.trans e2)
  refine q_when (b := !hasKindD x) (et_not (et_B hkind)) (fun hb H1 e1 => ?_) fun hb H1 e1 => ?_
  · rw [use_kind (by simpa using hb)] at q
    exact s_ret ev_c fun H2 e2 => q H2 (e1.trans e2)
  have hb : hasKindD x = true := by simpa using hb
  have test : ∀ {k : Str} {r : List PyData} {H1 : Hp} (w : Str), Ex H H1 → x = .tuple (.str k :: r) → EvT (tTest (tOp rEq (tOp (rIxT D.K) (tVar 0) (tC (.int 0))) (tC (.str w)))) (L2.start N_is_use [v, .int (m : Int), .ref fL]) H1 (decide (k = w)) := fun {k r H1} w e1 ex => et_test (ev_sub (ev_op (ev_etS (ix (i := 0) e1 ex rfl)) ev_c (rv_eq rfl)) (congrArg V.bl (dec_str _ _)))
  rcases hasKind_cases hb with ⟨a, ex⟩ | ex | ⟨a, b, ex⟩ | ⟨a, b, ex⟩
  · refine q_when (test "num" e1 ex) (fun _ H2 e2 => ?_) fun z => absurd z (by decide)
    rw [ex, use_num] at q
    exact s_ret (ev_etB (et_ca (ds := [a]) (eta_cons (ix (i := 1) (e1.trans e2) ex rfl) eta_nil) rfl rfl)) fun H3 e3 => q H3 ((e1.trans e2).trans e3)
  · refine q_when (test "num" e1 ex) (fun z => absurd z (by decide)) fun _ H2 e2 => q_cut (M := fun σ' H' => σ' = L2.start N_is_use [v, .int (m : Int), .ref fL] ∧ Ex H H') (s_when (test "con" (e1.trans e2) ex) (fun z => absurd z (by decide)) fun _ H3 e3 => ⟨rfl, (e1.trans e2).trans e3⟩) ?_
    rintro σ' H3 ⟨rfl, e3⟩
    exact last (b := true) e3 (by rw [ex]; rfl) (Nat.zero_le _) (fun d hd => by cases hd) (by rw [ex]; rfl)
  · refine q_when (test "num" e1 ex) (fun z => absurd z (by decide)) fun _ H2 e2 => q_cut (M := fun σ' H' => σ' = L2.start N_is_use [v, .int (m : Int), .ref fL] ∧ Ex H H' ∧ isWordD a = true ∧ ∃ ls, b = .tuple ls ∧ ls.length ≤ 4) ?_ ?_
    · refine s_when (test "con" (e1.trans e2) ex) (fun _ H3 e3 => ?_) fun z => absurd z (by decide)
      have e13 := (e1.trans e2).trans e3
      have wv : EvT (tNot (tB (tCa (spDat D.K 1 fWord) E (tCons (tOp (rIxT D.K) (tVar 0) (tC (.int 1))) tNil)))) (L2.start N_is_use [v, .int (m : Int), .ref fL]) H3 (!isWordD a) := et_not (et_B (ev_etB (et_ca (ds := [a]) (eta_cons (ix (i := 1) e13 ex rfl) eta_nil) rfl (dom_word (dom ex (by simp))))))
      have tv := ev_isiD (ix (i := 2) e13 ex rfl) (kit_tup b)
      rw [ex, use_con] at q
      cases hw : isWordD a with
      | false =>
        rw [hw] at q wv
        exact s_when (b := !false || true) (et_or wv fun z => absurd z (by decide)) (fun _ H4 e4 => s_ret ev_c fun H5 e5 => q H5 ((e13.trans e4).trans e5)) fun z => absurd z (by decide)
      | true =>
        rw [hw] at q wv
        cases ht : isTupD b with
        | false =>
          rw [ht] at tv
          have eb : isPartsD m b = false := by cases b <;> first | rfl | cases ht
          rw [eb] at q
          exact s_when (b := !true || (!false || true)) (et_or wv fun _ => et_or (et_not (et_B tv)) fun z => absurd z (by decide)) (fun _ H4 e4 => s_ret ev_c fun H5 e5 => q H5 ((e13.trans e4).trans e5)) fun z => absurd z (by decide)
        | true =>
          cases b with
          | tuple ls =>
            refine s_when (b := !true || (!true || decide ((4 : Int) < (ls.length : Int)))) (et_or wv fun _ => et_or (et_not (et_B tv)) fun _ => et_test (ev_op (et_lenT (ix (i := 2) e13 ex rfl)) ev_c rv_I0)) (fun hb4 H4 e4 => ?_) fun hb4 H4 e4 => ?_
            · have h4 : (4 : Int) < (ls.length : Int) := of_decide_eq_true (by simpa using hb4)
              have eb : isPartsD m (.tuple ls) = false := by
                show (decide (ls.length ≤ 4) && _) = false
                rw [decide_eq_false (by omega)]
                rfl
              rw [eb] at q
              exact s_ret ev_c fun H5 e5 => q H5 ((e13.trans e4).trans e5)
            · have h4 : ¬ (4 : Int) < (ls.length : Int) := of_decide_eq_false (by simpa using hb4)
              exact ⟨rfl, e13.trans e4, rfl, ls, rfl, by omega⟩
          | _ => cases ht
    · rintro σ' H3 ⟨rfl, e3, hw, ls, rfl, hl⟩
      obtain ⟨_, _, _, hls⟩ := domD_tup (dom ex (show PyData.tuple ls ∈ [.str "con", a, .tuple ls] by simp))
      refine last (b := true) e3 (by rw [ex]; rfl) (by omega) (fun d hd => dom_len (by decide) (hls d hd)) ?_
      rw [ex, use_con, hw]
      show _ = (true && (decide (ls.length ≤ 4) && ls.all (isLotD m)))
      rw [decide_eq_true hl, List.all_map]
      rfl
  · refine q_when (test "num" e1 ex) (fun z => absurd z (by decide)) fun _ H2 e2 => q_cut (M := fun σ' H' => σ' = L2.start N_is_use [v, .int (m : Int), .ref fL] ∧ Ex H H') (s_when (test "con" (e1.trans e2) ex) (fun z => absurd z (by decide)) fun _ H3 e3 => ⟨rfl, (e1.trans e2).trans e3⟩) ?_
    rintro σ' H3 ⟨rfl, e3⟩
    refine last (b := true) e3 (by rw [ex]; rfl) (by show 2 ≤ 1000; decide) (fun d hd => dom_len (by decide) (dom ex (List.mem_cons_of_mem _ hd))) (by rw [ex]; show (isLotD m a && (isLotD m b && true)) = (isLotD m a && isLotD m b); rw [Bool.and_true])
end Q
namespace Q
open PySem PySem.Spec PyProof.Rows L2 Evl
/-! ### comprehensions of two clauses over data -/
theorem lc_in {J : It} {n : Nat} {G : Hp → Prop} {Y : Nat → Hp → V → Hp → Prop} (w : Walk J n G Y) {g : TG} {tt : TT} {te : TE} {vs : List Nat} {σ : L2.St} {H1 : Hp} {D : Addr} {Qd : Hp → Prop} (Pv : Nat → Hp → Prop) (h0 : Pv 0 H1) (hG : ∀ i H, i ≤ n → Pv i H → G H)
    (hs : ∀ i x H H', i < n → Pv i H → Y i H x H' → g x (wipe σ vs) H' fun σ2 H2 => wipe σ2 vs = wipe σ vs ∧ tt σ2 H2 fun b H3 =>
      if b = true then te σ2 H3 fun y H4 => ∃ acc, H4 D = some (.lst acc) ∧ acc.length < sizeLine ∧ Pv (i + 1) (upd H4 D (.lst (acc ++ [y]))) else Pv (i + 1) H3) (hd : ∀ H, Pv n H → Qd H) :
    ∃ W : Nat → Nat → Hp → Prop, (∃ m, W 0 m H1) ∧ ∀ i m H, W i m H →
      (J.stop i H ∧ Qd H) ∨ (J.go i H ∧ ∃ Nx : Hp → Prop, (∀ H', Nx H' → ∃ m', m' < m ∧ W (i + 1) m' H') ∧ ∀ x H', J.yld i H x H' → g x (wipe σ vs) H' fun σ2 H2 => wipe σ2 vs = wipe σ vs ∧ tt σ2 H2 fun b H3 =>
        if b = true then te σ2 H3 fun y H4 => ∃ acc, H4 D = some (.lst acc) ∧ acc.length < sizeLine ∧ Nx (upd H4 D (.lst (acc ++ [y]))) else Nx H3) := by
  refine ⟨fun i m H => m = n - i ∧ i ≤ n ∧ Pv i H, ⟨n, by simp, Nat.zero_le _, h0⟩, ?_⟩
  rintro i m H ⟨rfl, hi, p⟩
  have q := hG i H hi p
  by_cases hlt : i < n
  · refine .inr ⟨w.goes i H hlt q, Pv (i + 1), fun H' p' => ⟨n - (i + 1), by omega, rfl, hlt, p'⟩, fun x H' y => hs i x H H' hlt p (w.yields i H x H' hlt q y)⟩
  · have e : i = n := by omega
    subst e
    exact .inl ⟨w.stops H q, hd H p⟩
section
variable {K : PySem.W.Frag} {σ : L2.St} {H H' : Hp} {te ts : TE}
theorem take_flat {α : Type} {ls : List (List α)} {n : Nat} {l : List α} (h : ls[n]? = some l) : (ls.take (n + 1)).flatten = (ls.take n).flatten ++ l := by
  rw [List.take_succ, h]
  simp
/-- over a tuple of tuples of pairs, targets a name and two names -/
theorem etl_TT {α : Type} {ls : List (List α)} {c : α → PyData} {f1 f2 : α → PyData} {i j k : Nat} {vs vs1 : List Nat} (g : α → PyData) (h : Et K ts σ H (.tuple (ls.map fun l => .tuple (l.map c)))) (hc : ∀ a, c a = .tuple [f1 a, f2 a])
    (hz : ls.flatten.length ≤ 1000000) (hn : ∀ a, noL (g a) = true) (hw : ∀ x, wipe ((wipe σ vs).set i (some x)) vs = wipe σ vs) (hv : ∀ x, ((wipe σ vs).set i (some x))[i]? = some (some x))
    (hs : ∀ l a u x y H1 H3, l ∈ ls → a ∈ l → Ex H H1 → Ex H1 H3 → Dp K H1 u (.tuple (l.map c)) → Dp K H1 x (f1 a) → Dp K H1 y (f2 a) →
      wipe (((wipe ((wipe σ vs).set i (some u)) vs1).set j (some x)).set k (some y)) vs1 = wipe ((wipe σ vs).set i (some u)) vs1 ∧ Et K te (((wipe ((wipe σ vs).set i (some u)) vs1).set j (some x)).set k (some y)) H3 (g a)) :
    EtL K (tLc2 (iTup K ts) (gName i) tYes (iTup K (tVar i)) (gTup K 2 (gCons (gName j) (gCons (gName k) gNil))) tYes te vs vs1) σ H (ls.flatten.map g) := fun H0 e Q q => h H0 e _ fun v H1 e1 hv1 => by
  have hnA : ∀ l : List α, noLA (l.map g) = true := fun l => by
    induction l with
    | nil => rfl
    | cons a l ih =>
      show (noL (g a) && noLA (l.map g)) = true
      rw [hn, ih]
      rfl
  cases hv1 with
  | @tup a xs _ hs1 ha =>
    have hl : xs.length = ls.length := by rw [dpA_len ha, List.length_map]
    refine ⟨a, rfl, ⟨xs, hs1⟩, fun Dl hD => ?_⟩
    refine ⟨fun n m H' => m = ls.length - n ∧ n ≤ ls.length ∧ Ex H1 H' ∧ ∃ ys, H' Dl = some (.lst ys) ∧ DpAll K H' ys ((ls.take n).flatten.map g), ⟨_, rfl, Nat.zero_le _, Ex.new hD, [], upd_same, .nil⟩, ?_⟩
    rintro n m H2 ⟨rfl, hn2, e2, ys, hys, hd⟩
    rcases Nat.lt_or_ge n ls.length with hlt | hge
    case inr =>
      have en : n = ls.length := by omega
      subst en
      rw [List.take_length] at hd
      exact .inl ⟨(walk_tup (K := K) (xs := xs) (a := a)).stops H2 (ex_t e2 hs1) |> fun z => by rw [hl] at z; exact z, q Dl ys H2 (fresh_back e1 hD) (e1.trans e2) hys hd⟩
    refine .inr ⟨(walk_tup (K := K) (xs := xs) (a := a)).goes n H2 (by omega) (ex_t e2 hs1), fun H' => Ex H1 H' ∧ ∃ ys, H' Dl = some (.lst ys) ∧ DpAll K H' ys ((ls.take (n + 1)).flatten.map g), fun H' ⟨p1, p2⟩ => ⟨_, by omega, rfl, hlt, p1, p2⟩, fun x H3 hY => ?_⟩
    obtain ⟨rfl, hx⟩ := (walk_tup (K := K) (xs := xs) (a := a)).yields n H2 x H3 (by omega) (ex_t e2 hs1) hY
    obtain ⟨l, hln⟩ : ∃ l, ls[n]? = some l := ⟨ls[n], List.getElem?_eq_getElem hlt⟩
    have hlm := List.mem_of_getElem? hln
    obtain ⟨d', hd', hdp⟩ := dpA_getV ha hx
    rw [List.getElem?_map, hln] at hd'
    cases hd'
    refine ⟨hw x, ?_⟩
    refine Exists.intro x (And.intro (hv x) ?_)
    cases hdp with
    | @tup r zs _ hr hzs =>
      have hlz : zs.length = l.length := by rw [dpA_len hzs, List.length_map]
      refine ⟨r, rfl, ⟨zs, ex_t e2 hr⟩, ?_⟩
      refine lc_in (Y := YAt zs) (G := fun H => SqT K H r zs) (n := l.length) (by rw [← hlz]; exact walk_tup) (fun n2 H' => Ex H1 H' ∧ ∃ ys, H' Dl = some (.lst ys) ∧ DpAll K H' ys (((ls.take n).flatten ++ l.take n2).map g)) ⟨e2, ys, hys, by rw [List.take_zero, List.append_nil]; exact hd⟩ (fun _ H' _ p => ex_t p.1 hr) (fun n2 y H4 H5 hn3 ⟨e4, ys4, hy4, hd4⟩ hY2 => ?_) fun H4 ⟨e4, ys4, hy4, hd4⟩ => ?_
      · obtain ⟨rfl, hy⟩ := hY2
        obtain ⟨b, hb⟩ : ∃ b, l[n2]? = some b := ⟨l[n2], List.getElem?_eq_getElem hn3⟩
        have hbm := List.mem_of_getElem? hb
        obtain ⟨d2, hd2, hdp2⟩ := dpA_getV hzs hy
        rw [List.getElem?_map, hb] at hd2
        cases hd2
        rw [hc b] at hdp2
        cases hdp2 with
        | @tup r2 ws _ hr2 hws =>
          cases hws with
          | cons z1 hws =>
            cases hws with
            | cons z2 hws =>
              cases hws
              obtain ⟨w1, w2⟩ := hs l b _ _ _ H1 H5 hlm hbm (e.trans e1) e4 (.tup hr hzs) z1 z2
              refine ⟨r2, _, rfl, ex_t e4 hr2, rfl, _, _, rfl, _, _, rfl, rfl, w1, ?_⟩
              refine w2 H5 (Ex.refl _) _ fun z H6 e6 hz6 => ?_
              have hD6 := e6 _ _ hy4
              refine ⟨ys4, hD6, ?_, Ex.mut (e4.trans e6) hD, ys4 ++ [z], upd_same, ?_⟩
              · rw [dpA_len hd4, List.length_map, List.length_append]
                have z1 : ((ls.take n).flatten ++ l.take n2).length ≤ ls.flatten.length + l.length := by
                  rw [List.length_append, List.length_take]
                  have : (ls.take n).flatten.length ≤ ls.flatten.length := by
                    conv => rhs; rw [← List.take_append_drop n ls, List.flatten_append, List.length_append]
                    omega
                  omega
                rw [List.length_append] at z1
                have z2 : l.length ≤ ls.flatten.length := by
                  have := take_flat hln
                  have h3 : (ls.take (n + 1)).flatten.length ≤ ls.flatten.length := by
                    conv => rhs; rw [← List.take_append_drop (n + 1) ls, List.flatten_append, List.length_append]
                    omega
                  rw [this, List.length_append] at h3
                  omega
                exact Nat.lt_of_le_of_lt (show _ ≤ 2000000 by omega) (by decide)
              · have tk : l.take (n2 + 1) = l.take n2 ++ [b] := by rw [List.take_succ, hb]; rfl
                rw [tk, ← List.append_assoc, List.map_append]
                exact dpA_app (dpA_upd hD6 (hnA _) (dpA_mono e6 hd4)) (.cons (dp_upd hD6 (hn b) hz6) .nil)
      · rw [List.take_length] at hd4
        refine ⟨e4, ys4, hy4, ?_⟩
        rw [take_flat hln]
        exact hd4
end
/-! ### max of a list of whole numbers -/
def mxN (l : List Nat) : Nat := l.foldr max 0
theorem mxN_ge {l : List Nat} {n : Nat} (h : n ∈ l) : n ≤ mxN l := by
  induction l with
  | nil => cases h
  | cons a l ih =>
    show n ≤ max a (mxN l)
    rcases List.mem_cons.mp h with rfl | h
    · exact Nat.le_max_left _ _
    · exact Nat.le_trans (ih h) (Nat.le_max_right _ _)
theorem mxN_mem {l : List Nat} (h : l ≠ []) : mxN l ∈ l := by
  induction l with
  | nil => exact absurd rfl h
  | cons a l ih =>
    show max a (mxN l) ∈ a :: l
    by_cases hl : l = []
    · subst hl
      show max a 0 ∈ [a]
      simp
    · rcases Nat.le_total a (mxN l) with z | z
      · rw [Nat.max_eq_right z]
        exact List.mem_cons_of_mem _ (ih hl)
      · rw [Nat.max_eq_left z]
        exact List.mem_cons_self ..
theorem mxN_is {l : List Nat} {m : Int} (h1 : m ∈ l.map Int.ofNat) (h2 : ∀ y, y ∈ l.map Int.ofNat → y ≤ m) : m = (mxN l : Int) := by
  obtain ⟨n, hn, rfl⟩ := List.mem_map.mp h1
  have a := mxN_ge hn
  have hl : l ≠ [] := fun e => by rw [e] at hn; cases hn
  have b := h2 _ (List.mem_map.mpr ⟨_, mxN_mem hl, rfl⟩)
  have b' : (mxN l : Int) ≤ (n : Int) := b
  show (n : Int) = _
  omega
theorem dpA_ints {K : PySem.W.Frag} {H : Hp} : ∀ {vs : List V} {ns : List Nat}, DpAll K H vs (ns.map fun n : Nat => PyData.int (n : Int)) → vs = (ns.map Int.ofNat).map V.int
  | _, [], h => by cases h; rfl
  | _, n :: ns, h => by
    cases h with
    | cons h1 h2 =>
      cases h1
      rw [dpA_ints h2]
      rfl
theorem ev_maxN {K : PySem.W.Frag} {σ : L2.St} {H : Hp} {ta : TE} {ns : List Nat} (h : Et K ta σ H (.list (ns.map fun n : Nat => PyData.int (n : Int)))) (hne : ns ≠ []) : Ev (tCB (rMax K) (tCons ta tNil)) σ H (.int (mxN ns : Int)) := fun H1 e Q q =>
  h H1 e _ fun v H2 e2 hv => by
    cases hv with
    | lst hs ha =>
      rw [dpA_ints ha] at hs
      refine ⟨_, ns.map Int.ofNat, rfl, hs, by rw [List.length_map]; exact List.length_pos_iff.mpr hne, fun m h1 h2 => ?_⟩
      rw [mxN_is h1 h2]
      exact q H2 e2
end Q
namespace Q
open PySem PySem.SeqAt PySem.W PyProof.Rows L2 Evl
/-! ### heights, keys: plain -/
def belowU (hs : List Nat) (u : Use) : List Nat := u.lots.flatten.map fun p => hs.getD p.1 0
def hgt (hs : List Nat) (u : Use) : Nat := if belowU hs u = [] then 0 else 1 + mxN (belowU hs u)
def kindN : Use → Nat
  | .num _ => 0
  | .fin => 1
  | .con _ _ => 2
  | .fn _ _ => 3
def restD : Use → PyData
  | .num i => .tuple [.int i]
  | .fin => .tuple []
  | .con w ls => .tuple [.str (SL w), .int (ls.length : Int), .tuple (ls.map lotD)]
  | .fn a b => .tuple [lotD a, lotD b]
/-- what the program compares -/
def keyD (h : Nat) (u : Use) : PyData := .tuple [.int (h : Int), .int (kindN u : Int), restD u]
def hgtsFrom : List Nat → List Use → List Nat
  | hs, [] => hs
  | hs, u :: us => hgtsFrom (hs ++ [hgt hs u]) us
def hgts (us : List Use) : List Nat := hgtsFrom [] us
theorem hgtsFrom_app : ∀ (us vs : List Use) (hs : List Nat), hgtsFrom hs (us ++ vs) = hgtsFrom (hgtsFrom hs us) vs
  | [], _, _ => rfl
  | u :: us, vs, hs => hgtsFrom_app us vs _
theorem hgts_snoc (us : List Use) (u : Use) : hgts (us ++ [u]) = hgts us ++ [hgt (hgts us) u] := by
  unfold hgts
  rw [hgtsFrom_app]
  rfl
theorem hgtsFrom_len : ∀ (us : List Use) (hs : List Nat), (hgtsFrom hs us).length = hs.length + us.length
  | [], _ => rfl
  | u :: us, hs => by
    show (hgtsFrom (hs ++ [hgt hs u]) us).length = _
    rw [hgtsFrom_len us, List.length_append, List.length_cons, List.length_cons, List.length_nil]
    omega
theorem hgts_len (us : List Use) : (hgts us).length = us.length := by
  unfold hgts
  rw [hgtsFrom_len]
  simp
theorem OkLot.mono {m n : Nat} {l : Lot} (h : OkLot m l) (hm : m ≤ n) : OkLot n l := ⟨fun p hp => ⟨Nat.lt_of_lt_of_le (h.ok p hp).1 hm, (h.ok p hp).2⟩, h.inc⟩
theorem OkUse.mono {m n : Nat} {u : Use} (h : OkUse m u) (hm : m ≤ n) : OkUse n u := by
  cases u with
  | num i => trivial
  | fin => trivial
  | con w ls => exact ⟨h.1, h.2.1, fun l hl => (h.2.2 l hl).mono hm⟩
  | fn a b => exact ⟨h.1.mono hm, h.2.mono hm⟩
theorem OkUse.lots {m : Nat} {u : Use} (h : OkUse m u) : ∀ l ∈ u.lots, OkLot m l := by
  cases u with
  | num i => exact fun l hl => by cases hl
  | fin => exact fun l hl => by cases hl
  | con w ls => exact h.2.2
  | fn a b =>
    intro l hl
    rcases List.mem_cons.mp hl with rfl | hl
    · exact h.1
    · rcases List.mem_cons.mp hl with rfl | hl
      · exact h.2
      · cases hl
theorem OkUse.many {m : Nat} {u : Use} (h : OkUse m u) : u.lots.length ≤ 4 := by
  cases u with
  | num i => exact Nat.zero_le _
  | fin => exact Nat.zero_le _
  | con w ls => exact h.2.1
  | fn a b => show 2 ≤ 4; decide
/-- an ascending row of numbers below m is no longer than m -/
theorem inc_len : ∀ (l : Lot) (m k : Nat), (∀ p ∈ l, k ≤ p.1 ∧ p.1 < m) → l.Pairwise (fun a b => a.1 < b.1) → l.length + k ≤ max m k
  | [], m, k, _, _ => by simp; omega
  | p :: l, m, k, h, q => by
    obtain ⟨q1, q2⟩ := List.pairwise_cons.mp q
    have hp := h p (List.mem_cons_self ..)
    have ih := inc_len l m (p.1 + 1) (fun r hr => ⟨q1 r hr, (h r (List.mem_cons_of_mem _ hr)).2⟩) q2
    rw [List.length_cons]
    omega
theorem OkLot.len {m : Nat} {l : Lot} (h : OkLot m l) : l.length ≤ m := by
  have := inc_len l m 0 (fun p hp => ⟨Nat.zero_le _, (h.ok p hp).1⟩) h.inc
  omega
theorem flat_len {m : Nat} : ∀ {ls : List Lot}, (∀ l ∈ ls, l.length ≤ m) → ls.flatten.length ≤ ls.length * m
  | [], _ => by simp
  | l :: ls, h => by
    rw [List.flatten_cons, List.length_append, List.length_cons, Nat.succ_mul]
    have := h l (List.mem_cons_self ..)
    have := flat_len fun l' hl => h l' (List.mem_cons_of_mem _ hl)
    omega
theorem OkUse.flat {m : Nat} {u : Use} (h : OkUse m u) : u.lots.flatten.length ≤ 4 * m := by
  have a := flat_len fun l hl => (h.lots l hl).len
  exact Nat.le_trans a (Nat.mul_le_mul_right _ h.many)
theorem OkUse.below {m : Nat} {u : Use} (h : OkUse m u) : ∀ p ∈ u.lots.flatten, p.1 < m := fun p hp => by
  obtain ⟨l, hl, hp⟩ := List.mem_flatten.mp hp
  exact ((h.lots l hl).ok p hp).1
theorem hgt_pre {hs hs' : List Nat} {u : Use} (h : OkUse hs.length u) (hp : hs <+: hs') : hgt hs' u = hgt hs u := by
  have e : belowU hs' u = belowU hs u := by
    unfold belowU
    refine List.map_congr_left fun p hp' => ?_
    obtain ⟨t, rfl⟩ := hp
    have := h.below p hp'
    rw [List.getD_eq_getElem?_getD, List.getD_eq_getElem?_getD, List.getElem?_append_left this]
  unfold hgt
  rw [e]
theorem ints_lay (ns : List Nat) : SeqAt.shaped (.list (ns.map fun n : Nat => PyData.int (n : Int))) = true := by
  have h1 : PyData.canLay0 (.list (ns.map fun n : Nat => PyData.int (n : Int))) = true := by
    rw [PyData.canLay0]
    exact lay_all fun d hd => by
      obtain ⟨n, _, rfl⟩ := List.mem_map.mp hd
      simp [PyData.canLay0]
  have h2 : PyData.depth (.list (ns.map fun n : Nat => PyData.int (n : Int))) ≤ 64 := by
    rw [PyData.depth]
    exact Nat.succ_le_succ (depth_all (n := 63) fun d hd => by
      obtain ⟨n, _, rfl⟩ := List.mem_map.mp hd
      simp [PyData.depth])
  unfold SeqAt.shaped
  rw [h1, decide_eq_true h2]
  rfl
theorem eqv_nil (ds : List PyData) : PyData.eqv (.list ds) (.list []) = decide (ds = []) := by
  cases ds <;> simp [PyData.eqv, PyData.eqvAll]
theorem useD_lots (u : Use) : (u.lots.map lotD) = u.lots.map fun l => PyData.tuple (l.map pairD) := rfl
end Q
namespace Q
open PySem PySem.Spec PyProof.Rows L2 Evl
variable {D : Wd} {aK cB cT fL : Addr}
theorem h_lc {K : PySem.W.Frag} {te : TE} {ts : TS} {D : Ends} {i : Nat} {σ : L2.St} {H : Hp} {ds : List PyData} (h : EtL K te σ H ds) (k : ∀ r H1, Ex H H1 → Dp K H1 r (.list ds) → ts D (σ.set i (some r)) H1) : tSeq (tAsg te (gName i)) ts D σ H := q_asgD (et_list h) k
theorem pi_tupK {X : Cx} {K : PySem.W.Frag} {l tg : Expr} {tl : TE} (h : X.K = K) (hl : PE X l tl) : PI X tg l (iTup K tl) := h ▸ pi_tup hl
theorem pi_listK {X : Cx} {K : PySem.W.Frag} {l tg : Expr} {tl : TE} (h : X.K = K) (hl : PE X l tl) : PI X tg l (iList K tl) := h ▸ pi_list hl
def natsV (ns : List Nat) : List V := ns.map fun n : Nat => V.int (n : Int)
theorem natsV_app (a b : List Nat) : natsV (a ++ b) = natsV a ++ natsV b := List.map_append
theorem dpA_nats {K : PySem.W.Frag} {H : Hp} (ns : List Nat) : DpAll K H (natsV ns) (ns.map fun n : Nat => PyData.int (n : Int)) := dpA_of fun n _ => .int _
def spHgt (K : PySem.W.Frag) : Sp := fun vs H Q _ => vs.length = 2 ∧ ∃ v u a hs, vs = [v, .ref a] ∧ Dp K H v (useD u) ∧ OkUse hs.length u ∧ hs.length ≤ 1000 ∧ SqL K H a (natsV hs) ∧ ∀ H2, Ex H H2 → Q (.int (hgt hs u : Int)) H2
abbrev s_height_of : Stmt := top 19
abbrev N_height_of : List Str := ["use", "heights", "found", "lot", "number", "count"]
theorem sc_height_of : FnScope N_height_of ["use", "heights"] (defScope s_height_of) := ⟨rfl, rfl, rfl, by decide +kernel, rfl, by decide +kernel, by decide +kernel⟩
theorem c_height_of (T : Tx D aK cB cT fL) : Ca D false 3 "height_of" 2 (spHgt D.K) := by
  have c_lots_in := c_lots_in T
  obtain ⟨f, fd, F, gm⟩ := T.f19
  refine ca_mk (st := s_height_of) (N := N_height_of) (ps := ["use", "heights"]) false F gm sc_height_of (F.bindsN fun _ _ _ _ _ _ us hl => match us, hl with | [_, _], _ => rfl) (fun vs H Q E h => h.1) fun cdv A outer s H vs Q E hG hr h => ?_
  have nd := sc_height_of.nd
  have hu := hr.units
  refine ⟨_, (pss_cons (ps_setLc2 (i := 2) (own := [("lot", 3), ("number", 4), ("count", 5)]) (vs1 := [4, 5]) (g := (gName 3)) (g1 := (gTup D.K 2 (gCons (gName 4) (gCons (gName 5) gNil)))) rfl nd rfl rfl (sw_true rfl rfl rfl (by decide +kernel)) (pi_tup (pe_ca c_lots_in (fun z => nomatch z) hr (by decide) passL rfl (pa_cons (pv 0) pa_nil))) (blkOk_by (own := [("lot", 3), ("number", 4), ("count", 5)]) (N := N_height_of) (sc := defScope s_height_of) (by decide +kernel)) (by decide) (fun _ _ _ _ _ => (pg_name (i := 3) nd rfl (Or.inl rfl))) (fun _ _ _ _ _ => pts_nil) (fun _ _ _ _ _ => (pi_tupK (K := D.K) rfl (pv 3))) (fun _ _ _ _ _ => (pg_tup rfl (pgs_cons (pg_name (i := 4) nd rfl (Or.inl rfl)) (pgs_cons (pg_name (i := 5) nd rfl (Or.inl rfl)) pgs_nil)))) (fun _ _ _ _ _ => pts_nil) (fun _ _ _ _ _ => (pe_ix (ixLK (K := D.K) rfl) (pv 1) (pv 4) (fun _ _ => rfl))))
    (pss_one (ps_ret (pe_ifExp (pt_cmpR (op_neD hu) (pv 2) (pe_lst pa_nil) (nomark _)) (pe_op op_add pe_int (pe_callB (cr_max rfl) (by rfl) T.n_max (by decide +kernel) (pa_cons (pv 2) pa_nil))) pe_int)))), ?_⟩
  obtain ⟨_, v, u, a, hs, rfl, hv, hok, hlen, ha, q⟩ := h
  have hflat := hok.flat
  refine h_lc (K := D.K) (ds := u.lots.flatten.map fun p => PyData.int ((hs.getD p.1 0 : Nat) : Int)) ?_ fun r H1 e1 hr => ?_
  · exact etl_TT (ls := u.lots) (c := pairD) (f1 := fun p => .int (p.1 : Int)) (f2 := fun p => .int p.2) (fun p => .int ((hs.getD p.1 0 : Nat) : Int)) (et_ca (ds := [useD u]) (eta_cons (etv_var rfl hv) eta_nil) rfl (fLots_use u)) (fun _ => rfl) (by omega) (fun _ => rfl) (fun _ => rfl) (fun _ => rfl)
      fun l p x y z H1 H3 hl hp e1 e3 _ hy hz => ⟨rfl, etI (by
        cases hy
        have hm : p.1 < hs.length := ((hok.lots l hl).ok p hp).1
        exact ev_op (ev_var rfl) (ev_var rfl) (rv_ixL (i := (p.1 : Int)) (ex_l (e1.trans e3) ha) (atI_nat (by
          unfold natsV
          rw [List.getElem?_map, List.getElem?_eq_getElem hm, List.getD_eq_getElem?_getD, List.getElem?_eq_getElem hm]
          rfl))))⟩
  · rw [show (u.lots.flatten.map fun p => PyData.int ((hs.getD p.1 0 : Nat) : Int)) = (belowU hs u).map fun n : Nat => PyData.int (n : Int) by unfold belowU; rw [List.map_map]; rfl] at hr
    have hv2 : Et D.K (tVar 2) ((L2.start N_height_of [v, .ref a]).set 2 (some r)) H1 (.list ((belowU hs u).map fun n : Nat => PyData.int (n : Int))) := etv_var rfl hr
    refine s_ret (v := .int (hgt hs u : Int)) (ev_if (b := !PyData.eqv (.list ((belowU hs u).map fun n : Nat => PyData.int (n : Int))) (.list [])) (et_test (et_neD hv2 (et_list (etl_lst (ta := tNil) eta_nil (by decide))) (ints_lay _) rfl)) (fun hb => ?_) fun hb => ?_) fun H2 e2 => q H2 (e1.trans e2)
    · rw [eqv_nil] at hb
      have hne : belowU hs u ≠ [] := fun e => by rw [e] at hb; cases hb
      refine ev_is (ev_op ev_c (ev_maxN hv2 hne) rv_I0) ?_
      unfold hgt
      rw [if_neg hne]
      rfl
    · rw [eqv_nil] at hb
      have he : belowU hs u = [] := by simpa using hb
      refine ev_is ev_c ?_
      unfold hgt
      rw [if_pos he]
      rfl
end Q
namespace Q
open PySem PySem.SeqAt PySem.W PyProof.Rows
/-! ### keys can be put in order -/
def itemsU : Use → List PyData
  | .num i => [.int i]
  | .fin => []
  | .con w ls => [.str (SL w), .int (ls.length : Int), .tuple (ls.map lotD)]
  | .fn a b => [lotD a, lotD b]
theorem restD_is (u : Use) : restD u = .tuple (itemsU u) := by cases u <;> rfl
/-- what the law compares -/
def lkD (u : Use) : PyData := .tuple (.int (kindN u : Int) :: itemsU u)
def lkeyD (h : Nat) (u : Use) : PyData := .tuple [.int (h : Int), lkD u]
theorem pl_ints {l : Lot} : plA (l.map pairD) = true := by
  induction l with
  | nil => rfl
  | cons p l ih =>
    show (plD (pairD p) && plA (l.map pairD)) = true
    rw [ih]
    rfl
theorem pl_lot (l : Lot) : plD (lotD l) = true := pl_ints (l := l)
theorem pl_lots {ls : List Lot} : plA (ls.map lotD) = true := by
  induction ls with
  | nil => rfl
  | cons p l ih =>
    show (plD (lotD p) && plA (l.map lotD)) = true
    rw [ih, pl_lot]
    rfl
theorem wd_all {w : List Nat} (h : wd w = true) : ∀ c ∈ w, c < 128 := by
  have g1 : ∀ c ∈ gr, c < 128 := by decide
  have g2 : ∀ c ∈ sm, c < 128 := by decide
  have h' : (decide (1 ≤ w.length) && decide (w.length ≤ 8) && inL gr (w.take 1) && inL sm (w.drop 1)) = true := h
  rw [Bool.and_eq_true, Bool.and_eq_true] at h'
  intro c hc
  rw [← List.take_append_drop 1 w] at hc
  rcases List.mem_append.mp hc with hc | hc
  · exact g1 c (of_decide_eq_true (List.all_eq_true.mp h'.1.2 c hc))
  · exact g2 c (of_decide_eq_true (List.all_eq_true.mp h'.2 c hc))
theorem str_ok {w : List Nat} (h : ∀ c ∈ w, c < 128) : PyData.strOk (SL w) = true := by
  unfold PyData.strOk
  rw [Array.all_eq_true]
  intro i hi
  have hi' : i < w.length := by simpa [SL, SX.S] using hi
  have e : (SL w).cps[i] = w[i] := by simp [SL, SX.S]
  have := h w[i] (List.getElem_mem hi')
  rw [e]
  exact decide_eq_true (by omega)
theorem pl_items {m : Nat} {u : Use} (h : OkUse m u) : plA (itemsU u) = true := by
  cases u with
  | num i => rfl
  | fin => rfl
  | con w ls =>
    show (PyData.strOk (SL w) && (true && (plA (ls.map lotD) && true))) = true
    rw [pl_lots, str_ok (wd_all h.1)]
    rfl
  | fn a b =>
    show (plD (lotD a) && (plD (lotD b) && true)) = true
    rw [pl_lot, pl_lot]
    rfl
theorem pl_key {m h : Nat} {u : Use} (k : OkUse m u) : plD (keyD h u) = true := by
  show (true && (true && (plD (restD u) && true))) = true
  rw [restD_is, show plD (.tuple (itemsU u)) = plA (itemsU u) from rfl, pl_items k]
  rfl
theorem pl_lkey {m h : Nat} {u : Use} (k : OkUse m u) : plD (lkeyD h u) = true := by
  show (true && ((true && plA (itemsU u)) && true)) = true
  rw [pl_items k]
  rfl
theorem ok_two (x y : PyData) (xs ys : List PyData) (h1 : okC x y = true) (h2 : okCA xs ys = true) : okCA (x :: xs) (y :: ys) = true := by
  rw [okCA]
  split
  · exact h2
  · exact h1
theorem ok_pair (p q : Nat × Int) : okC (pairD p) (pairD q) = true := ok_two _ _ _ _ rfl (ok_two _ _ _ _ rfl rfl)
theorem ok_map {α : Type} (f : α → PyData) (h : ∀ a b, okC (f a) (f b) = true) : ∀ l m : List α, okCA (l.map f) (m.map f) = true
  | [], _ => by simp [okCA]
  | _ :: _, [] => by simp [okCA]
  | a :: l, b :: m => ok_two _ _ _ _ (h a b) (ok_map f h l m)
theorem ok_lot (a b : Lot) : okC (lotD a) (lotD b) = true := by
  show okCA (a.map pairD) (b.map pairD) = true
  exact ok_map pairD ok_pair a b
theorem ok_items : ∀ {u v : Use}, kindN u = kindN v → okCA (itemsU u) (itemsU v) = true
  | .num _, .num _, _ => ok_two _ _ _ _ rfl rfl
  | .num _, .fin, h => absurd (show (0 : Nat) = 1 from h) (by decide)
  | .num _, .con _ _, h => absurd (show (0 : Nat) = 2 from h) (by decide)
  | .num _, .fn _ _, h => absurd (show (0 : Nat) = 3 from h) (by decide)
  | .fin, .num _, h => absurd (show (1 : Nat) = 0 from h) (by decide)
  | .fin, .fin, _ => rfl
  | .fin, .con _ _, h => absurd (show (1 : Nat) = 2 from h) (by decide)
  | .fin, .fn _ _, h => absurd (show (1 : Nat) = 3 from h) (by decide)
  | .con _ _, .num _, h => absurd (show (2 : Nat) = 0 from h) (by decide)
  | .con _ _, .fin, h => absurd (show (2 : Nat) = 1 from h) (by decide)
  | .con _ _, .con _ _, _ => ok_two _ _ _ _ rfl (ok_two _ _ _ _ rfl (ok_two _ _ _ _ (show okC (.tuple _) (.tuple _) = true from ok_map lotD ok_lot _ _) rfl))
  | .con _ _, .fn _ _, h => absurd (show (2 : Nat) = 3 from h) (by decide)
  | .fn _ _, .num _, h => absurd (show (3 : Nat) = 0 from h) (by decide)
  | .fn _ _, .fin, h => absurd (show (3 : Nat) = 1 from h) (by decide)
  | .fn _ _, .con _ _, h => absurd (show (3 : Nat) = 2 from h) (by decide)
  | .fn _ _, .fn _ _, _ => ok_two _ _ _ _ (ok_lot _ _) (ok_two _ _ _ _ (ok_lot _ _) rfl)
theorem eqv_int (a b : Int) : PyData.eqv (.int a) (.int b) = decide (a = b) := by
  rw [PyData.eqv]
  by_cases h : a = b
  · subst h
    simp
  · rw [decide_eq_false h]
    simpa using h
theorem ok_key (h k : Nat) (u v : Use) : okC (keyD h u) (keyD k v) = true := by
  refine ok_two _ _ _ _ rfl ?_
  rw [okCA]
  split
  · rename_i e
    rw [eqv_int] at e
    have e' : kindN u = kindN v := by have := of_decide_eq_true e; omega
    refine ok_two _ _ _ _ ?_ rfl
    rw [restD_is, restD_is]
    exact ok_items e'
  · rfl
theorem ok_lkey (h k : Nat) (u v : Use) : okC (lkeyD h u) (lkeyD k v) = true := by
  refine ok_two _ _ _ _ rfl (ok_two _ _ _ _ ?_ rfl)
  show okCA (.int (kindN u : Int) :: itemsU u) (.int (kindN v : Int) :: itemsU v) = true
  rw [okCA]
  split
  · rename_i e
    rw [eqv_int] at e
    exact ok_items (by have := of_decide_eq_true e; omega)
  · rfl
theorem dep_lot (l : Lot) : (lotD l).depth ≤ 2 := by
  rw [lotD, PyData.depth]
  refine Nat.succ_le_succ (depth_all (n := 1) fun d hd => ?_)
  obtain ⟨p, _, rfl⟩ := List.mem_map.mp hd
  rw [pairD, PyData.depth]
  exact Nat.succ_le_succ (depth_all (n := 0) fun d hd => by
    rcases List.mem_cons.mp hd with rfl | hd
    · simp [PyData.depth]
    · rcases List.mem_cons.mp hd with rfl | hd
      · simp [PyData.depth]
      · cases hd)
theorem dep_items (u : Use) : ∀ d ∈ itemsU u, d.depth ≤ 3 := by
  cases u with
  | num i => intro d hd; rcases List.mem_cons.mp hd with rfl | hd <;> first | (simp [PyData.depth]; done) | cases hd
  | fin => intro d hd; cases hd
  | con w ls =>
    intro d hd
    rcases List.mem_cons.mp hd with rfl | hd
    · simp [PyData.depth]
    · rcases List.mem_cons.mp hd with rfl | hd
      · simp [PyData.depth]
      · rcases List.mem_cons.mp hd with rfl | hd
        · rw [PyData.depth]
          refine Nat.succ_le_succ (depth_all (n := 2) fun d hd => ?_)
          obtain ⟨p, _, rfl⟩ := List.mem_map.mp hd
          exact dep_lot p
        · cases hd
  | fn a b =>
    intro d hd
    rcases List.mem_cons.mp hd with rfl | hd
    · exact Nat.le_trans (dep_lot a) (by decide)
    · rcases List.mem_cons.mp hd with rfl | hd
      · exact Nat.le_trans (dep_lot b) (by decide)
      · cases hd
theorem dep_key (h : Nat) (u : Use) : (keyD h u).depth ≤ 60 := by
  rw [keyD, PyData.depth]
  refine Nat.succ_le_succ (depth_all (n := 59) fun d hd => ?_)
  rcases List.mem_cons.mp hd with rfl | hd
  · simp [PyData.depth]
  · rcases List.mem_cons.mp hd with rfl | hd
    · simp [PyData.depth]
    · rcases List.mem_cons.mp hd with rfl | hd
      · rw [restD_is, PyData.depth]
        exact Nat.succ_le_succ (depth_all (n := 58) fun d hd => Nat.le_trans (dep_items u d hd) (by decide))
      · cases hd
theorem dep_lkey (h : Nat) (u : Use) : (lkeyD h u).depth ≤ 60 := by
  rw [lkeyD, PyData.depth]
  refine Nat.succ_le_succ (depth_all (n := 59) fun d hd => ?_)
  rcases List.mem_cons.mp hd with rfl | hd
  · simp [PyData.depth]
  · rcases List.mem_cons.mp hd with rfl | hd
    · rw [lkD, PyData.depth]
      refine Nat.succ_le_succ (depth_all (n := 58) fun d hd => ?_)
      rcases List.mem_cons.mp hd with rfl | hd
      · simp [PyData.depth]
      · exact Nat.le_trans (dep_items u d hd) (by decide)
    · cases hd
/-- both say the same of what is less -/
theorem lt_same (h k : Nat) (u v : Use) : dataLt (lkeyD h u) (lkeyD k v) = dataLt (keyD h u) (keyD k v) := by
  unfold dataLt
  have t1 : ∀ h u, keyToks (keyD h u) = .inl 1 :: .inl (h : Int) :: .inl 1 :: .inl (kindN u : Int) :: .inl 1 :: (keyToksAll (itemsU u) ++ [.inl 0]) := fun h u => by
    simp [keyD, keyToks, keyToksAll, restD_is]
  have t2 : ∀ h u, keyToks (lkeyD h u) = .inl 1 :: .inl (h : Int) :: .inl 1 :: .inl 1 :: .inl (kindN u : Int) :: (keyToksAll (itemsU u) ++ [.inl 0]) := fun h u => by
    simp [lkeyD, lkD, keyToks, keyToksAll]
  rw [t1, t1, t2, t2, lex_self, lex_self]
  by_cases hh : h = k
  · subst hh
    rw [lex_self, lex_self, lex_self, lex_self, lex_self]
    by_cases hk : kindN u = kindN v
    · rw [hk, lex_self, lex_self, lex_self]
    · have hk' : (Sum.inl (kindN u : Int) : Int ⊕ List Nat) ≠ .inl (kindN v : Int) := fun e => hk (by have := Sum.inl.inj e; omega)
      exact (lex_atom hk' _ _).trans (lex_atom hk' _ _).symm
  · have hh' : (Sum.inl (h : Int) : Int ⊕ List Nat) ≠ .inl (k : Int) := fun e => hh (by have := Sum.inl.inj e; omega)
    exact (lex_atom hh' _ _).trans (lex_atom hh' _ _).symm
/-! ### unlike data are one ahead of the other -/
mutual
theorem lt_total : ∀ (x y : PyData), plD x = true → plD y = true → okC x y = true → dataLt x y = false → dataLt y x = false → x = y
  | .int a, .int b, _, _, _, h1, h2 => by
    have e : keyToks (.int a) = keyToks (.int b) := lex_total (O := itemOrd) _ _ h1 h2
    rw [keyToks, keyToks] at e
    rw [Sum.inl.inj (List.cons.inj e).1]
  | .str a, .str b, _, _, _, h1, h2 => by
    have e : keyToks (.str a) = keyToks (.str b) := lex_total (O := itemOrd) _ _ h1 h2
    rw [keyToks, keyToks] at e
    rw [str_of_cps (Sum.inr.inj (List.cons.inj e).1)]
  | .tuple xs, .tuple ys, p1, p2, ok, h1, h2 => by
    rw [ltA_total xs ys (by simpa [plD] using p1) (by simpa [plD] using p2) (by simpa [okC] using ok) h1 h2]
  | .none, _, h, _, _, _, _ => by simp [plD] at h
  | .bool _, _, h, _, _, _, _ => by simp [plD] at h
  | .list _, _, h, _, _, _, _ => by simp [plD] at h
  | .dict _, _, h, _, _, _, _ => by simp [plD] at h
  | .int _, .none, _, h, _, _, _ => by simp [plD] at h
  | .int _, .bool _, _, h, _, _, _ => by simp [plD] at h
  | .int _, .list _, _, h, _, _, _ => by simp [plD] at h
  | .int _, .dict _, _, h, _, _, _ => by simp [plD] at h
  | .int _, .str _, _, _, h, _, _ => by simp [okC] at h
  | .int _, .tuple _, _, _, h, _, _ => by simp [okC] at h
  | .str _, .none, _, h, _, _, _ => by simp [plD] at h
  | .str _, .bool _, _, h, _, _, _ => by simp [plD] at h
  | .str _, .list _, _, h, _, _, _ => by simp [plD] at h
  | .str _, .dict _, _, h, _, _, _ => by simp [plD] at h
  | .str _, .int _, _, _, h, _, _ => by simp [okC] at h
  | .str _, .tuple _, _, _, h, _, _ => by simp [okC] at h
  | .tuple _, .none, _, h, _, _, _ => by simp [plD] at h
  | .tuple _, .bool _, _, h, _, _, _ => by simp [plD] at h
  | .tuple _, .list _, _, h, _, _, _ => by simp [plD] at h
  | .tuple _, .dict _, _, h, _, _, _ => by simp [plD] at h
  | .tuple _, .int _, _, _, h, _, _ => by simp [okC] at h
  | .tuple _, .str _, _, _, h, _, _ => by simp [okC] at h
theorem ltA_total : ∀ (xs ys : List PyData), plA xs = true → plA ys = true → okCA xs ys = true → PyProof.Rows.lexLt itemOrd (keyToksAll xs) (keyToksAll ys) = false → PyProof.Rows.lexLt itemOrd (keyToksAll ys) (keyToksAll xs) = false → xs = ys
  | [], [], _, _, _, _, _ => rfl
  | [], y :: ys, _, _, _, h1, _ => by
    rw [keyToksAll, keyToksAll, lex_cons] at h1
    cases (show true = false from h1)
  | x :: xs, [], _, _, _, _, h2 => by
    rw [keyToksAll, keyToksAll, lex_cons] at h2
    cases (show true = false from h2)
  | x :: xs, y :: ys, p1, p2, ok, h1, h2 => by
    obtain ⟨a1, a2⟩ := plA_cons p1
    obtain ⟨b1, b2⟩ := plA_cons p2
    have key : x = y := Classical.byContradiction fun e => by
      have ok1 := okCA_no a1 b1 e ok
      rw [ltA_no a1 b1 ok1 e] at h1
      rw [ltA_no b1 a1 (by rw [okC_comm _ _ b1 a1]; exact ok1) (Ne.symm e)] at h2
      exact e (lt_total x y a1 b1 ok1 h1 h2)
    subst key
    rw [ltA_yes] at h1 h2
    rw [ltA_total xs ys a2 b2 (okCA_yes a1 ok) h1 h2]
end
end Q
namespace Q
open PySem PySem.SeqAt PySem.W PyProof.Rows
/-! ### tables: plain -/
def lastK (us : List Use) : Option PyData := us.getLast?.map fun u => keyD ((hgts us).getLast?.getD 0) u
inductive TabOk : List Use → Prop
  | nil : TabOk []
  | snoc {us : List Use} {u : Use} : TabOk us → OkUse us.length u → (∀ k, lastK us = some k → dataLt k (keyD (hgt (hgts us) u) u) = true) → TabOk (us ++ [u])
def IsTab (d : PyData) : Prop := ∃ us : List Use, d = .tuple (us.map useD) ∧ TabOk us
theorem lastK_snoc (us : List Use) (u : Use) : lastK (us ++ [u]) = some (keyD (hgt (hgts us) u) u) := by
  unfold lastK
  rw [List.getLast?_concat, hgts_snoc, List.getLast?_concat]
  rfl
theorem TabOk.pre {us : List Use} (h : TabOk us) : ∀ {vs ws : List Use}, us = vs ++ ws → TabOk vs := by
  induction h with
  | nil =>
    intro vs ws e
    have := List.append_eq_nil_iff.mp e.symm
    rw [this.1]
    exact .nil
  | @snoc us u h1 h2 h3 ih =>
    intro vs ws e
    rcases List.eq_nil_or_concat ws with rfl | ⟨ws', w, rfl⟩
    · rw [List.append_nil] at e
      rw [← e]
      exact .snoc h1 h2 h3
    · rw [List.concat_eq_append, ← List.append_assoc] at e
      exact ih (List.append_inj' e rfl).1
theorem TabOk.inv {us : List Use} {u : Use} (h : TabOk (us ++ [u])) : TabOk us ∧ OkUse us.length u ∧ ∀ k, lastK us = some k → dataLt k (keyD (hgt (hgts us) u) u) = true := by
  generalize e : us ++ [u] = vs at h
  cases h with
  | nil => simp at e
  | @snoc us' u' h1 h2 h3 =>
    obtain ⟨e1, e2⟩ := List.append_inj' e rfl
    cases e2
    subst e1
    exact ⟨h1, h2, h3⟩
theorem pairD_inj {p q : Nat × Int} (h : pairD p = pairD q) : p = q := by
  unfold pairD at h
  have h' := PyData.tuple.inj h
  have h1 := PyData.int.inj (List.cons.inj h').1
  have h2 := PyData.int.inj (List.cons.inj (List.cons.inj h').2).1
  cases p
  cases q
  simp only at h1 h2
  rw [h2, show _ = _ from Int.ofNat.inj h1]
theorem map_inj {α β : Type} {f : α → β} (hf : ∀ a b, f a = f b → a = b) : ∀ {l m : List α}, l.map f = m.map f → l = m
  | [], [], _ => rfl
  | [], _ :: _, h => by cases h
  | _ :: _, [], h => by cases h
  | a :: l, b :: m, h => by
    obtain ⟨h1, h2⟩ := List.cons.inj h
    rw [hf a b h1, map_inj hf h2]
theorem lotD_inj {a b : Lot} (h : lotD a = lotD b) : a = b := map_inj (fun _ _ => pairD_inj) (PyData.tuple.inj h)
theorem SL_inj {a b : List Nat} (h : SL a = SL b) : a = b := by
  have e : (SL a).cps.toList = (SL b).cps.toList := by rw [h]
  simpa [SL, SX.S] using e
theorem items_inj : ∀ {u v : Use}, kindN u = kindN v → itemsU u = itemsU v → u = v
  | .num i, .num j, _, h => by rw [PyData.int.inj (List.cons.inj h).1]
  | .num _, .fin, h, _ => absurd (show (0 : Nat) = 1 from h) (by decide)
  | .num _, .con _ _, h, _ => absurd (show (0 : Nat) = 2 from h) (by decide)
  | .num _, .fn _ _, h, _ => absurd (show (0 : Nat) = 3 from h) (by decide)
  | .fin, .num _, h, _ => absurd (show (1 : Nat) = 0 from h) (by decide)
  | .fin, .fin, _, _ => rfl
  | .fin, .con _ _, h, _ => absurd (show (1 : Nat) = 2 from h) (by decide)
  | .fin, .fn _ _, h, _ => absurd (show (1 : Nat) = 3 from h) (by decide)
  | .con _ _, .num _, h, _ => absurd (show (2 : Nat) = 0 from h) (by decide)
  | .con _ _, .fin, h, _ => absurd (show (2 : Nat) = 1 from h) (by decide)
  | .con w ls, .con w' ls', _, h => by
    obtain ⟨h1, h2⟩ := List.cons.inj h
    obtain ⟨_, h2⟩ := List.cons.inj h2
    rw [SL_inj (PyData.str.inj h1), map_inj (fun _ _ => lotD_inj) (PyData.tuple.inj (List.cons.inj h2).1)]
  | .con _ _, .fn _ _, h, _ => absurd (show (2 : Nat) = 3 from h) (by decide)
  | .fn _ _, .num _, h, _ => absurd (show (3 : Nat) = 0 from h) (by decide)
  | .fn _ _, .fin, h, _ => absurd (show (3 : Nat) = 1 from h) (by decide)
  | .fn _ _, .con _ _, h, _ => absurd (show (3 : Nat) = 2 from h) (by decide)
  | .fn a b, .fn a' b', _, h => by
    obtain ⟨h1, h2⟩ := List.cons.inj h
    rw [lotD_inj h1, lotD_inj (List.cons.inj h2).1]
theorem useD_inj {u v : Use} (h : useD u = useD v) : u = v := by
  cases u <;> cases v <;> unfold useD at h <;> have h' := PyData.tuple.inj h
  all_goals first
    | rfl
    | (have z := PyData.str.inj (List.cons.inj h').1; exact absurd z (by decide))
    | skip
  · rw [PyData.int.inj (List.cons.inj (List.cons.inj h').2).1]
  · have h2 := (List.cons.inj h').2
    rw [SL_inj (PyData.str.inj (List.cons.inj h2).1), map_inj (fun _ _ => lotD_inj) (PyData.tuple.inj (List.cons.inj (List.cons.inj h2).2).1)]
  · have h2 := (List.cons.inj h').2
    rw [lotD_inj (List.cons.inj h2).1, lotD_inj (List.cons.inj (List.cons.inj h2).2).1]
/-- a table whose beginning is known -/
theorem tab_at {xs : List PyData} {us : List Use} {d : PyData} (h : IsTab (.tuple xs)) (hp : xs.take us.length = us.map useD) (hd : xs[us.length]? = some d) :
    ∃ u, d = useD u ∧ OkUse us.length u ∧ ∀ k, lastK us = some k → dataLt k (keyD (hgt (hgts us) u) u) = true := by
  obtain ⟨vs, e, h⟩ := h
  have e' := PyData.tuple.inj e
  subst e'
  rw [List.getElem?_map] at hd
  cases hu : vs[us.length]? with
  | none => rw [hu] at hd; cases hd
  | some u =>
    rw [hu] at hd
    cases hd
    rw [← List.map_take] at hp
    have e1 : vs.take us.length = us := map_inj (fun _ _ => useD_inj) hp
    have e2 : vs.take (us.length + 1) = us ++ [u] := by
      rw [List.take_succ, hu, e1]
      rfl
    have h2 : TabOk (us ++ [u]) := by
      rw [← e2]
      exact h.pre (List.take_append_drop _ _).symm
    exact ⟨u, rfl, h2.inv.2⟩
theorem TabOk.uses {us : List Use} (h : TabOk us) : ∀ i u, us[i]? = some u → OkUse i u := by
  induction h with
  | nil => intro i u e; simp at e
  | @snoc us u h1 h2 _ ih =>
    intro i v e
    rcases Nat.lt_or_ge i us.length with hi | hi
    · rw [List.getElem?_append_left hi] at e
      exact ih i v e
    · rw [List.getElem?_append_right hi] at e
      have e0 : i - us.length = 0 := by
        have := (List.getElem?_eq_some_iff.mp e).1
        simpa using this
      rw [e0] at e
      cases e
      exact h2.mono hi
end Q
namespace Q
open PySem PySem.SeqAt PySem.W PyProof.Rows
theorem TabOk.last {us : List Use} (h : TabOk us) {k : PyData} (hk : lastK us = some k) : ∃ n m u, k = keyD n u ∧ OkUse m u := by
  cases h with
  | nil => cases hk
  | @snoc us u _ h2 _ =>
    rw [lastK_snoc] at hk
    cases hk
    exact ⟨_, _, u, rfl, h2⟩
end Q
namespace Q
open PySem PySem.Spec PyProof.Rows L2 Evl
/-! ### enumerate of anything that begins, then of a tuple -/
def enO (a : Addr) : Obj := { cls := .type "enumerate", data := .fields #[.none, .bool false, .ref a, rawInt 0, .none, .none] }
theorem en_meets {v : Value} {o : Obj} {G : Heap → Prop} (B : Begins v o G) :
    Meets (Builtin.«enumerate.__new__» ⟨[.type "enumerate", v], []⟩) (fun _ R s => G s.heap ∧ R (.ok (.ret (.ref (s.heap.push o).objs.size))) { s with heap := (s.heap.push o).push (enO s.heap.objs.size) }) :=
  .of_wp fun prog w A R s z => by
    obtain ⟨hp, g, d, tk, os⟩ := s
    obtain ⟨z1, z2⟩ := z
    have zsub := sub_enumerate
    have it1 : ∀ {A' : Around} {E Q' : Value → Shared → Prop}, Q' (.ref hp.objs.size) ⟨hp.push o, g, d, tk, os⟩ → wpAny (model prog w) A' (pyIter v) Q' E ⟨hp, g, d, tk, os⟩ := fun q => B.iter prog w _ _ _ _ z1 q
    wp_walk using it1
    refine wpAny_stack_any fun st => wpAny_pure ?_
    split
    · rename_i c _ _ _ _ _
      cases (c == Value.type "enumerate") <;> (wp_walk using it1; exact ⟨_, rfl, z2⟩)
    · wp_walk using it1
      exact ⟨_, rfl, z2⟩
theorem en_call {prog : Program} {w : World} {A : Around} {E : Value → Shared → Prop} {s : Shared} {v : Value} {o : Obj} {G : Heap → Prop} {Q : Value → Shared → Prop} (B : Begins v o G) (z1 : G s.heap)
    (k : ∀ h', IsEnum h' (s.heap.objs.size + 1) s.heap.objs.size 0 .none → h'.get? s.heap.objs.size = some o → (∀ b u, s.heap.get? b = some u → h'.get? b = some u) → Q (.ref (s.heap.objs.size + 1)) { s with heap := h' }) :
    wpAny (model prog w) A (call (.type "enumerate") [v]) Q E s := by
  refine callType_new F.called_enumerate (by decide) (F.typeCall_enumerate_1 _) (F.newCall_enumerate_1 _) (fun obj => F.args_object_init_2 obj _) F.entry_enumerate_new (en_meets B) ⟨z1, ?_⟩
  have sz : (s.heap.push o).objs.size = s.heap.objs.size + 1 := Heap.size_push ..
  have z2 : IsEnum ((s.heap.push o).push (enO s.heap.objs.size)) (s.heap.objs.size + 1) s.heap.objs.size 0 .none := by
    have z := Heap.get?_push_size (s.heap.push o) (o := enO s.heap.objs.size) rfl
    rwa [sz] at z
  show _ ∧ _
  rw [sz]
  exact ⟨⟨_, z2, rfl⟩, k _ z2 (Heap.get?_push_of_some _ (Heap.get?_push_size _ B.free)) fun b u z => Heap.get?_push_of_some _ (Heap.get?_push_of_some _ z)⟩
def IteT (K : PySem.W.Frag) (a : Addr) : It :=
  ⟨fun i H => ∃ (ys : List V) (y : V), SqT K H a ys ∧ ys[i]? = some y, fun i H u H' => ∃ T y, u = .ref T ∧ H T = none ∧ H' = upd H T (.tup [.int (i : Nat), y]) ∧ ∀ ys, SqT K H a ys → ys[i]? = some y, fun i H => ∃ ys : List V, SqT K H a ys ∧ ys.length = i⟩
theorem turn_enT {P : Program} {w : World} {K : PySem.W.Frag} {elts : List Expr} {kk : Nat} {tpos : Pos} (a e it : Addr) :
    Turn P w K (.Tuple elts kk tpos) (IteT K a) [e, it] e (fun i h => (∃ old, IsEnum h e it ((i : Nat) : Int) old) ∧ h.IsTupleIter it a i ∧ e ≠ it ∧ a ≠ it ∧ a ≠ e) where
  mem := by simp
  obj := fun i h st b hb => by
    obtain ⟨⟨old, q1⟩, ⟨o, q2, _, q3⟩, _⟩ := st
    rcases (show b = e ∨ b = it by simpa using hb) with rfl | rfl
    · exact ⟨_, q1, fun v q => nomatch q⟩
    · exact ⟨o, q2, fun v q => by rw [q3] at q; cases q⟩
  keep := fun i h h' st k => ⟨let ⟨old, q⟩ := st.1; ⟨old, k e (by simp) _ q⟩, st.2.1.at fun o q => k it (by simp) o q, st.2.2⟩
  item := by
    intro X hP hw hK hc i pins s σ H E I hf st hg
    subst hP hw hK
    obtain ⟨⟨old, q1⟩, q2, q3, q4, q5⟩ := st
    obtain ⟨xs, x, hq, hx⟩ := hg
    obtain ⟨its, rv, p, hz⟩ := I.tuple hq
    obtain ⟨u, hu, ru⟩ := rv.get hx
    have l1 : e < s.heap.objs.size := Heap.lt_size q1
    have l2 : it < s.heap.objs.size := by obtain ⟨_, q, _⟩ := q2; exact Heap.lt_size q
    have hi : i < its.length := (List.getElem?_eq_some_iff.mp hu).1
    refine wpAny_pyNext_enum_itemD (Draws.tuple (A := X.A.in1) (show X.A.in1.handled = none from I.ok.hd hc) it a q4 its.toArray) q1 ⟨q2, p⟩ (by simpa using hi) q3 (by simp [q3, Ne.symm q5]) fun x' h' tk hP' ho hit' hT _ hk => ?_
    have ex : x' = u := by
      have z : its[i]? = some x' := by simpa using hP'
      rw [hu] at z
      cases z
      rfl
    subst ex
    refine ⟨_, rfl, wpAny_letOwnedTupleGo_enum (s := { s with heap := h', toks := tk + 1 }) ho fun h'' he' sb => ?_⟩
    have hT2 : h''.get? s.heap.objs.size = some { cls := .type "tuple", data := .seq #[.int i tk, x'] } := (sb.2 _ (Nat.ne_of_gt l1)).trans hT
    have nw : ObjOk X.prog X.w (upd H s.heap.objs.size (.tup [.int (i : Nat), x])) h'' s.heap.objs.size (.tup [.int (i : Nat), x]) :=
      ⟨(show 2 ≤ sizeLine by decide), [.int i tk, x'], .cons ⟨_, rfl⟩ (.cons ru .nil), ⟨_, hT2, rfl, _, rfl⟩⟩
    have I1 : Inv X pins σ (upd H s.heap.objs.size (.tup [.int (i : Nat), x])) { s with heap := h'', toks := tk + 1 } :=
      I.turnedNew (ch := [e, it]) (fun b ob hb q => (sb.2 b (by simp at hb; exact hb.1)).trans (hk b ob (by simp at hb; exact hb.1) (by simp at hb; exact hb.2) q)) hf (Nat.le_refl _) nw
    refine ⟨.ref s.heap.objs.size, _, I1, rfl, ⟨_, x, rfl, I.hok.fresh (Nat.le_refl _), rfl, fun ys hy => by rw [I.tuple_inj hy hq]; exact hx⟩, ⟨⟨x', ?_⟩, hit'.1.at fun o q => (sb.2 it (Ne.symm q3)).trans q, q3, q4, q5⟩, fun b hb => ?_⟩
    · rw [show ((i + 1 : Nat) : Int) = (i : Int) + 1 by omega]
      exact he'
    · have hlt : b < s.heap.objs.size := by
        rcases (show b = e ∨ b = it by simpa using hb) with rfl | rfl
        · exact l1
        · exact l2
      rw [upd_ne (Nat.ne_of_lt hlt)]
      exact (hf b hb).1
  done := by
    intro X hP hw hK hc i pins s σ H E I hf st hg
    subst hP hw hK
    obtain ⟨⟨old, q1⟩, q2, q3, q4, q5⟩ := st
    obtain ⟨xs, hq, hx⟩ := hg
    obtain ⟨its, rv, p, hz⟩ := I.tuple hq
    obtain ⟨f0, f1, f2, f3, f4, f5⟩ := hf it (by simp)
    have hn : its.toArray.size = i := by
      rw [List.size_toArray, ← rv.length]
      exact hx
    refine wpAny_pyNext_enum_endD (Draws.tuple (A := X.A.in1) (show X.A.in1.handled = none from I.ok.hd hc) it a q4 its.toArray) q1 ⟨by rw [hn]; exact q2, p⟩ fun h' eb => ⟨rfl, I.turned (t' := s.toks) (fun b o hb q => eb b o hb q) f0 f1 f3 f4 f5⟩
  self := fun A i s Q E st h => let ⟨⟨_, q⟩, _⟩ := st; wpAny_pyIter_enum q h
def iEnumT (K : PySem.W.Frag) (ta : TA) : TI := fun σ H R => ta σ H fun vs H1 => ∃ a ys, vs = [.ref a] ∧ SqT K H1 a ys ∧ R (IteT K a) H1
theorem pi_enT {X : Cx} {x : Expr} {ta : TA} {p pos tpos : Pos} {elts : List Expr} {kk : Nat} (hg : Gl X "enumerate") (hm : X.mg "enumerate" = none) (ha : PA X [x] ta) (hs : starEach [x] X.env = [(false, eval x X.env)] := by rfl) :
    PI X (.Tuple elts kk tpos) (.Call (.Name "enumerate" p) [x] [] pos) (iEnumT X.K ta) := by
  refine ⟨fun pins s σ H R I h => Call_ (ld_blt I hg hm boot_enumerate (PyProof.Rows.callWith_type1 (thn (ha.run pos pins s σ H _ I h) fun us s1 ⟨vs, H1, I1, r1, a, xs, ex, hq, q⟩ => ?_) hs rfl))⟩
  subst ex
  cases r1 with
  | cons r rr =>
    cases rr
    cases r
    obtain ⟨its, rv, p', hz⟩ := I1.tuple hq
    have la : a < s1.heap.objs.size := by obtain ⟨_, z, _⟩ := id p'; exact Heap.lt_size z
    refine en_call (begins_tuple a its.toArray) p' fun h' he hit hk => wpAny_pyIter_enum he ?_
    refine ⟨s1.heap.objs.size + 1, [s1.heap.objs.size + 1, s1.heap.objs.size], _, _, H1, rfl, I1.kept (t' := s1.toks) hk, turn_enT a (s1.heap.objs.size + 1) s1.heap.objs.size, ⟨⟨.none, he⟩, ⟨_, hit, rfl, rfl⟩, Nat.succ_ne_self _, Nat.ne_of_lt la, Nat.ne_of_lt (Nat.lt_succ_of_lt la)⟩, fun b hb => ?_, q⟩
    have hle : s1.heap.objs.size ≤ b := by
      rcases (show b = s1.heap.objs.size + 1 ∨ b = s1.heap.objs.size by simpa using hb) with z | z
      · rw [z]
        exact Nat.le_succ _
      · rw [z]
        exact Nat.le_refl _
    exact I1.fpOk hle (I1.hok.fresh hle)
theorem walk_enT {K : PySem.W.Frag} {a : Addr} {xs : List V} : Walk (IteT K a) xs.length (fun H => SqT K H a xs) (YPair (fun i => some (.int (i : Nat))) (fun i => xs[i]?)) :=
  ⟨fun i H hi q => ⟨xs, xs[i], q, List.getElem?_eq_getElem hi⟩, fun H q => ⟨xs, q, rfl⟩, fun i H u H' _ q y => by
    obtain ⟨T, z, h1, h2, h3, h4⟩ := y
    exact ⟨T, .int (i : Nat), z, h1, h2, h3, rfl, h4 xs q⟩⟩
/-- for at, x in enumerate(t), t a tuple -/
theorem q_enT {K : PySem.W.Frag} {σ : L2.St} {H : Hp} {ta : TE} {a : Addr} {xs : List V} {i j : Nat} {tu tz : TS} {D : Ends} (h : Ev ta σ H (.ref a)) (hx : SqT K H a xs) (Pv : Nat → L2.St → Hp → Prop) (h0 : ∀ H1, Ex H H1 → Pv 0 σ H1) (hG : ∀ n σ' H', n ≤ xs.length → Pv n σ' H' → SqT K H' a xs)
    (hs : ∀ n x σ' H' H'', xs[n]? = some x → Pv n σ' H' → Ex H' H'' → tu { D with nx := Pv (n + 1), ct := Pv (n + 1), bk := tz D } ((σ'.set i (some (.int (n : Int)))).set j (some x)) H'') (hd : ∀ σ' H', Pv xs.length σ' H' → tz D σ' H') :
    tSeq (tFor (iEnumT K (tCons ta tNil)) (gTup K 2 (gCons (gName i) (gCons (gName j) gNil))) tu) tz D σ H := h H (Ex.refl H) _ fun H1 e1 =>
  ⟨a, xs, rfl, ex_t e1 hx, for_it (D := { D with nx := tz D }) walk_enT Pv (h0 H1 e1) (fun n σ' H' hn q => hG n σ' H' hn q) (fun n u σ' H' H'' hn q y => by
    obtain ⟨T, x, z, rfl, hT, rfl, hx1, hx2⟩ := y
    cases hx1
    exact ⟨T, _, rfl, st_of upd_same, rfl, _, _, rfl, _, _, rfl, rfl, hs n z σ' H' _ hx2 q (Ex.new hT)⟩) hd⟩
end Q
namespace Q
open PySem PySem.Spec PyProof.Rows L2 Evl
variable {D : Wd} {aK cB cT fL : Addr}
def rTupI (K : PySem.W.Frag) : V → List V → Hp → VK → Prop := fun x xs H Q => ∃ p, ∃ ys : List Str, ∃ z j, x = .ref p ∧ xs = [.str z] ∧ SqT K H p (ys.map V.str) ∧ ys[j]? = some z ∧ (∀ m, m < j → ys[m]? ≠ some z) ∧ Q (.int (j : Nat)) H
theorem mt_tupI {X : Cx} : MtR X "tuple.index" (rTupI X.K) := mt_tup_index
def kindS : Use → Str
  | .num _ => "num"
  | .fin => "end"
  | .con _ _ => "con"
  | .fn _ _ => "fun"
theorem useD_head (u : Use) : ∃ r, useD u = .tuple (.str (kindS u) :: r) := by cases u <;> exact ⟨_, rfl⟩
theorem kinds_of : ∀ k : Nat, k < 4 → ∃ z : Str, kinds[k]? = some z ∧ ∀ m, m < k → kinds[m]? ≠ some z
  | 0, _ => ⟨_, rfl, fun m hm => absurd hm (Nat.not_lt_zero m)⟩
  | 1, _ => ⟨_, rfl, fun m hm => by obtain rfl : m = 0 := by omega
                                    decide⟩
  | 2, _ => ⟨_, rfl, fun m hm => by rcases (show m = 0 ∨ m = 1 by omega) with rfl | rfl <;> decide⟩
  | 3, _ => ⟨_, rfl, fun m hm => by rcases (show m = 0 ∨ m = 1 ∨ m = 2 by omega) with rfl | rfl | rfl <;> decide⟩
  | n + 4, h => absurd h (by omega)
theorem kindN_lt : ∀ u : Use, kindN u < 4
  | .num _ => show 0 < 4 by decide
  | .fin => show 1 < 4 by decide
  | .con _ _ => show 2 < 4 by decide
  | .fn _ _ => show 3 < 4 by decide
theorem kinds_at0 (u : Use) : kinds[kindN u]? = some (kindS u) := by cases u <;> rfl
theorem kinds_at (u : Use) : kinds[kindN u]? = some (kindS u) ∧ ∀ m, m < kindN u → kinds[m]? ≠ some (kindS u) := by
  obtain ⟨z, h1, h2⟩ := kinds_of (kindN u) (kindN_lt u)
  rw [kinds_at0] at h1
  cases h1
  exact ⟨kinds_at0 u, h2⟩
def spKey (K : PySem.W.Frag) : Sp := fun vs H Q _ => vs.length = 2 ∧ ∃ v u n, vs = [v, .int ((n : Nat) : Int)] ∧ Dp K H v (useD u) ∧ u.lots.length ≤ 4 ∧ ∀ w H2, Ex H H2 → Dp K H2 w (keyD n u) → Q w H2
abbrev s_use_key : Stmt := top 20
abbrev N_use_key : List Str := ["use", "height", "kind"]
theorem sc_use_key : FnScope N_use_key ["use", "height"] (defScope s_use_key) := ⟨rfl, rfl, rfl, by decide +kernel, rfl, by decide +kernel, by decide +kernel⟩
theorem c_use_key (T : Tx D aK cB cT fL) : Ca D false 1 "use_key" 2 (spKey D.K) := by
  obtain ⟨f, fd, F, gm⟩ := T.f20
  refine ca_mk (st := s_use_key) (N := N_use_key) (ps := ["use", "height"]) false F gm sc_use_key (F.bindsN fun _ _ _ _ _ _ us hl => match us, hl with | [_, _], _ => rfl) (fun vs H Q E h => h.1) fun cdv A outer s H vs Q E hG hr h => ?_
  have nd := sc_use_key.nd
  have hu := hr.units
  refine ⟨_, (pss_cons (ps_set (i := 2) nd rfl (Or.inl rfl) (pe_bm PySem.F.plainAttrs_tuple PySem.F.slot_tuple_index PySem.F.type_tuple_index mt_tupI (pe_gr rfl T.g_KINDS) (pa_cons (pe_ix ix_tup (pv 0) pe_int (fun _ _ => rfl)) pa_nil)))
    (pss_cons (ps_if (pt_cmpR op_eq (pe_ix ix_tup (pv 0) pe_int (fun _ _ => rfl)) pe_str (nomark _)) (pss_one (ps_ret (pe_tup (pa_cons (pv 1) (pa_cons (pv 2) (pa_cons (pe_tup (pa_cons (pe_ix ix_tup (pv 0) pe_int (fun _ _ => rfl)) (pa_cons (pe_callB call_lenL (by rfl) T.n_len (by decide +kernel) (pa_cons (pe_ix ix_tup (pv 0) pe_int (fun _ _ => rfl)) pa_nil)) (pa_cons (pe_ix ix_tup (pv 0) pe_int (fun _ _ => rfl)) pa_nil)))) pa_nil)))))) pss_nil)
    (pss_one (ps_ret (pe_tup (pa_cons (pv 1) (pa_cons (pv 2) (pa_cons (pe_slice sl_tupA (pv 0) (po_some pe_int) po_none) pa_nil)))))))), ?_⟩
  obtain ⟨_, v, u, n, rfl, hv, hmany, q⟩ := h
  obtain ⟨r, hr0⟩ := useD_head u
  have h0 : ∀ {σ : L2.St} {H1 : Hp}, σ[0]? = some (some v) → Ex H H1 → Ev (tOp (rIxT D.K) (tVar 0) (tC (.int 0))) σ H1 (.str (kindS u)) := fun hs e1 => ev_etS (et_ixT (i := 0) (etv_var hs (hr0 ▸ dp_mono e1 hv)) ev_c rfl)
  refine q_asg (v := .int (kindN u : Int)) (fun H1 e1 Q1 q1 => ?_) fun H1 e1 => ?_
  · exact ⟨.inr (.inl ⟨rfl, T.d_KINDS⟩), h0 rfl e1 H1 (Ex.refl H1) _ fun H2 e2 => ⟨aK, kinds, kindS u, kindN u, rfl, rfl, T.s_KINDS _, (kinds_at u).1, (kinds_at u).2, q1 H2 e2⟩⟩
  have hv1 := dp_mono e1 hv
  refine q_when (b := decide (V.str (kindS u) = V.str "con")) (et_test (ev_op (h0 rfl e1) ev_c (rv_eq rfl))) (fun hb H2 e2 => ?_) fun hb H2 e2 => ?_
  · rw [dec_str] at hb
    cases u with
    | con w ls =>
      have hv2 := dp_mono e2 hv1
      have g1 : ∀ {d : PyData} {i : Nat}, [PyData.str "con", .str (SL w), .tuple (ls.map lotD)][i]? = some d → Et D.K (tOp (rIxT D.K) (tVar 0) (tC (.int (i : Int)))) _ H2 d := fun {d i} hd => et_ixT (i := i) (etv_var (σ := (L2.start N_use_key [v, .int (n : Int)]).set 2 (some (.int (kindN (.con w ls) : Int)))) rfl hv2) ev_c hd
      exact s_retD (et_tup (eta_cons (etI (ev_var rfl)) (eta_cons (etI (ev_var rfl)) (eta_cons (et_tup (eta_cons (g1 (i := 1) rfl) (eta_cons (etI (ev_is (et_lenT (g1 (i := 2) rfl)) (by rw [List.length_map]))) (eta_cons (g1 (i := 2) rfl) eta_nil))) (by show 3 ≤ 100000; decide)) eta_nil))) (by show 3 ≤ 100000; decide)) fun w H3 e3 hw => q w H3 ((e1.trans e2).trans e3) hw
    | num i => exact absurd (show ("num" : Str) = "con" from of_decide_eq_true hb) (by decide)
    | fin => exact absurd (show ("end" : Str) = "con" from of_decide_eq_true hb) (by decide)
    | fn a b => exact absurd (show ("fun" : Str) = "con" from of_decide_eq_true hb) (by decide)
  · rw [dec_str] at hb
    have hv2 := dp_mono e2 hv1
    have fin : ∀ (r : List PyData), useD u = .tuple (.str (kindS u) :: r) → restD u = .tuple r → tRet (tTup (tCons (tVar 1) (tCons (tVar 2) (tCons (tSl (rSlA D.K) (tVar 0) (tPart (tC (.int 1))) tNoPart) tNil)))) { nx := fun _ H' => Q .non H', rt := Q } ((L2.start N_use_key [v, .int (n : Int)]).set 2 (some (.int (kindN u : Int)))) H2 := fun r hr1 hr2 => by
      refine s_retD (d := keyD n u) (et_tup (eta_cons (etI (ev_var rfl)) (eta_cons (etI (ev_var rfl)) (eta_cons ?_ eta_nil))) (by show 3 ≤ 100000; decide)) fun w H3 e3 hw => q w H3 ((e1.trans e2).trans e3) hw
      rw [hr2]
      exact et_slA (etv_var rfl (hr1 ▸ hv2)) (eo_some ev_c) eo_none (cut_from (.str (kindS u) :: r) 1).symm
    cases u with
    | con w ls => exact absurd (show ("con" : Str) = "con" from rfl) (of_decide_eq_false hb)
    | num i => exact fin _ rfl rfl
    | fin => exact fin _ rfl rfl
    | fn a b => exact fin _ rfl rfl
end Q
namespace Q
open PySem PySem.Spec PyProof.Rows L2 Evl
variable {D : Wd} {aK cB cT fL : Addr}
/-- xs.append(e), e an int told by its value, the list's things kept -/
theorem hgt_app {K : PySem.W.Frag} {σ : L2.St} {H0 H : Hp} {tl te : TE} {Dn : Ends} {l : Addr} {hs : List Nat} {n : Nat} (e0 : Ex H0 H) (hl0 : H0 l = none) (hl : H l = some (.lst (natsV hs))) (ha : Ev tl σ H (.ref l)) (h : Ev te σ H (.int (n : Int))) (hz : hs.length ≤ 1000)
    (k : ∀ H1, Ex H0 H1 → H1 l = some (.lst (natsV (hs ++ [n]))) → Dn.nx σ H1) : tDrop (tBM K "list" rAppend tl (tCons te tNil)) Dn σ H := by
  refine s_app hl ha h (by unfold natsV; rw [List.length_map]; omega) fun H1 e1 => k _ (Ex.mut (e0.trans e1) hl0) ?_
  rw [upd_same, natsV_app]
  rfl
def spTold (K : PySem.W.Frag) : Sp := fun vs H Q _ => vs.length = 1 ∧ ∃ v us, vs = [v] ∧ Dp K H v (.tuple (us.map useD)) ∧ (∀ i u, us[i]? = some u → OkUse i u) ∧ us.length ≤ 1000 ∧ ∀ p H2, H p = none → Ex H H2 → H2 p = some (.lst (natsV (hgts us))) → Q (.ref p) H2
theorem take_snoc {us : List Use} {i : Nat} {u : Use} (h : us[i]? = some u) : us.take (i + 1) = us.take i ++ [u] := by
  rw [List.take_succ, h]
  rfl
abbrev s_heights_told : Stmt := top 21
abbrev N_heights_told : List Str := ["table", "found", "use"]
theorem sc_heights_told : FnScope N_heights_told ["table"] (defScope s_heights_told) := ⟨rfl, rfl, rfl, by decide +kernel, rfl, by decide +kernel, by decide +kernel⟩
theorem c_heights_told (T : Tx D aK cB cT fL) : Ca D false 4 "heights_told" 1 (spTold D.K) := by
  have c_height_of := c_height_of T
  obtain ⟨f, fd, F, gm⟩ := T.f21
  refine ca_mk (st := s_heights_told) (N := N_heights_told) (ps := ["table"]) false F gm sc_heights_told (F.bindsN fun _ _ _ _ _ _ us hl => match us, hl with | [_], _ => rfl) (fun vs H Q E h => h.1) fun cdv A outer s H vs Q E hG hr h => ?_
  have nd := sc_heights_told.nd
  refine ⟨_, (pss_cons (ps_set (i := 1) nd rfl (Or.inl rfl) (pe_lst pa_nil))
    (pss_cons (ps_for (passes_of rfl) rfl (pi_tup (pv 0)) (pg_name (i := 2) nd rfl (Or.inl rfl))
      (pss_one (ps_expr (pe_bm PySem.F.plainAttrs_list PySem.F.slot_list_append PySem.F.type_list_append mt_append (pv 1) (pa_cons (pe_ca c_height_of (fun z => nomatch z) hr (by decide) passL rfl (pa_cons (pv 2) (pa_cons (pv 1) pa_nil))) pa_nil)))))
    (pss_one (ps_ret (pv 1))))), ?_⟩
  obtain ⟨_, v, us, rfl, hv, hok, hlen, q⟩ := h
  refine q_asgL (el_lst ea_nil (by decide)) fun p H1 hp e1 h1 => ?_
  cases hv with
  | @tup a xs _ hs ha =>
    have hl : xs.length = us.length := by rw [dpA_len ha, List.length_map]
    refine q_forT (ev_var rfl) (ex_t e1 hs) (fun i σ' H' => σ'[0]? = some (some (.ref a)) ∧ σ'[1]? = some (some (.ref p)) ∧ Ex H H' ∧ H' p = some (.lst (natsV (hgts (us.take i)))) ∧ σ'.length = 3) (fun H2 e2 => ⟨rfl, rfl, e1.trans e2, by rw [e2 p _ h1]; rfl, rfl⟩) (fun i σ' H' hi z => ex_t z.2.2.1 hs) (fun i x σ' H' hx z => ?_) fun σ' H' z => ?_
    · obtain ⟨z0, z1, z2, z3, z4⟩ := z
      obtain ⟨d, hd, hdp⟩ := dpA_getV ha hx
      rw [List.getElem?_map] at hd
      cases hu : us[i]? with
      | none => rw [hu] at hd; cases hd
      | some u =>
        rw [hu] at hd
        cases hd
        have hi : i < us.length := (List.getElem?_eq_some_iff.mp hu).1
        have ti : (us.take i).length = i := by rw [List.length_take]; omega
        have s1 : (σ'.set 2 (some x))[1]? = some (some (.ref p)) := by rw [List.getElem?_set_ne (by decide)]; exact z1
        have s0 : (σ'.set 2 (some x))[0]? = some (some (.ref a)) := by rw [List.getElem?_set_ne (by decide)]; exact z0
        have s2 : (σ'.set 2 (some x))[2]? = some (some x) := by rw [List.getElem?_set_self (by omega)]
        refine hgt_app (n := hgt (hgts (us.take i)) u) z2 hp z3 (ev_var s1) (ev_ca (vs := [x, .ref p]) (ea_cons (ev_var s2) (ea_cons (ev_var s1) ea_nil)) fun H4 e4 Q4 q4 E4 => ⟨rfl, x, u, p, hgts (us.take i), rfl, dp_mono (z2.trans e4) hdp, by rw [hgts_len, ti]; exact hok i u hu, by rw [hgts_len]; omega, sq_of (e4 p _ z3), q4⟩) (by rw [hgts_len]; omega) fun H5 e5 h5 => ?_
        refine ⟨s0, s1, e5, ?_, by rw [List.length_set]; exact z4⟩
        rw [take_snoc hu, hgts_snoc]
        exact h5
    · obtain ⟨z0, z1, z2, z3, z4⟩ := z
      rw [hl, List.take_length] at z3
      exact s_ret (ev_var z1) fun H2 e2 => q p H2 hp (z2.trans e2) (e2 p _ z3)
end Q
namespace Q
open PySem PySem.Spec PyProof.Rows L2 Evl
/-! ### a def of the module called by keywords, all its parameters in their order -/
structure CaP (D : Wd) (g : Bool) (k : Nat) (x : Str) (ps : List Str) (sp : Sp) : Prop where
  ex : ∃ (f : Addr) (fd : FuncData), D.mg x = some (.ref f) ∧ PySem.W.keepIn D.K (.ref f) = true ∧ Binds D.K fd ps [] ∧ (∀ vs H Q E, sp vs H Q E → vs.length = ps.length) ∧
    (∀ (A : Around) (outer : List Env) (s : Shared) (H : Hp) (args : Args) (us : List Value) (vs : List V) (Q : VK) (E : XK), (g = true → A.guards = some []) → Room k A →
      Env0 D.P D.w D.K D.mg D.base A outer s H → BindsTo s fd args (ps.zip us) → Vals vs us → sp vs H Q E →
      codeAny (model D.P D.w) A (.call (.ref f) args) (CR (L2.CX D.P D.w) outer D.P D.w H s Q E) s) ∧ ∀ (s : Shared) (ws : List Value), ws.length = ps.length → BindsTo s fd ⟨[], ps.zip ws⟩ (ps.zip ws)
theorem CaP.ca {D : Wd} {g : Bool} {k : Nat} {x : Str} {ps : List Str} {sp : Sp} (c : CaP D g k x ps sp) : Ca D g k x ps.length sp := by
  obtain ⟨f, fd, gm, kp, hb, len, run, _⟩ := c.ex
  exact ⟨f, fd, ps, gm, kp, hb, rfl, len, run⟩
theorem ca_mkP (g : Bool) {D : Wd} {x : Str} {st : Stmt} {f : Addr} {fd : FuncData} {N ps : List Str} {k : Nat} {sp : Sp} (F : FunD D.K x x (defArgs st) (defBody st) (defScope st) [] [] f fd) (gm : D.mg x = some (.ref f)) (S : FnScope N ps (defScope st))
    (hb : Binds D.K fd ps []) (hkw : ∀ (kV doc pm : Value) (an : Option Addr) (cdv ct : Value) (ws : List Value), ws.length = ps.length → bindArgs (PySem.W.fnOf x x (defArgs st) (defBody st) (defScope st) .none kV doc pm an cdv ct) ⟨[], ps.zip ws⟩ = pure (ps.zip ws)) (len : ∀ vs H Q E, sp vs H Q E → vs.length = ps.length)
    (hbody : ∀ (cdv : Value) (A : Around) (outer : List Env) (s : Shared) (H : Hp) (vs : List V) (Q : VK) (E : XK), (g = true → A.guards = some []) → Room k (bodyCx D N x (defScope st) f cdv A outer s H E).A → sp vs H Q E →
      ∃ t, PSs (bodyCx D N x (defScope st) f cdv A outer s H E) (defBody st) t ∧ t { nx := fun _ H' => Q .non H', rt := Q } (L2.start N vs) H) : CaP D g (k + 1) x ps sp := by
  obtain ⟨oc, od, dV, kV, doc, pm, an, cdv, ct, osl, rfl, lk, hcd, hD, _⟩ := F.ex
  refine ⟨f, _, gm, F.kp, hb, len, fun A outer s H args us vs Q E hg hr e0 hbt r hsp =>
    LamX.run_ofS lk hcd S hr e0 hbt r (len _ _ _ _ hsp) fun hr' => hbody cdv A outer s H vs Q E hg hr' hsp, fun s ws hl => ?_⟩
  rcases hD with ⟨_, rfl⟩ | ⟨e, _⟩
  · exact .of_eq (hkw kV doc pm an cdv ct ws hl)
  · exact absurd rfl e
section
variable {X : Cx} {g : Bool} {j k : Nat} {x : Str} {ps : List Str} {sp : Sp} {E : XK} {p pos : Pos} {kws : List Keyword} {tk : TA}
theorem pe_caK (c : CaP (.of X) g j x ps sp) (hG : g = true → X.A.guards = some []) (hr : Room k X.A) (hk : j ≤ k) (hx : Passes (L2.CX X.prog X.w) X E) (hg : Gl X x) (hkw : PK X kws tk)
    (hall : (backToKw pos (keywordEach kws X.env)).all (·.1.isSome) = true := by rfl) (hks : (backToKw pos (keywordEach kws X.env)).filterMap (·.1) = ps := by rfl) (hdb : (x == ("__debug__" : Str)) = false := by decide)
    (hpl : ((backTo pos (starEach [] X.env)).any (·.1) || (backToKw pos (keywordEach kws X.env)).any (·.1.isNone)) = false := by rfl) : PE X (.Call (.Name x p) [] kws pos) (tCa sp E tk) := by
  refine ⟨fun pins s σ H Q I h => ?_⟩
  obtain ⟨f, fd, gm, kp, _, hlen, run, hb⟩ := c.ex
  refine wpAny_Call_Name_kw (ld_glob I hg gm ?_ hdb)
  refine PySem.W.callWith_KW0 (h₀ := X.base) I.ok.mod.kin kp hall ?_ hpl
  refine thn (hkw.run pos pins s σ H _ I h) fun ws s2 ⟨zs, H2, I2, rz, q2⟩ => ⟨I2.kIn, ?_⟩
  rw [hks]
  have hl : ws.length = ps.length := by rw [← rz.length, hlen _ _ _ _ q2]
  refine wpAny_call (codeAny_mono (run X.A X.stack s2 H2 ⟨[], ps.zip ws⟩ ws zs Q E hG (hr.mono hk) I2.env0 (hb s2 ws hl) rz q2) fun r' s' hq => ?_)
  cases r' with
  | error u => exact hx pins σ H2 s2 u s' I2 hq
  | ok fl =>
    cases fl with
    | ret u => exact I2.after hq
    | next => exact False.elim hq
    | brk => exact False.elim hq
    | cont => exact False.elim hq
end
end Q
namespace Q
open PySem PySem.Spec PyProof.Rows L2 Evl
variable {D : Wd} {aK cB cT fL : Addr}
theorem no_iff {P : Prop} (h : ¬ P) : (false = true ↔ P) := ⟨fun z => (by cases z), fun z => absurd z h⟩
theorem yes_iff {P : Prop} (h : P) : (true = true ↔ P) := ⟨fun _ => h, fun _ => rfl⟩
section
variable {σ : L2.St} {H : Hp} {ta tb : TE} {tz : TS} {Dn : Ends} {i j : Nat} {v w : V}
theorem q_parL {xs : List V} (h : EvL ta σ H xs) (h2 : ∀ H1, Ex H H1 → Ev tb σ H1 w) (k : ∀ p H1, H p = none → Ex H H1 → H1 p = some (.lst xs) → tz Dn ((σ.set i (some (.ref p))).set j (some w)) H1) : tSeq (tPar i j (tCons ta (tCons tb tNil))) tz Dn σ H :=
  h H (Ex.refl H) _ fun p H1 hp e1 h1 => h2 H1 e1 H1 (Ex.refl H1) _ fun H2 e2 => ⟨_, _, rfl, k p H2 hp (e1.trans e2) (e2 p _ h1)⟩
theorem q_parV {t : TA} (h : EvA t σ H [v, w]) (k : ∀ H1, Ex H H1 → tz Dn ((σ.set i (some v)).set j (some w)) H1) : tSeq (tPar i j t) tz Dn σ H := h H (Ex.refl H) _ fun H1 e1 => ⟨v, w, rfl, k H1 e1⟩
end
/-- a value that is no tuple -/
def NotTup (K : PySem.W.Frag) (H : Hp) (v : V) : Prop := ∃ n, (∀ H1, Ex H H1 → TyX K H1 v (.type n)) ∧ PySem.W.kitOne K (.type n) (.type "tuple") = some false
theorem NotTup.mono {K : PySem.W.Frag} {H H' : Hp} {v : V} (h : NotTup K H v) (e : Ex H H') : NotTup K H' v := by
  obtain ⟨n, h1, h2⟩ := h
  exact ⟨n, fun H1 e1 => h1 H1 (e.trans e1), h2⟩
theorem ev_notTup {K : PySem.W.Frag} {σ : L2.St} {H : Hp} {ta : TE} {v : V} (h : Ev ta σ H v) (hn : NotTup K H v) : Ev (tCB (rIsi K) (tCons ta (tCons (tC (.ty "tuple")) tNil))) σ H (.bl false) := by
  obtain ⟨n, h1, h2⟩ := hn
  exact fun H1 e Q q => h H1 e _ fun H2 e2 => ⟨v, .ty "tuple", .type n, .type "tuple", false, rfl, .ty "tuple", h1 H2 (e.trans e2), h2, q H2 e2⟩
/-- what stands for a thing that is asked: a datum, or no tuple at all -/
def Thing (K : PySem.W.Frag) (H : Hp) (v : V) (P : Prop) : Prop := (∃ x, Dp K H v x ∧ domD 1000 40 x = true ∧ (P ↔ IsTab x)) ∨ (NotTup K H v ∧ ¬ P)
def spTab (K : PySem.W.Frag) : Sp := fun vs H Q _ => vs.length = 1 ∧ ∃ v P, vs = [v] ∧ Thing K H v P ∧ ∀ b H2, Ex H H2 → (b = true ↔ P) → Q (.bl b) H2
theorem noL_pl : ∀ d : PyData, PySem.PyData.depth d < 1000 → plD d = true → noL d = true := by
  intro d
  exact fun _ h => by
    have key : ∀ n, ∀ d : PyData, d.depth ≤ n → plD d = true → noL d = true := by
      intro n
      induction n with
      | zero =>
        intro d hd h
        cases d with
        | tuple ds => rw [PyData.depth] at hd; omega
        | int i => rfl
        | str x => rfl
        | _ => simp [plD] at h
      | succ n ih =>
        intro d hd h
        cases d with
        | tuple ds =>
          have hA : ∀ ds : List PyData, PyData.depthAll ds ≤ n → plA ds = true → noLA ds = true := by
            intro ds
            induction ds with
            | nil => intro _ _; rfl
            | cons d ds ih2 =>
              intro h1 h2
              rw [PyData.depthAll] at h1
              obtain ⟨a, b⟩ := plA_cons h2
              show (noL d && noLA ds) = true
              rw [ih d (Nat.le_trans (Nat.le_max_left _ _) h1) a, ih2 (Nat.le_trans (Nat.le_max_right _ _) h1) b]
              rfl
          rw [PyData.depth] at hd
          exact hA ds (by omega) (by simpa [plD] using h)
        | int i => rfl
        | str x => rfl
        | _ => simp [plD] at h
    exact key _ d (Nat.le_refl _) h
def LastAt (K : PySem.W.Frag) (H : Hp) (o : Option PyData) (w : V) : Prop := match o with
  | none => w = .non
  | some k => Dp K H w k ∧ w ≠ .non
theorem dp_non {K : PySem.W.Frag} {H : Hp} {v : V} {ds : List PyData} (h : Dp K H v (.tuple ds)) : v ≠ .non := by
  cases h
  intro e
  cases e
theorem et_key {K : PySem.W.Frag} {σ : L2.St} {H : Hp} {ta : TA} {E : XK} {v : V} {u : Use} {n : Nat} (h : EvA ta σ H [v, .int (n : Int)]) (hv : Dp K H v (useD u)) (hm : u.lots.length ≤ 4) : Et K (tCa (spKey K) E ta) σ H (keyD n u) := fun H1 e Q q =>
  h H1 e _ fun H2 e2 => ⟨rfl, v, u, n, rfl, dp_mono (e.trans e2) hv, hm, fun w H3 e3 hw => q w H3 (e2.trans e3) hw⟩
theorem ev_hgt {K : PySem.W.Frag} {σ : L2.St} {H : Hp} {ta : TA} {E : XK} {v : V} {u : Use} {p : Addr} {hs : List Nat} (h : EvA ta σ H [v, .ref p]) (hv : Dp K H v (useD u)) (hok : OkUse hs.length u) (hl : hs.length ≤ 1000) (hp : SqL K H p (natsV hs)) : Ev (tCa (spHgt K) E ta) σ H (.int (hgt hs u : Int)) :=
  ev_ca h fun H1 e1 Q q E => ⟨rfl, v, u, p, hs, rfl, dp_mono e1 hv, hok, hl, ex_l e1 hp, q⟩
theorem rv_leD {K : PySem.W.Frag} {H : Hp} {x y : V} {d e : PyData} (hx : Dp K H x d) (hy : Dp K H y e) (ho : OrdD d e) : RV (rLeD K) x y H (.bl (!PySem.W.dataLt e d)) := fun H1 e1 Q q => ⟨d, e, dp_mono e1 hx, dp_mono e1 hy, ho, q H1 (Ex.refl H1)⟩
theorem rv_notN {H : Hp} {x : V} : RV (fun x y H Q => y = .non ∧ Q (.bl (!decide (x = .non))) H) x .non H (.bl (!decide (x = .non))) := fun H1 _ Q q => ⟨rfl, q H1 (Ex.refl H1)⟩
abbrev s_is_table : Stmt := top 22
abbrev N_is_table : List Str := ["thing", "heights", "last", "at", "use", "key"]
theorem sc_is_table : FnScope N_is_table ["thing"] (defScope s_is_table) := ⟨rfl, rfl, rfl, by decide +kernel, rfl, by decide +kernel, by decide +kernel⟩
theorem cp_is_table (T : Tx D aK cB cT fL) : CaP D false 5 "is_table" ["thing"] (spTab D.K) := by
  have c_is_use := c_is_use T
  have c_height_of := c_height_of T
  have c_use_key := c_use_key T
  obtain ⟨f, fd, F, gm⟩ := T.f22
  refine ca_mkP (st := s_is_table) (N := N_is_table) (ps := ["thing"]) false F gm sc_is_table (F.bindsN fun _ _ _ _ _ _ us hl => match us, hl with | [_], _ => rfl) (fun _ _ _ _ _ _ ws hl => match ws, hl with | [_], _ => rfl) (fun vs H Q E h => h.1) fun cdv A outer s H vs Q E hG hr h => ?_
  have nd := sc_is_table.nd
  have hu := hr.units
  refine ⟨_, (pss_cons (ps_if (pt_not (pt_val (pe_callB call_isi (by rfl) T.n_isinstance (by decide +kernel) (pa_cons (pv 0) (pa_cons (pe_bltn (v := .ty "tuple") rfl T.n_tuple (by decide +kernel) rfl) pa_nil))))) (pss_one (ps_ret pe_bl)) pss_nil)
    (pss_cons (ps_par (i := 1) (j := 2) (by rfl) nd rfl rfl (by decide) rfl rfl (pa_cons (pe_lst pa_nil) (pa_cons pe_non pa_nil)) (by rfl))
    (pss_cons (ps_for (passes_of rfl) rfl (pi_enT rfl T.n_enumerate (pa_cons (pv 0) pa_nil)) (pg_tup rfl (pgs_cons (pg_name (i := 3) nd rfl (Or.inl rfl)) (pgs_cons (pg_name (i := 4) nd rfl (Or.inl rfl)) pgs_nil)))
      (pss_cons (ps_if (pt_not (pt_val (pe_ca c_is_use (fun z => nomatch z) hr (by decide) passL rfl (pa_cons (pv 4) (pa_cons (pv 3) (pa_cons (pe_gr rfl T.g_is_lot_below) pa_nil)))))) (pss_one (ps_ret pe_bl)) pss_nil)
      (pss_cons (ps_expr (pe_bm PySem.F.plainAttrs_list PySem.F.slot_list_append PySem.F.type_list_append mt_append (pv 1) (pa_cons (pe_ca c_height_of (fun z => nomatch z) hr (by decide) passL rfl (pa_cons (pv 4) (pa_cons (pv 1) pa_nil))) pa_nil)))
      (pss_cons (ps_set (i := 5) nd rfl (Or.inl rfl) (pe_ca c_use_key (fun z => nomatch z) hr (by decide) passL rfl (pa_cons (pv 4) (pa_cons (pe_ix ix_list (pv 1) (pv 3) (fun _ _ => rfl)) pa_nil))))
      (pss_cons (ps_if (PW.pt (pw_and (pt_cmpR op_notN (pv 2) pe_non (nomark _)) (pw_and1 (pt_cmpR (op_leD hu) (pv 5) (pv 2) (nomark _))))) (pss_one (ps_ret pe_bl)) pss_nil)
      (pss_one (ps_set (i := 2) nd rfl (Or.inl rfl) (pv 5))))))))
    (pss_one (ps_ret pe_bl))))), ?_⟩
  obtain ⟨_, v, P, rfl, hth, q⟩ := h
  rcases hth with ⟨x, hv, hx, hP⟩ | ⟨hn, hP⟩
  rotate_left
  · exact q_when (b := !false) (et_not (et_B (ev_notTup (ev_var rfl) hn))) (fun _ H1 e1 => s_ret ev_c fun H2 e2 => q false H2 (e1.trans e2) (no_iff hP)) fun z => absurd z (by decide)
  have q' : ∀ b H2, Ex H H2 → (b = true ↔ IsTab x) → Q (.bl b) H2 := fun b H2 e hb => q b H2 e (hb.trans hP.symm)
  refine q_when (b := !isTupD x) (et_not (et_B (ev_isiD (etv_var rfl hv) (kit_tup _)))) (fun hb H1 e1 => s_ret ev_c fun H2 e2 => q' false H2 (e1.trans e2) (no_iff ?_)) fun hb H1 e1 => ?_
  · rintro ⟨us, rfl, _⟩
    cases hb
  cases x with
  | tuple ds =>
    obtain ⟨m, hm, hds1, hds2⟩ := domD_tup hx
    cases hm
    cases hv with
    | @tup a xs _ hs ha =>
      have hl : xs.length = ds.length := dpA_len ha
      refine q_parL (el_lst ea_nil (by decide)) (fun _ _ => ev_c) fun p H2 hp e2 h2 => ?_
      have e12 := e1.trans e2
      refine q_enT (a := a) (xs := xs) (ev_var rfl) (ex_t e12 hs) (fun n σ' H' => n ≤ ds.length ∧ σ'.length = 6 ∧ σ'[0]? = some (some (.ref a)) ∧ σ'[1]? = some (some (.ref p)) ∧ Ex H1 H' ∧ ∃ us w, us.length = n ∧ ds.take n = us.map useD ∧ TabOk us ∧ H' p = some (.lst (natsV (hgts us))) ∧ σ'[2]? = some (some w) ∧ LastAt D.K H' (lastK us) w)
        (fun H3 e3 => ⟨Nat.zero_le _, rfl, rfl, rfl, e2.trans e3, [], .non, rfl, rfl, .nil, e3 p _ h2, rfl, rfl⟩) (fun n σ' H' _ z => ex_t (e1.trans z.2.2.2.2.1) hs) (fun n x σ' H' H'' hx z e3 => ?_) fun σ' H' z => ?_
      · obtain ⟨z1, z2, z3, z4, z5, us, w, z6, z7, z8, z9, z10, z11⟩ := z
        subst z6
        obtain ⟨d, hd, hdp⟩ := dpA_getV ha hx
        have hi : us.length < ds.length := (List.getElem?_eq_some_iff.mp hd).1
        have hdom : domD 1000 40 d = true := domD_mono (Nat.le_refl _) (by decide) (hds2 d (List.mem_of_getElem? hd))
        have ex0 : Ex H H'' := (e1.trans z5).trans e3
        have hxd := dp_mono ex0 hdp
        have v1 : ((σ'.set 3 (some (.int (us.length : Int)))).set 4 (some x))[1]? = some (some (.ref p)) := by rw [List.getElem?_set_ne (by decide), List.getElem?_set_ne (by decide)]; exact z4
        have v2 : ((σ'.set 3 (some (.int (us.length : Int)))).set 4 (some x))[2]? = some (some w) := by rw [List.getElem?_set_ne (by decide), List.getElem?_set_ne (by decide)]; exact z10
        have v0 : ((σ'.set 3 (some (.int (us.length : Int)))).set 4 (some x))[0]? = some (some (.ref a)) := by rw [List.getElem?_set_ne (by decide), List.getElem?_set_ne (by decide)]; exact z3
        have v3 : ((σ'.set 3 (some (.int (us.length : Int)))).set 4 (some x))[3]? = some (some (.int (us.length : Int))) := by rw [List.getElem?_set_ne (by decide), List.getElem?_set_self (by omega)]
        have v4 : ((σ'.set 3 (some (.int (us.length : Int)))).set 4 (some x))[4]? = some (some x) := by rw [List.getElem?_set_self (by rw [List.length_set]; omega)]
        have lw : ((σ'.set 3 (some (.int (us.length : Int)))).set 4 (some x)).length = 6 := by rw [List.length_set, List.length_set]; exact z2
        generalize (σ'.set 3 (some (.int (us.length : Int)))).set 4 (some x) = σ1 at v1 v2 v0 v3 v4 lw ⊢
        refine q_when (b := !isUseD us.length d) (et_not (et_B (ev_ca (vs := [x, .int (us.length : Int), .ref fL]) (ea_cons (ev_var v4) (ea_cons (ev_var v3) (ea_cons ev_c ea_nil))) fun H4 e4 Q4 q4 E4 => ⟨rfl, x, d, us.length, rfl, dp_mono e4 hxd, hdom, q4⟩))) (fun hb H4 e4 => s_ret ev_c fun H5 e5 => q' false H5 ((ex0.trans e4).trans e5) (no_iff fun hT => ?_)) fun hb H4 e4 => ?_
        · obtain ⟨u, rfl, hok, _⟩ := tab_at hT z7 hd
          rw [isUseD_mk hok] at hb
          cases hb
        obtain ⟨u, rfl, hok⟩ := isUseD_of (show isUseD us.length d = true by simpa using hb)
        have hus : us.length ≤ 1000 := by omega
        have h4 := (e3.trans e4) p _ z9
        refine q_app h4 (ev_var v1) (ev_hgt (u := u) (ea_cons (ev_var v4) (ea_cons (ev_var v1) ea_nil)) (dp_mono e4 hxd) (by rw [hgts_len]; exact hok) (by rw [hgts_len]; exact hus) (sq_of h4)) (by unfold natsV; rw [List.length_map, hgts_len]; omega) fun H5 e5 => ?_
        have h5 := e5 p _ h4
        have eX : Ex H1 (upd H5 p (.lst (natsV (hgts us) ++ [.int (hgt (hgts us) u : Int)]))) := Ex.mut (((z5.trans e3).trans e4).trans e5) hp
        have hl6 : upd H5 p (.lst (natsV (hgts us) ++ [.int (hgt (hgts us) u : Int)])) p = some (.lst (natsV (hgts (us ++ [u])))) := by
          rw [upd_same, hgts_snoc, natsV_app]
          rfl
        have hw6 : LastAt D.K (upd H5 p (.lst (natsV (hgts us) ++ [.int (hgt (hgts us) u : Int)]))) (lastK us) w := by
          cases hk : lastK us with
          | none => rw [hk] at z11; exact z11
          | some k =>
            rw [hk] at z11
            obtain ⟨_, _, u', rfl, hu'⟩ := z8.last hk
            exact ⟨dp_upd h5 (noL_pl _ (Nat.lt_of_le_of_lt (dep_key _ _) (by decide)) (pl_key hu')) (dp_mono ((e3.trans e4).trans e5) z11.1), z11.2⟩
        generalize upd H5 p (.lst (natsV (hgts us) ++ [.int (hgt (hgts us) u : Int)])) = H6 at eX hl6 hw6 ⊢
        have hx6 := dp_mono (e1.trans eX) hdp
        refine q_asgD (d := keyD (hgt (hgts us) u) u) (et_key (ea_cons (ev_var v4) (ea_cons (ev_op (ev_var v1) (ev_var v3) (rv_ixL (i := (us.length : Int)) (sq_of hl6) (atI_nat (by
          unfold natsV
          rw [List.getElem?_map, hgts_snoc, List.getElem?_append_right (by rw [hgts_len]; exact Nat.le_refl _), hgts_len, Nat.sub_self]
          rfl)))) ea_nil)) hx6 hok.many) fun kv H7 e7 hkv => ?_
        have w0 : (σ1.set 5 (some kv))[0]? = some (some (.ref a)) := by rw [List.getElem?_set_ne (by decide)]; exact v0
        have w1 : (σ1.set 5 (some kv))[1]? = some (some (.ref p)) := by rw [List.getElem?_set_ne (by decide)]; exact v1
        have w2 : (σ1.set 5 (some kv))[2]? = some (some w) := by rw [List.getElem?_set_ne (by decide)]; exact v2
        have w5 : (σ1.set 5 (some kv))[5]? = some (some kv) := by rw [List.getElem?_set_self (by omega)]
        have lw2 : (σ1.set 5 (some kv)).length = 6 := by rw [List.length_set]; exact lw
        generalize σ1.set 5 (some kv) = σ2 at w0 w1 w2 w5 lw2 ⊢
        have goOn : (∀ k, lastK us = some k → PySem.W.dataLt k (keyD (hgt (hgts us) u) u) = true) → ∀ H8, Ex H7 H8 → tAsg (tVar 5) (gName 2) { nx := fun σ' H' => us.length + 1 ≤ ds.length ∧ σ'.length = 6 ∧ σ'[0]? = some (some (.ref a)) ∧ σ'[1]? = some (some (.ref p)) ∧ Ex H1 H' ∧ ∃ us_1 w, us_1.length = us.length + 1 ∧ ds.take (us.length + 1) = us_1.map useD ∧ TabOk us_1 ∧ H' p = some (.lst (natsV (hgts us_1))) ∧ σ'[2]? = some (some w) ∧ LastAt D.K H' (lastK us_1) w, rt := Q } σ2 H8 := fun hk H8 e8 => by
          refine s_asg (ev_var w5) fun H9 e9 => ⟨hi, by rw [List.length_set]; exact lw2, by rw [List.getElem?_set_ne (by decide)]; exact w0, by rw [List.getElem?_set_ne (by decide)]; exact w1, ((eX.trans e7).trans e8).trans e9, us ++ [u], kv, by simp, ?_, .snoc z8 hok hk, ((e7.trans e8).trans e9) p _ hl6, by rw [List.getElem?_set_self (by omega)], ?_⟩
          · rw [List.take_succ, hd, z7, List.map_append]
            rfl
          · rw [lastK_snoc]
            exact ⟨dp_mono (e8.trans e9) hkv, dp_non hkv⟩
        cases hk : lastK us with
        | none =>
          rw [hk] at hw6
          have hw6 : w = .non := hw6
          subst hw6
          exact q_when (b := !decide (V.non = .non) && true) (et_and (et_test (ev_op (ev_var w2) ev_c rv_notN)) fun z => absurd z (by decide)) (fun z => absurd z (by decide)) fun _ H8 e8 => goOn (fun k hk' => by rw [hk] at hk'; cases hk') H8 e8
        | some k =>
          rw [hk] at hw6
          obtain ⟨_, _, u', hk2, hu'⟩ := z8.last hk
          refine q_when (b := !decide (w = .non) && !PySem.W.dataLt k (keyD (hgt (hgts us) u) u)) (et_and (et_test (ev_op (ev_var w2) ev_c rv_notN)) fun _ => et_test (ev_op (ev_var w5) (ev_var w2) (rv_leD hkv (dp_mono e7 hw6.1) ⟨pl_key hok, hk2 ▸ pl_key hu', hk2 ▸ ok_key _ _ _ _, dep_key _ _⟩))) (fun hb8 H8 e8 => s_ret ev_c fun H9 e9 => q' false H9 ((((e1.trans eX).trans e7).trans e8).trans e9) (no_iff fun hT => ?_)) fun hb8 H8 e8 => goOn (fun k' hk' => ?_) H8 e8
          · obtain ⟨u2, e2u, _, hlt⟩ := tab_at hT z7 hd
            rw [← useD_inj e2u] at hlt
            rw [hlt k hk, Bool.not_true, Bool.and_false] at hb8
            cases hb8
          · rw [hk] at hk'
            cases hk'
            rw [decide_eq_false hw6.2, Bool.not_false, Bool.true_and] at hb8
            simpa using hb8
      · obtain ⟨_, _, _, _, z4, us, w, z5, z6, z7, _⟩ := z
        rw [hl] at z5 z6
        rw [List.take_length] at z6
        exact s_ret ev_c fun H3 e3 => q' true H3 ((e1.trans z4).trans e3) (yes_iff ⟨us, by rw [z6], z7⟩)
  | _ => cases hb
theorem c_is_table (T : Tx D aK cB cT fL) : Ca D false 5 "is_table" 1 (spTab D.K) := (cp_is_table T).ca
end Q
namespace Q
open PySem PySem.Spec PyProof.Rows L2 Evl
variable {D : Wd} {aK cB cT fL : Addr}
/-- v is the table of some uses -/
def GoodT (K : PySem.W.Frag) (H : Hp) (v : V) (us : List Use) : Prop := Dp K H v (.tuple (us.map useD)) ∧ TabOk us ∧ domD 1000 40 (.tuple (us.map useD)) = true
theorem GoodT.mono {K : PySem.W.Frag} {H H' : Hp} {v : V} {us : List Use} (h : GoodT K H v us) (e : Ex H H') : GoodT K H' v us := ⟨dp_mono e h.1, h.2⟩
theorem GoodT.thing {K : PySem.W.Frag} {H : Hp} {v : V} {us : List Use} (h : GoodT K H v us) : Thing K H v True := .inl ⟨_, h.1, h.2.2, ⟨fun _ => ⟨us, rfl, h.2.1⟩, fun _ => trivial⟩⟩
theorem GoodT.len {K : PySem.W.Frag} {H : Hp} {v : V} {us : List Use} (h : GoodT K H v us) : us.length ≤ 1000 := by
  obtain ⟨_, _, h1, _⟩ := domD_tup h.2.2
  simpa using h1
theorem Thing.mono {K : PySem.W.Frag} {H H' : Hp} {v : V} {P : Prop} (h : Thing K H v P) (e : Ex H H') : Thing K H' v P := by
  rcases h with ⟨x, h1, h2, h3⟩ | ⟨h1, h2⟩
  · exact .inl ⟨x, dp_mono e h1, h2, h3⟩
  · exact .inr ⟨h1.mono e, h2⟩
theorem q_dropS {σ : L2.St} {H : Hp} {sp : Sp} {E : XK} {ta : TA} {tz : TS} {Dn : Ends} {vs : List V} (h : EvA ta σ H vs) (k : ∀ H1, Ex H H1 → sp vs H1 (fun _ H' => tz Dn σ H') E) : tSeq (tDrop (tCa sp E ta)) tz Dn σ H := h H (Ex.refl H) _ k
theorem ev_tabY {K : PySem.W.Frag} {σ : L2.St} {H : Hp} {E : XK} {ta : TA} {v : V} {P : Prop} (h : EvA ta σ H [v]) (ht : Thing K H v P) (hp : P) : Ev (tCa (spTab K) E ta) σ H (.bl true) := ev_ca h fun H1 e1 Q q E => ⟨rfl, v, P, rfl, ht.mono e1, fun b H2 e2 hb => by
  obtain rfl : b = true := hb.mpr hp
  exact q H2 e2⟩
theorem ev_tabN {K : PySem.W.Frag} {σ : L2.St} {H : Hp} {E : XK} {ta : TA} {v : V} {P : Prop} (h : EvA ta σ H [v]) (ht : Thing K H v P) (hp : ¬ P) : Ev (tCa (spTab K) E ta) σ H (.bl false) := ev_ca h fun H1 e1 Q q E => ⟨rfl, v, P, rfl, ht.mono e1, fun b H2 e2 hb => by
  cases b with
  | true => exact absurd (hb.mp rfl) hp
  | false => exact q H2 e2⟩
def rTupOf (K : PySem.W.Frag) : List V → Hp → VK → Prop := fun xs H Q => ∃ p ys, xs = [.ref p] ∧ ((SqL K H p ys ∧ ∀ l, H l = none → Q (.ref l) (upd H l (.tup ys))) ∨ (SqT K H p ys ∧ Q (.ref p) H))
theorem call_tupI {X : Cx} : CallR X (.type "tuple") (rTupOf X.K) := call_tuple_of
theorem et_tupL {K : PySem.W.Frag} {σ : L2.St} {H : Hp} {te : TE} {ds : List PyData} (h : Et K te σ H (.list ds)) : Et K (tCB (rTupOf K) (tCons te tNil)) σ H (.tuple ds) := fun H1 e Q q => h H1 e _ fun v H2 e2 hv => by
  cases hv with
  | lst hs ha => exact ⟨_, _, rfl, .inl ⟨hs, fun l hl => q _ _ (e2.trans (Ex.new hl)) (.tup (st_of upd_same) (dpA_mono (Ex.new hl) ha))⟩⟩
def spNeed (K : PySem.W.Frag) (cT : Addr) : Sp := fun vs H Q E => vs.length = 1 ∧ ∃ v, vs = [v] ∧ ((∃ us, GoodT K H v us ∧ ∀ H2, Ex H H2 → Q .non H2) ∨ (Thing K H v False ∧ ∀ H2, Ex H H2 → E (.ref cT) none H2))
abbrev s_need_table : Stmt := top 23
abbrev N_need_table : List Str := ["table"]
theorem sc_need_table : FnScope N_need_table ["table"] (defScope s_need_table) := ⟨rfl, rfl, rfl, by decide +kernel, rfl, by decide +kernel, by decide +kernel⟩
theorem c_need_table (T : Tx D aK cB cT fL) : Ca D false 6 "need_table" 1 (spNeed D.K cT) := by
  have c_is_table := c_is_table T
  obtain ⟨f, fd, F, gm⟩ := T.f23
  refine ca_mk (st := s_need_table) (N := N_need_table) (ps := ["table"]) false F gm sc_need_table (F.bindsN fun _ _ _ _ _ _ us hl => match us, hl with | [_], _ => rfl) (fun vs H Q E h => h.1) fun cdv A outer s H vs Q E hG hr h => ?_
  have nd := sc_need_table.nd
  refine ⟨_, (pss_one (ps_if (pt_not (pt_val (pe_ca c_is_table (fun z => nomatch z) hr (by decide) passL rfl (pa_cons (pv 0) pa_nil)))) (pss_one (ps_raise rfl (takes_of rfl rfl rfl rfl) (pmk_own PySem.F.excBase_ValueError T.eN.1 T.g_BadTable T.eN.2.1 (raises_own T.eN.2.2.1 T.eN.2.2.2) rfl))) pss_nil)), ?_⟩
  obtain ⟨_, v, rfl, h⟩ := h
  rcases h with ⟨us, hg, q⟩ | ⟨ht, q⟩
  · exact s_when (b := !true) (et_not (et_B (ev_tabY (ea_cons (ev_var rfl) ea_nil) hg.thing trivial))) (fun z => absurd z (by decide)) fun _ H1 e1 => q H1 e1
  · exact s_when (b := !false) (et_not (et_B (ev_tabN (ea_cons (ev_var rfl) ea_nil) ht id))) (fun _ H1 e1 => q H1 e1) fun z => absurd z (by decide)
def spHts (K : PySem.W.Frag) (cT : Addr) : Sp := fun vs H Q E => vs.length = 1 ∧ ∃ v, vs = [v] ∧ ((∃ us, GoodT K H v us ∧ ∀ w H2, Ex H H2 → Dp K H2 w (.tuple ((hgts us).map fun n : Nat => .int (n : Int))) → Q w H2) ∨ (Thing K H v False ∧ ∀ H2, Ex H H2 → E (.ref cT) none H2))
abbrev s_use_heights : Stmt := top 24
abbrev N_use_heights : List Str := ["table"]
theorem sc_use_heights : FnScope N_use_heights ["table"] (defScope s_use_heights) := ⟨rfl, rfl, rfl, by decide +kernel, rfl, by decide +kernel, by decide +kernel⟩
theorem cp_use_heights (T : Tx D aK cB cT fL) : CaP D false 7 "use_heights" ["table"] (spHts D.K cT) := by
  have c_need_table := c_need_table T
  have c_heights_told := c_heights_told T
  obtain ⟨f, fd, F, gm⟩ := T.f24
  refine ca_mkP (st := s_use_heights) (N := N_use_heights) (ps := ["table"]) false F gm sc_use_heights (F.bindsN fun _ _ _ _ _ _ us hl => match us, hl with | [_], _ => rfl) (fun _ _ _ _ _ _ ws hl => match ws, hl with | [_], _ => rfl) (fun vs H Q E h => h.1) fun cdv A outer s H vs Q E hG hr h => ?_
  have nd := sc_use_heights.nd
  refine ⟨_, (pss_cons (ps_expr (pe_ca c_need_table (fun z => nomatch z) hr (by decide) (passes_call (takes_of rfl rfl rfl rfl) fun _ _ _ _ h => h) rfl (pa_cons (pv 0) pa_nil)))
    (pss_one (ps_ret (pe_callTy call_tupI (by rfl) T.n_tuple (by decide +kernel) (pa_cons (pe_ca c_heights_told (fun z => nomatch z) hr (by decide) passL rfl (pa_cons (pv 0) pa_nil)) pa_nil))))), ?_⟩
  obtain ⟨_, v, rfl, h⟩ := h
  have hA : ∀ H1, EvA (tCons (tVar 0) tNil) (L2.start N_use_heights [v]) H1 [v] := fun H1 => ea_cons (ev_var rfl) ea_nil
  rcases h with ⟨us, hg, q⟩ | ⟨ht, q⟩
  · refine q_dropS (hA H) fun H1 e1 => ⟨rfl, v, rfl, .inl ⟨us, hg.mono e1, fun H2 e2 => ?_⟩⟩
    have e12 := e1.trans e2
    refine s_retD (K := D.K) (et_tupL (ds := (hgts us).map fun n : Nat => PyData.int (n : Int)) fun H3 e3 Q3 q3 => (hA H2) H3 e3 _ fun H4 e4 => ⟨rfl, v, us, rfl, dp_mono ((e12.trans e3).trans e4) hg.1, hg.2.1.uses, hg.len, fun p H5 hp e5 h5 => q3 _ H5 (e4.trans e5) (.lst (sq_of h5) (dpA_nats _))⟩) fun w H3 e3 hw => q w H3 (e12.trans e3) hw
  · exact q_dropS (hA H) fun H1 e1 => ⟨rfl, v, rfl, .inr ⟨ht.mono e1, fun H2 e2 => q H2 (e1.trans e2)⟩⟩
theorem c_use_heights (T : Tx D aK cB cT fL) : Ca D false 7 "use_heights" 1 (spHts D.K cT) := (cp_use_heights T).ca
def spIsLot (K : PySem.W.Frag) (cT : Addr) : Sp := fun vs H Q E => vs.length = 2 ∧ ∃ v y, vs = [v, y] ∧ ((∃ us d, GoodT K H v us ∧ Dp K H y d ∧ domD 1000 40 d = true ∧ ∀ H2, Ex H H2 → Q (.bl (isLotD us.length d)) H2) ∨ (Thing K H v False ∧ ∀ H2, Ex H H2 → E (.ref cT) none H2))
abbrev s_is_lot : Stmt := top 25
abbrev N_is_lot : List Str := ["table", "thing"]
theorem sc_is_lot : FnScope N_is_lot ["table", "thing"] (defScope s_is_lot) := ⟨rfl, rfl, rfl, by decide +kernel, rfl, by decide +kernel, by decide +kernel⟩
theorem cp_is_lot (T : Tx D aK cB cT fL) : CaP D false 7 "is_lot" ["table", "thing"] (spIsLot D.K cT) := by
  have c_need_table := c_need_table T
  have c_is_lot_below := c_is_lot_below T
  obtain ⟨f, fd, F, gm⟩ := T.f25
  refine ca_mkP (st := s_is_lot) (N := N_is_lot) (ps := ["table", "thing"]) false F gm sc_is_lot (F.bindsN fun _ _ _ _ _ _ us hl => match us, hl with | [_, _], _ => rfl) (fun _ _ _ _ _ _ ws hl => match ws, hl with | [_, _], _ => rfl) (fun vs H Q E h => h.1) fun cdv A outer s H vs Q E hG hr h => ?_
  have nd := sc_is_lot.nd
  refine ⟨_, (pss_cons (ps_expr (pe_ca c_need_table (fun z => nomatch z) hr (by decide) (passes_call (takes_of rfl rfl rfl rfl) fun _ _ _ _ h => h) rfl (pa_cons (pv 0) pa_nil)))
    (pss_one (ps_ret (pe_ca c_is_lot_below (fun z => nomatch z) hr (by decide) passL rfl (pa_cons (pv 1) (pa_cons (pe_callB call_lenL (by rfl) T.n_len (by decide +kernel) (pa_cons (pv 0) pa_nil)) pa_nil)))))), ?_⟩
  obtain ⟨_, v, y, rfl, h⟩ := h
  have hA : ∀ H1, EvA (tCons (tVar 0) tNil) (L2.start N_is_lot [v, y]) H1 [v] := fun H1 => ea_cons (ev_var rfl) ea_nil
  rcases h with ⟨us, d, hg, hd, hdom, q⟩ | ⟨ht, q⟩
  · refine q_dropS (hA H) fun H1 e1 => ⟨rfl, v, rfl, .inl ⟨us, hg.mono e1, fun H2 e2 => ?_⟩⟩
    have e12 := e1.trans e2
    exact s_ret (ev_etB (et_ca (ds := [d, .int ((us.length : Nat) : Int)]) (eta_cons (etv_var rfl (dp_mono e12 hd)) (eta_cons (etI (ev_is (et_lenT (etv_var rfl (dp_mono e12 hg.1))) (by rw [List.length_map]))) eta_nil)) rfl (fLot_mk (dom_len (by decide) hdom)))) fun H3 e3 => q H3 (e12.trans e3)
  · exact q_dropS (hA H) fun H1 e1 => ⟨rfl, v, rfl, .inr ⟨ht.mono e1, fun H2 e2 => q H2 (e1.trans e2)⟩⟩
theorem c_is_lot (T : Tx D aK cB cT fL) : Ca D false 7 "is_lot" 2 (spIsLot D.K cT) := (cp_is_lot T).ca
end Q
namespace Q
open PySem PySem.Spec PyProof.Rows L2 Evl
variable {D : Wd} {aK cB cT fL : Addr}
def rAbsI : List V → Hp → VK → Prop := fun xs H Q => ∃ i : Int, xs = [.int i] ∧ Q (.int (if i < 0 then -i else i)) H
theorem call_absI {X : Cx} : CallR X (.builtin "abs") rAbsI := call_abs
def rIntI : List V → Hp → VK → Prop := fun xs H Q => (∃ i : Int, xs = [.int i] ∧ Q (.int i) H) ∨ ∃ k, xs = [.bl k] ∧ Q (.int (if k then 1 else 0)) H
theorem call_intI {X : Cx} : CallR X (.type "int") rIntI := call_int1
def rStrI : List V → Hp → VK → Prop := fun xs H Q => ∃ i : Int, xs = [.int i] ∧ i.natAbs.log2 < 1920 ∧ Q (.str (toString i)) H
theorem call_strI {X : Cx} : CallR X (.type "str") rStrI := call_str_int
theorem call_lenQ {X : Cx} : CallR X (.builtin "len") (rLen X.K) := call_len
section
variable {K : PySem.W.Frag} {σ : L2.St} {H H' : Hp} {ta tb te td ty tv : TE} {t u : TT} {x y z v : V} {D : Ends} {tz : TS}
theorem ev_abs {i : Int} (h : Ev ta σ H (.int i)) : Ev (tCB rAbsI (tCons ta tNil)) σ H (.int (if i < 0 then -i else i)) := fun H1 e Q q => h H1 e _ fun H2 e2 => ⟨i, rfl, q H2 e2⟩
theorem ev_int {i : Int} (h : Ev ta σ H (.int i)) : Ev (tCB rIntI (tCons ta tNil)) σ H (.int i) := fun H1 e Q q => h H1 e _ fun H2 e2 => .inl ⟨i, rfl, q H2 e2⟩
theorem ev_dget {d : Addr} {kvs : List (Key × V)} {k : Key} (hd : Ev td σ H (.ref d)) (hy : Ev ty σ H (kV k)) (hk : H d = some (.dK kvs)) (hv : valV kvs k = some v) : Ev (tDGet td ty) σ H v := fun H1 e Q q =>
  hd H1 e _ fun H2 e2 => hy H2 (e.trans e2) _ fun H3 e3 => ⟨d, v, rfl, by rw [← hv]; exact DGet.k (e3 _ _ (e2 _ _ (e _ _ hk))), q H3 (e2.trans e3)⟩
theorem q_put {d : Addr} {kvs : List (Key × V)} {k : Key} (hv : Ev tv σ H v) (hd : Ev td σ H (.ref d)) (hy : Ev ty σ H (kV k)) (hk : H d = some (.dK kvs)) (hl : kvs.length ≤ 1000) (c : ∀ H1, Ex H H1 → tz D σ (upd H1 d (.dK (putK kvs k v)))) : tSeq (sDPut td ty tv) tz D σ H :=
  hv H (Ex.refl H) _ fun H1 e1 => hd H1 e1 _ fun H2 e2 => hy H2 (e1.trans e2) _ fun H3 e3 => ⟨d, _, rfl, DPut.k (e3 _ _ (e2 _ _ (e1 _ _ hk))) (Nat.lt_of_le_of_lt hl (by decide)), c H3 ((e1.trans e2).trans e3)⟩
end
/-! ### the draws -/
def kv (la ca : Addr) (r t : Int) : List (Key × V) := [(.inr "large", .ref la), (.inr "cells", .ref ca), (.inr "rest", .int r), (.inr "turn", .int t)]
theorem n1 : ¬ ((.inr "large" : Key) = .inr "cells") := by decide +kernel
theorem n2 : ¬ ((.inr "large" : Key) = .inr "rest") := by decide +kernel
theorem n3 : ¬ ((.inr "large" : Key) = .inr "turn") := by decide +kernel
theorem n4 : ¬ ((.inr "cells" : Key) = .inr "rest") := by decide +kernel
theorem n5 : ¬ ((.inr "cells" : Key) = .inr "turn") := by decide +kernel
theorem n6 : ¬ ((.inr "rest" : Key) = .inr "turn") := by decide +kernel
theorem kv_large (la ca : Addr) (r t : Int) : valV (kv la ca r t) (.inr "large") = some (.ref la) := valV_pos rfl
theorem kv_cells (la ca : Addr) (r t : Int) : valV (kv la ca r t) (.inr "cells") = some (.ref ca) := by unfold kv; rw [valV_neg n1, valV_pos rfl]
theorem kv_rest (la ca : Addr) (r t : Int) : valV (kv la ca r t) (.inr "rest") = some (.int r) := by unfold kv; rw [valV_neg n2, valV_neg n4, valV_pos rfl]
theorem kv_turn (la ca : Addr) (r t : Int) : valV (kv la ca r t) (.inr "turn") = some (.int t) := by unfold kv; rw [valV_neg n3, valV_neg n5, valV_neg n6, valV_pos rfl]
theorem kv_prest (la ca : Addr) (r t r' : Int) : putK (kv la ca r t) (.inr "rest") (.int r') = kv la ca r' t := by
  have h : ((kv la ca r t).any fun p => decide (p.1 = (.inr "rest" : Key))) = true := by rw [valV_any, kv_rest]; rfl
  unfold putK
  rw [if_pos h]
  unfold kv
  rw [List.map_cons, List.map_cons, List.map_cons, List.map_cons, if_neg n2, if_neg n4, if_pos rfl, if_neg (fun z => n6 z.symm)]
  rfl
theorem kv_pturn (la ca : Addr) (r t t' : Int) : putK (kv la ca r t) (.inr "turn") (.int t') = kv la ca r t' := by
  have h : ((kv la ca r t).any fun p => decide (p.1 = (.inr "turn" : Key))) = true := by rw [valV_any, kv_turn]; rfl
  unfold putK
  rw [if_pos h]
  unfold kv
  rw [List.map_cons, List.map_cons, List.map_cons, List.map_cons, if_neg n3, if_neg n5, if_neg n6, if_pos rfl]
  rfl
def lim : Int := 1099511627776
def Dr (B : Int) (H : Hp) (d la : Addr) : Prop := ∃ (ca : Addr) (bs cs : List Int) (r t : Int), la ≠ ca ∧ H d = some (.dK (kv la ca r t)) ∧ H la = some (.lst (bs.map V.int)) ∧ H ca = some (.lst (cs.map V.int)) ∧ bs.length ≤ 1000 ∧ cs.length ≤ 1000 ∧ 0 ≤ t ∧ t ≤ B
structure Dx (B : Int) (d la : Addr) (H H' : Hp) : Prop where
  keep : ∀ a o, H a = some o → a ≠ d → a ≠ la → H' a = some o
  dr : Dr B H' d la
  ce : ∀ ca r t, H d = some (.dK (kv la ca r t)) → ∃ r' t', H' d = some (.dK (kv la ca r' t'))
theorem kv_ca {la ca ca' : Addr} {r t r' t' : Int} (h : kv la ca r t = kv la ca' r' t') : ca = ca' := by
  have h1 := (List.cons.inj (List.cons.inj h).2).1
  exact V.ref.inj (Prod.mk.inj h1).2
section
variable {H H' H2 : Hp} {d la p : Addr} {B B' : Int}
theorem Dr.ex (h : Dr B H d la) (e : Ex H H') : Dr B H' d la := by
  obtain ⟨ca, bs, cs, r, t, n, a, b, c, l⟩ := h
  exact ⟨ca, bs, cs, r, t, n, e _ _ a, e _ _ b, e _ _ c, l⟩
theorem Dr.up (h : Dr B H d la) (hb : B ≤ B') : Dr B' H d la := by
  obtain ⟨ca, bs, cs, r, t, n, a, b, c, l1, l2, l3, l4⟩ := h
  exact ⟨ca, bs, cs, r, t, n, a, b, c, l1, l2, l3, Int.le_trans l4 hb⟩
theorem Dx.of (h : Dr B H d la) (e : Ex H H') : Dx B d la H H' := ⟨fun a o q _ _ => e a o q, h.ex e, fun _ r t q => ⟨r, t, e _ _ q⟩⟩
theorem Dx.refl (h : Dr B H d la) : Dx B d la H H := .of h (Ex.refl H)
theorem Dx.trans (a : Dx B d la H H') (b : Dx B' d la H' H2) : Dx B' d la H H2 := ⟨fun x o q n m => b.keep x o (a.keep x o q n m) n m, b.dr, fun ca r t q => let ⟨_, _, q'⟩ := a.ce ca r t q; b.ce ca _ _ q'⟩
theorem Dx.ext (a : Dx B d la H H') (e : Ex H' H2) : Dx B d la H H2 := a.trans (.of a.dr e)
theorem Dx.up (a : Dx B d la H H') (hb : B ≤ B') : Dx B' d la H H' := ⟨a.keep, a.dr.up hb, a.ce⟩
theorem Dx.back (a : Dx B d la H H') (h : H' p = none) : H p = none := by
  obtain ⟨ca, bs, cs, r, t, n, x, y, c, l⟩ := a.dr
  cases q : H p with
  | none => rfl
  | some o =>
    have h1 : p ≠ d := fun z => by rw [z, x] at h; cases h
    have h2 : p ≠ la := fun z => by rw [z, y] at h; cases h
    rw [a.keep p o q h1 h2] at h
    cases h
theorem Dx.put {H4 : Hp} {ca : Addr} {r t r2 t2 : Int} (D4 : Dx B d la H H4) (h4 : H4 d = some (.dK (kv la ca r t))) : ∀ ca1 r1 t1, H d = some (.dK (kv la ca1 r1 t1)) → ∃ r' t', (upd H4 d (.dK (kv la ca r2 t2))) d = some (.dK (kv la ca1 r' t')) := fun ca1 r1 t1 h => by
  obtain ⟨r', t', h'⟩ := D4.ce _ _ _ h
  rw [h4] at h'
  obtain rfl := kv_ca (HO.dK.inj (Option.some.inj h'))
  exact ⟨r2, t2, upd_same⟩
theorem Dr.lst_ne (D0 : Dr B H d la) : ∀ p, H p = none → p ≠ la := fun p h z => by
  obtain ⟨ca, bs, cs, r, t, nlc, hd, hla, _⟩ := D0
  rw [z, hla] at h
  cases h
theorem Dr.d_ne (D0 : Dr B H d la) : ∀ p, H p = none → p ≠ d := fun p h z => by
  obtain ⟨ca, bs, cs, r, t, nlc, hd, hla, _⟩ := D0
  rw [z, hd] at h
  cases h
end
def spMixed : Sp := fun vs H Q _ => vs.length = 1 ∧ ∃ d la B, vs = [.ref d] ∧ Dr B H d la ∧ B < lim ∧ ∀ (i : Int) H2, Dx (B + 1) d la H H2 → Q (.int i) H2
abbrev s__law_mixed : Stmt := top 28
abbrev N__law_mixed : List Str := ["draw", "turn", "blended", "prime", "blend", "grain"]
theorem sc__law_mixed : FnScope N__law_mixed ["draw"] (defScope s__law_mixed) := ⟨rfl, rfl, rfl, by decide +kernel, rfl, by decide +kernel, by decide +kernel⟩
theorem c_l_mixed (T : Tx D aK cB cT fL) : Ca D false 1 "_law_mixed" 1 spMixed := by
  obtain ⟨f, fd, F, gm⟩ := T.f28
  refine ca_mk (st := s__law_mixed) (N := N__law_mixed) (ps := ["draw"]) false F gm sc__law_mixed (F.bindsN fun _ _ _ _ _ _ us hl => match us, hl with | [_], _ => rfl) (fun vs H Q E h => h.1) fun cdv A outer s H vs Q E hG hr h => ?_
  have nd := sc__law_mixed.nd
  refine ⟨_, (pss_cons (ps_par (i := 1) (j := 2) (by rfl) nd rfl rfl (by decide) rfl rfl (pa_cons (pe_op op_add (pe_dget (hu_of hr) (pv 0) pe_str (fun _ _ => rfl)) pe_int) (pa_cons pe_int pa_nil)) (by rfl))
    (pss_cons (ps_dput (hu_of hr) (pv 0) pe_str (pv 1) rfl)
    (pss_cons (ps_for (passes_of rfl) rfl (pi_list (pe_lst (pa_cons pe_int (pa_cons pe_int (pa_cons pe_int (pa_cons pe_int pa_nil)))))) (pg_name (i := 3) nd rfl (Or.inl rfl))
      (pss_cons (ps_set (i := 4) nd rfl (Or.inl rfl) (pe_op op_add (pe_op op_mul pe_int (pv 1)) (pe_op op_fdiv (pv 3) pe_int)))
      (pss_cons (ps_for (passes_of rfl) rfl (pi_list (pe_dget (hu_of hr) (pv 0) pe_str (fun _ _ => rfl))) (pg_name (i := 5) nd rfl (Or.inl rfl))
        (pss_one (ps_set (i := 4) nd rfl (Or.inl rfl) (pe_op op_mod (pe_callTy call_intI (by rfl) T.n_int (by decide +kernel) (pa_cons (pe_op op_add (pe_op op_add (pe_op op_mul (pv 4) pe_int) (pv 5)) (pv 1)) pa_nil)) (pv 3)))))
      (pss_one (ps_set (i := 2) nd rfl (Or.inl rfl) (pe_op op_add (pe_op op_mul (pv 2) pe_int) (pe_op op_mod (pe_callTy call_intI (by rfl) T.n_int (by decide +kernel) (pa_cons (pe_op op_pow (pv 4) pe_int) pa_nil)) (pv 3))))))))
    (pss_one (ps_ret (pv 2)))))), ?_⟩
  obtain ⟨_, d, la, B, rfl, ⟨ca, bs, cs, r, t, nlc, hd, hla, hca, lb, lc, t0, tB⟩, hB, q⟩ := h
  have hB' : B < 1099511627776 := hB
  refine q_parV (v := .int (t + 1)) (w := .int 0) (ea_cons (ev_op (ev_dget (ev_var rfl) ev_c hd (kv_turn la ca r t)) ev_c rv_I0) (ea_cons ev_c ea_nil)) fun H1 e1 => ?_
  refine q_put (k := .inr "turn") (ev_var rfl) (ev_var rfl) ev_c (e1 _ _ hd) (show 4 ≤ 1000 by decide) fun H2 e2 => ?_
  rw [kv_pturn]
  have e12 := e1.trans e2
  have ndl : ∀ {a xs}, H2 a = some (.lst xs) → a ≠ d := fun {a xs} h => ne_of h (e12 _ _ hd) (by simp)
  have hla2 : upd H2 d (.dK (kv la ca r (t + 1))) la = some (.lst (bs.map V.int)) := by rw [upd_ne (ndl (e12 _ _ hla))]; exact e12 _ _ hla
  have hca2 : upd H2 d (.dK (kv la ca r (t + 1))) ca = some (.lst (cs.map V.int)) := by rw [upd_ne (ndl (e12 _ _ hca))]; exact e12 _ _ hca
  have D2 : Dx (B + 1) d la H (upd H2 d (.dK (kv la ca r (t + 1)))) := ⟨fun a o h n _ => by rw [upd_ne n]; exact e12 _ _ h, ⟨ca, bs, cs, r, t + 1, nlc, upd_same, hla2, hca2, lb, lc, by omega, by omega⟩, (Dx.of (B := B + 1) ⟨ca, bs, cs, r, t, nlc, hd, hla, hca, lb, lc, t0, by omega⟩ e12).put (e12 _ _ hd)⟩
  have hd2 : upd H2 d (.dK (kv la ca r (t + 1))) d = some (.dK (kv la ca r (t + 1))) := upd_same
  generalize upd H2 d (.dK (kv la ca r (t + 1))) = G at D2 hd2 hla2 hca2
  refine q_forNLn (xs := [.int 2147483647, .int 2147483629, .int 2147483587, .int 2147483579]) (el_lst (ea_cons ev_c (ea_cons ev_c (ea_cons ev_c (ea_cons ev_c ea_nil)))) (by simp)) (fun p i σ' H' => ∃ (f : Int) (v3 v4 v5 : Option V), σ' = [some (.ref d), some (.int (t + 1)), some (.int f), v3, v4, v5] ∧ Ex G H' ∧ H' p = some (.lst [.int 2147483647, .int 2147483629, .int 2147483587, .int 2147483579]))
    (fun p H1 hp e h1 => ⟨0, none, none, none, rfl, e, h1⟩) (fun p i σ' H' _ ⟨f, v3, v4, v5, _, _, h⟩ => sq_of h) ?_ ?_
  · rintro p i x σ' H' hx ⟨f, v3, v4, v5, rfl, eG, hp⟩
    obtain ⟨pr, rfl, p1, p2⟩ : ∃ pr : Int, x = .int pr ∧ 0 < pr ∧ pr < 4294967296 := by
      have hm : x ∈ [V.int 2147483647, V.int 2147483629, V.int 2147483587, V.int 2147483579] := List.mem_of_getElem? hx
      simp at hm
      rcases hm with rfl | rfl | rfl | rfl
      · exact ⟨_, rfl, by decide, by decide⟩
      · exact ⟨_, rfl, by decide, by decide⟩
      · exact ⟨_, rfl, by decide, by decide⟩
      · exact ⟨_, rfl, by decide, by decide⟩
    refine q_asg (ev_op (ev_op ev_c (ev_var rfl) (rv_I (.inl (by decide)))) (ev_op (ev_var rfl) ev_c (rv_I (by unfold CDiv; decide))) rv_I0) fun H1 e1 => ?_
    refine q_forLn (ev_dget (ev_var rfl) ev_c ((eG.trans e1) _ _ hd2) (kv_cells la ca r (t + 1))) (sq_of ((eG.trans e1) _ _ hca2)) (fun i σ' H' => ∃ (s : Int) (v5 : Option V), σ' = [some (.ref d), some (.int (t + 1)), some (.int f), some (.int pr), some (.int s), v5] ∧ (0 ≤ s ∧ s < 1152921504606846976) ∧ Ex H1 H') (fun H2 e2 => ⟨_, v5, rfl, ⟨by omega, by omega⟩, e2⟩) (fun i σ' H' _ ⟨s, v5, _, _, e⟩ => sq_of (e _ _ ((eG.trans e1) _ _ hca2))) ?_ ?_
    · rintro i x σ' H' hx ⟨s, v5, rfl, hs, e2⟩
      obtain ⟨c, hc⟩ : ∃ c : Int, x = .int c := by
        obtain ⟨c, _, e⟩ := List.mem_map.mp (List.mem_of_getElem? hx)
        exact ⟨c, e.symm⟩
      subst hc
      exact s_asg (ev_op (ev_int (ev_op (ev_op (ev_op (ev_var rfl) ev_c (rv_I (.inr (by decide)))) (ev_var rfl) rv_I0) (ev_var rfl) rv_I0)) (ev_var rfl) (rv_I p1)) fun H3 e3 => ⟨_, _, rfl, ⟨Int.emod_nonneg _ (by omega), Int.lt_trans (Int.lt_trans (Int.emod_lt_of_pos _ p1) p2) (by decide)⟩, e2.trans e3⟩
    · rintro σ' H' ⟨s, v5, rfl, hs, e2⟩
      exact s_asg (ev_op (ev_op (ev_var rfl) ev_c (rv_I (.inr (by decide)))) (ev_op (ev_int (ev_op (ev_var rfl) ev_c (rv_I (by unfold CPow; exact ⟨by decide, by decide, by omega⟩)))) (ev_var rfl) (rv_I p1)) rv_I0) fun H3 e3 => ⟨_, _, _, _, rfl, ((eG.trans e1).trans e2).trans e3, e3 _ _ (e2 _ _ (e1 _ _ hp))⟩
  · rintro p σ' H' ⟨f, v3, v4, v5, rfl, eG, _⟩
    exact s_ret (ev_var rfl) fun H1 e1 => q _ H1 (D2.ext (eG.trans e1))
end Q
namespace Q
open PySem PySem.Spec PyProof.Rows L2 Evl
variable {D : Wd} {aK cB cT fL : Addr}
/-- draw, a number: a number below it -/
theorem el_nil {σ : L2.St} {H : Hp} : EvL (tLst tNil) σ H [] := el_lst ea_nil (by simp)
def spTake : Sp := fun vs H Q _ => vs.length = 2 ∧ ∃ d la n B, vs = [.ref d, .int n] ∧ Dr B H d la ∧ B < lim ∧ (0 < n ∧ n < 1073741824) ∧ ∀ (i : Int) H2, (0 ≤ i ∧ i < n) → Dx (B + 1) d la H H2 → Q (.int i) H2
theorem dpL_is (K : PySem.W.Frag) (H : Hp) : ∀ bs : List Int, DpAll K H (bs.map V.int) (bs.map PyData.int)
  | [] => .nil
  | b :: bs => .cons (.int b) (dpL_is K H bs)
theorem shaped_is (bs : List Int) : SeqAt.shaped (.list (bs.map .int)) = true := by
  have h1 : PyData.canLayAll0 (bs.map .int) = true ∧ PyData.depthAll (bs.map .int) = 0 := by
    induction bs with
    | nil => exact ⟨rfl, rfl⟩
    | cons n bs ih =>
      refine ⟨?_, ?_⟩
      · show (true && PyData.canLayAll0 (bs.map .int)) = true
        rw [ih.1]
        rfl
      · show max 0 (PyData.depthAll (bs.map .int)) = 0
        rw [ih.2]
        rfl
  show (PyData.canLayAll0 _ && decide (PyData.depthAll _ + 1 ≤ 64)) = true
  rw [h1.1, h1.2]
  rfl
abbrev s__law_take : Stmt := top 29
abbrev N__law_take : List Str := ["draw", "many", "told"]
theorem sc__law_take : FnScope N__law_take ["draw", "many"] (defScope s__law_take) := ⟨rfl, rfl, rfl, by decide +kernel, rfl, by decide +kernel, by decide +kernel⟩
theorem c_l_take (T : Tx D aK cB cT fL) : Ca D false 2 "_law_take" 2 spTake := by
  have c_l_mixed := c_l_mixed T
  obtain ⟨f, fd, F, gm⟩ := T.f29
  refine ca_mk (st := s__law_take) (N := N__law_take) (ps := ["draw", "many"]) false F gm sc__law_take (F.bindsN fun _ _ _ _ _ _ us hl => match us, hl with | [_, _], _ => rfl) (fun vs H Q E h => h.1) fun cdv A outer s H vs Q E hG hr h => ?_
  have nd := sc__law_take.nd
  have hu := hr.units
  refine ⟨_, (Evl.pss_cut (ps_if (pt_cmpR op_eq (pe_dget (hu_of hr) (pv 0) pe_str (fun _ _ => rfl)) pe_int (nomark _)) (pss_one (ps_dput (hu_of hr) (pv 0) pe_str (pe_ifExp (pt_cmpR (op_neD hu) (pe_dget (hu_of hr) (pv 0) pe_str (fun _ _ => rfl)) (pe_lst pa_nil) (nomark _)) (pe_bm PySem.F.plainAttrs_list PySem.F.slot_list_pop PySem.F.type_list_pop mt_popAt (pe_dget (hu_of hr) (pv 0) pe_str (fun _ _ => rfl)) (pa_cons pe_int pa_nil)) (pe_ca c_l_mixed (fun z => nomatch z) hr (by decide) passL rfl (pa_cons (pv 0) pa_nil))) rfl)) pss_nil)
    (pss_cons (ps_set (i := 2) nd rfl (Or.inl rfl) (pe_op op_mod (pe_callTy call_intI (by rfl) T.n_int (by decide +kernel) (pa_cons (pe_dget (hu_of hr) (pv 0) pe_str (fun _ _ => rfl)) pa_nil)) (pv 1)))
    (pss_cons (ps_dput (hu_of hr) (pv 0) pe_str (pe_op op_fdiv (pe_callTy call_intI (by rfl) T.n_int (by decide +kernel) (pa_cons (pe_dget (hu_of hr) (pv 0) pe_str (fun _ _ => rfl)) pa_nil)) (pv 1)) rfl)
    (pss_one (ps_ret (pv 2)))))), ?_⟩
  obtain ⟨_, d, la, n, B, rfl, D0, hB, ⟨n1', n2'⟩, q⟩ := h
  refine q_cut (M := fun σ' H' => σ' = [some (.ref d), some (.int n), none] ∧ Dx (B + 1) d la H H') ?_ ?_
  · obtain ⟨ca, bs, cs, r, t, nlc, hd, hla, hca, lb, lc, t0, tB⟩ := id D0
    refine s_when (b := decide (V.int r = V.int 0)) (et_test (ev_op (ev_dget (ev_var rfl) ev_c hd (kv_rest la ca r t)) ev_c (rv_eq rfl))) (fun hb H1 e1 => ?_) fun hb H1 e1 => ⟨rfl, (Dx.of D0 e1).up (by omega)⟩
    -- what comes, then the put
    have put : ∀ (i : Int) H2, Dx (B + 1) d la H H2 → ∀ (td ty : TE), Ev td ([some (.ref d), some (.int n), none] : L2.St) H2 (.ref d) → Ev ty ([some (.ref d), some (.int n), none] : L2.St) H2 (.str "rest") → ∀ D : Ends, (∀ H', Dx (B + 1) d la H H' → D.nx [some (.ref d), some (.int n), none] H') →
        td ([some (.ref d), some (.int n), none] : L2.St) H2 fun x H3 => ty ([some (.ref d), some (.int n), none] : L2.St) H3 fun y H4 => ∃ a H5, x = .ref a ∧ DPut H4 a y (.int i) H5 ∧ D.nx [some (.ref d), some (.int n), none] H5 := by
      intro i H2 D2 td ty htd hty D hD
      refine htd H2 (Ex.refl H2) _ fun H3 e3 => hty H3 e3 _ fun H4 e4 => ?_
      have D4 := D2.ext (e3.trans e4)
      obtain ⟨ca', bs', cs', r', t', nlc', hd', hla', hca', lb', lc', t0', tB'⟩ := D4.dr
      refine ⟨d, _, rfl, DPut.k (k := .inr "rest") hd' (Nat.lt_of_le_of_lt (show 4 ≤ 1000 by decide) (by decide)), ?_⟩
      rw [kv_prest]
      have ndl : ∀ {a xs}, H4 a = some (.lst xs) → a ≠ d := fun {a xs} h => ne_of h hd' (by simp)
      exact hD _ ⟨fun a o h x y => by rw [upd_ne x]; exact D4.keep a o h x y, ⟨ca', bs', cs', i, t', nlc', upd_same, by rw [upd_ne (ndl hla')]; exact hla', by rw [upd_ne (ndl hca')]; exact hca', lb', lc', t0', tB'⟩, D4.put hd'⟩
    have hb2 : EvT (tTest (tOp (rNeD (bodyCx D N__law_take "_law_take" (defScope s__law_take) f cdv A outer s H E).K) (tDGet (tVar 0) (tC (.str "large"))) (tLst tNil))) ([some (.ref d), some (.int n), none] : L2.St) H1 (!PyData.eqv (.list (bs.map .int)) (.list [])) :=
      et_test (ev_opL (ev_dget (ev_var rfl) ev_c (e1 _ _ hd) (kv_large la ca r t)) el_nil fun p H2 hp e2 H3 e3 Q q' => ⟨_, _, .lst (sq_of (e3 _ _ (e2 _ _ (e1 _ _ hla)))) (dpL_is _ _ bs), .lst (sq_of (e3 _ _ hp)) .nil, shaped_is bs, rfl, q' H3 (Ex.refl H3)⟩)
    refine hb2 H1 (Ex.refl H1) _ fun H2 e2 => ?_
    have e12 := e1.trans e2
    cases bs with
    | nil =>
      rw [if_neg (by decide)]
      refine (show EvA (tCons (tVar 0) tNil) ([some (.ref d), some (.int n), none] : L2.St) H2 [.ref d] from ea_cons (ev_var rfl) ea_nil) H2 (Ex.refl H2) _ fun H3 e3 => ⟨rfl, d, la, B, rfl, D0.ex (e12.trans e3), hB, fun i H4 D4 => put i H4 ((Dx.of D0 (e12.trans e3)).trans D4) _ _ (ev_var rfl) ev_c _ fun H' D' => ⟨rfl, D'⟩⟩
    | cons b bs =>
      rw [if_pos (by rfl)]
      refine (show Ev (tDGet (tVar 0) (tC (.str "large"))) ([some (.ref d), some (.int n), none] : L2.St) H2 (.ref la) from ev_dget (ev_var rfl) ev_c (e12 _ _ hd) (kv_large la ca r t)) H2 (Ex.refl H2) _ fun H3 e3 => ⟨.inl ⟨rfl, _, sq_of (e3 _ _ (e12 _ _ hla))⟩, ?_⟩
      refine (show EvA (tCons (tC (.int 0)) tNil) ([some (.ref d), some (.int n), none] : L2.St) H3 [.int 0] from ea_cons ev_c ea_nil) H3 (Ex.refl H3) _ fun H4 e4 => ⟨la, (b :: bs).map V.int, 0, 0, .int b, rfl, rfl, (e3.trans e4) _ _ (e12 _ _ hla), by decide, by decide, ?_, rfl, ?_⟩
      · have h1 : ((b :: bs).map V.int).length = bs.length + 1 := by simp
        rw [h1]
        unfold seqIndex?
        simp
      · have e14 := e12.trans (e3.trans e4)
        have h4 : H4 ca ≠ none ∧ ca ≠ la := ⟨by rw [e14 _ _ hca]; simp, Ne.symm nlc⟩
        refine put b (upd H4 la (.lst (((b :: bs).map V.int).eraseIdx 0))) ⟨fun a o h x y => by rw [upd_ne y]; exact e14 a o h, ⟨ca, bs, cs, r, t, nlc, ?_, upd_same, by rw [upd_ne h4.2]; exact e14 _ _ hca, by simp at lb; omega, lc, t0, by omega⟩, fun ca1 r1 t1 h => ⟨r1, t1, by rw [upd_ne (ne_of (e14 _ _ hd) (e14 _ _ hla) (by simp))]; exact e14 _ _ h⟩⟩ _ _ (ev_var rfl) ev_c _ fun H' D' => ⟨rfl, D'⟩
        rw [upd_ne (ne_of (e14 _ _ hd) (e14 _ _ hla) (by simp))]
        exact e14 _ _ hd
  · rintro σ' H1 ⟨rfl, D1⟩
    obtain ⟨ca, bs, cs, r, t, nlc, hd, hla, hca, lb, lc, t0, tB⟩ := D1.dr
    refine q_asg (ev_op (ev_int (ev_dget (ev_var rfl) ev_c hd (kv_rest la ca r t))) (ev_var rfl) (rv_I n1')) fun H2 e2 => ?_
    refine q_put (k := .inr "rest") (ev_op (ev_int (ev_dget (ev_var rfl) ev_c (e2 _ _ hd) (kv_rest la ca r t))) (ev_var rfl) (rv_I ⟨n1', n2'⟩)) (ev_var rfl) ev_c (e2 _ _ hd) (show 4 ≤ 1000 by decide) fun H3 e3 => ?_
    rw [kv_prest]
    have e13 := e2.trans e3
    have ndl : ∀ {a xs}, H3 a = some (.lst xs) → a ≠ d := fun {a xs} h => ne_of h (e13 _ _ hd) (by simp)
    refine s_ret (ev_var rfl) fun H4 e4 => q _ H4 ⟨Int.emod_nonneg _ (by omega), Int.emod_lt_of_pos _ n1'⟩ (Dx.ext (Dx.trans (D1.ext e13) ⟨fun a o h x _ => by rw [upd_ne x]; exact h, ⟨ca, bs, cs, r / n, t, nlc, upd_same, by rw [upd_ne (ndl (e13 _ _ hla))]; exact e13 _ _ hla, by rw [upd_ne (ndl (e13 _ _ hca))]; exact e13 _ _ hca, lb, lc, t0, tB⟩, (Dx.refl (D1.ext e13).dr).put (e13 _ _ hd)⟩) e4)
end Q
namespace Q
open PySem PySem.Spec PyProof.Rows L2 Evl
variable {D : Wd} {aK cB cT fL : Addr}
theorem int_nat {i : Int} {n : Nat} (h : 0 ≤ i ∧ i < (n : Int)) : ∃ k : Nat, i = (k : Int) ∧ k < n := ⟨i.toNat, by omega, by omega⟩
/-! ### what stays while numbers are drawn -/
def Kp (d la : Addr) (H H' : Hp) : Prop := ∀ a o, H a = some o → a ≠ d → a ≠ la → H' a = some o
def rs (d la : Addr) (H : Hp) : Hp := fun a => if a = d ∨ a = la then none else H a
section
variable {K : PySem.W.Frag} {H H' H2 : Hp} {d la p : Addr} {B B' : Int} {v : V} {x : PyData}
theorem rs_ex : Ex (rs d la H) H := fun a o h => by
  unfold rs at h
  split at h
  · cases h
  · exact h
theorem Kp.rs (k : Kp d la H H') : Ex (rs d la H) (rs d la H') := fun a o h => by
  unfold Q.rs at h ⊢
  split at h
  · cases h
  · rename_i n
    rw [if_neg n]
    exact k a o h (fun z => n (.inl z)) fun z => n (.inr z)
theorem Kp.of (e : Ex H H') : Kp d la H H' := fun a o h _ _ => e a o h
theorem Kp.trans (a : Kp d la H H') (b : Kp d la H' H2) : Kp d la H H2 := fun x o h n m => b x o (a x o h n m) n m
theorem Dx.kp (x : Dx B d la H H') : Kp d la H H' := x.keep
/-- a datum of which the draws' own objects are no part -/
def Dl (K : PySem.W.Frag) (d la : Addr) (H : Hp) (v : V) (x : PyData) : Prop := Dp K (rs d la H) v x
theorem Dl.dp (h : Dl K d la H v x) : Dp K H v x := dp_mono rs_ex h
theorem Dl.kp (h : Dl K d la H v x) (k : Kp d la H H') : Dl K d la H' v x := dp_mono k.rs h
theorem Dl.ex (h : Dl K d la H v x) (e : Ex H H') : Dl K d la H' v x := h.kp (.of e)
mutual
theorem dl_of (D0 : Dr B H d la) : ∀ {x : PyData} {v : V}, noL x = true → Dp K H v x → Dl K d la H v x
  | .none, _, _, h => by cases h; exact .non
  | .bool b, _, _, h => by cases h; exact .bl b
  | .int i, _, _, h => by cases h; exact .int i
  | .str x, _, _, h => by cases h; exact .str x
  | .list ds, _, n, h => by cases n
  | .tuple ds, _, n, h => by
    cases h with
    | @tup a xs _ hs ha =>
      refine .tup ?_ (dlA_of D0 n ha)
      obtain ⟨ca, bs, cs, r, t, nlc, hd, hla, _⟩ := D0
      rcases hs with (h | ⟨o, h⟩) | h
      · refine .inl (.inl ?_)
        unfold rs
        rw [if_neg (by rintro (z | z) <;> (rw [z] at h; first | (rw [hd] at h; cases h; done) | (rw [hla] at h; cases h; done)))]
        exact h
      · refine .inl (.inr ⟨o, ?_⟩)
        unfold rs
        rw [if_neg (by rintro (z | z) <;> (rw [z] at h; first | (rw [hd] at h; cases h; done) | (rw [hla] at h; cases h; done)))]
        exact h
      · exact .inr h
  | .dict _, _, n, h => by cases n
theorem dlA_of (D0 : Dr B H d la) : ∀ {ds : List PyData} {vs : List V}, noLA ds = true → DpAll K H vs ds → DpAll K (rs d la H) vs ds
  | [], _, _, h => by cases h; exact .nil
  | x :: ds, _, n, h => by
    have n' : (noL x && noLA ds) = true := n
    obtain ⟨n1, n2⟩ := Bool.and_eq_true_iff.mp n'
    cases h with
    | cons h1 h2 => exact .cons (dl_of D0 n1 h1) (dlA_of D0 n2 h2)
end
theorem rs_new (h1 : p ≠ d) (h2 : p ≠ la) {o : HO} : rs d la (upd H p o) = upd (rs d la H) p o := by
  funext a
  unfold rs upd
  by_cases e : a = p
  · subst e
    rw [if_pos rfl, if_pos rfl, if_neg (by rintro (z | z); exact h1 z; exact h2 z)]
  · rw [if_neg e, if_neg e]
end
/-- some[..] of a list, what is known of its things kept -/
def spPick : Sp := fun vs H Q _ => vs.length = 2 ∧ ∃ d la B p xs, ∃ PP : Hp → V → Prop, vs = [.ref d, .ref p] ∧ Dr B H d la ∧ B < lim ∧ p ≠ la ∧ H p = some (.lst xs) ∧ xs ≠ [] ∧ xs.length ≤ 1000 ∧ (∀ y ∈ xs, PP H y) ∧ (∀ H1 H2 y, Kp d la H1 H2 → PP H1 y → PP H2 y) ∧ ∀ v H2, PP H2 v → Dx (B + 1) d la H H2 → Q v H2
abbrev s__law_pick : Stmt := top 30
abbrev N__law_pick : List Str := ["draw", "some"]
theorem sc__law_pick : FnScope N__law_pick ["draw", "some"] (defScope s__law_pick) := ⟨rfl, rfl, rfl, by decide +kernel, rfl, by decide +kernel, by decide +kernel⟩
theorem c_l_pick (T : Tx D aK cB cT fL) : Ca D false 3 "_law_pick" 2 spPick := by
  have c_l_take := c_l_take T
  obtain ⟨f, fd, F, gm⟩ := T.f30
  refine ca_mk (st := s__law_pick) (N := N__law_pick) (ps := ["draw", "some"]) false F gm sc__law_pick (F.bindsN fun _ _ _ _ _ _ us hl => match us, hl with | [_, _], _ => rfl) (fun vs H Q E h => h.1) fun cdv A outer s H vs Q E hG hr h => ?_
  have nd := sc__law_pick.nd
  refine ⟨_, (pss_one (ps_ret (pe_ix ix_list (pv 1) (pe_ca c_l_take (fun z => nomatch z) hr (by decide) passL rfl (pa_cons (pv 0) (pa_cons (pe_callB call_lenL (by rfl) T.n_len (by decide +kernel) (pa_cons (pv 1) pa_nil)) pa_nil))) (fun _ _ => rfl)))), ?_⟩
  obtain ⟨_, d, la, B, p, xs, PP, rfl, D0, hB, hpl, hpx, hne, hl, hP, hm, q⟩ := h
  have hpos : 0 < xs.length := List.length_pos_iff.mpr hne
  refine ⟨_, rfl, ?_⟩
  refine (show EvA (tCons (tVar 0) (tCons (tCB (rLenS D.K) (tCons (tVar 1) tNil)) tNil)) (L2.start N__law_pick [V.ref d, V.ref p]) H [.ref d, .int (xs.length : Int)] from ea_cons (ev_var rfl) (ea_cons (ev_len (ev_var rfl) (sq_of hpx)) ea_nil)) H (Ex.refl H) _ fun H2 e2 => ⟨rfl, d, la, _, B, rfl, D0.ex e2, hB, ⟨by omega, by omega⟩, fun i H3 hi D3 => ?_⟩
  obtain ⟨k, rfl, hk⟩ := int_nat hi
  have hpd : p ≠ d := by
    obtain ⟨ca, bs, cs, r, t, nlc, hd, _⟩ := D0
    exact ne_of hpx hd (by simp)
  have D13 := (Dx.of D0 e2).trans D3
  exact ⟨p, xs, (k : Int), xs[k], rfl, rfl, sq_of (D13.keep _ _ hpx hpd hpl), atI_nat (List.getElem?_eq_getElem hk), q _ H3 (hm _ _ _ D13.kp (hP _ (List.getElem_mem hk))) D13⟩
section
variable {K : PySem.W.Frag} {σ : L2.St} {H H' : Hp} {ta tb te tl : TE} {t u : TT} {x y z v : V} {Dn : Ends} {tz tu : TS} {d la : Addr} {E : XK} {Q : VK} {B : Int} {j0 : Nat}
theorem takeC {n : Int} (h0 : σ[j0]? = some (some (.ref d))) (hn : Ev te σ H (.int n)) (hb : 0 < n ∧ n < 1073741824) (D0 : Dr B H d la) (hB : B < lim) (q : ∀ (i : Int) H2, (0 ≤ i ∧ i < n) → Dx (B + 1) d la H H2 → Q (.int i) H2) : tCa spTake E (tCons (tVar j0) (tCons te tNil)) σ H Q :=
  (show EvA (tCons (tVar j0) (tCons te tNil)) σ H [.ref d, .int n] from ea_cons (ev_var h0) (ea_cons hn ea_nil)) H (Ex.refl H) _ fun H2 e2 => ⟨rfl, d, la, n, B, rfl, D0.ex e2, hB, hb, fun i H3 hi D3 => q i H3 hi ((Dx.of D0 e2).trans D3)⟩
/-- from a new list -/
theorem pickN {xs : List V} {PP : Hp → V → Prop} (h0 : σ[j0]? = some (some (.ref d))) (hs : ∀ H1, Ex H H1 → ∀ Q : VK, (∀ p xs H2, H1 p = none → Ex H1 H2 → H2 p = some (.lst xs) → xs ≠ [] → xs.length ≤ 1000 → (∀ y ∈ xs, PP H2 y) → Q (.ref p) H2) → tl σ H1 Q) (hm : ∀ H1 H2 y, Kp d la H1 H2 → PP H1 y → PP H2 y) (D0 : Dr B H d la) (hB : B < lim)
    (q : ∀ v H2, PP H2 v → Dx (B + 1) d la H H2 → Q v H2) : tCa spPick E (tCons (tVar j0) (tCons tl tNil)) σ H Q :=
  ⟨_, h0, hs H (Ex.refl H) _ fun p xs H2 hp e2 h2 hne hl hP => ⟨rfl, d, la, B, p, xs, PP, rfl, D0.ex e2, hB, D0.lst_ne p hp, h2, hne, hl, hP, hm, fun v H3 hv D3 => q v H3 hv ((Dx.of D0 e2).trans D3)⟩⟩
end
end Q
namespace Q
open PySem PySem.Spec PyProof.Rows L2 Evl
variable {D : Wd} {aK cB cT fL : Addr}
/-- the draw begun -/
def spBegun (K : PySem.W.Frag) : Sp := fun vs H Q _ => vs.length = 1 ∧ ∃ (a : Addr) (ns : List Int), vs = [.ref a] ∧ SqL K H a (ns.map V.int) ∧ ns.length ≤ 1000 ∧ ∀ d la H2, Ex H H2 → Dr 0 H2 d la → Q (.ref d) H2
theorem put_new (kvs : List (Key × V)) (k : Key) (v : V) (h : valV kvs k = none) : putK kvs k v = kvs ++ [(k, v)] := by
  unfold putK
  rw [if_neg (by rw [valV_any, h]; decide)]
theorem merge4 (la ca : Addr) (r t : Int) : mergeK [] (kv la ca r t) = kv la ca r t := by
  show putK (putK (putK (putK [] (.inr "large" : Key) (.ref la)) (.inr "cells" : Key) (.ref ca)) (.inr "rest" : Key) (.int r)) (.inr "turn" : Key) (.int t) = _
  rw [put_new [] _ _ valV_nil, List.nil_append, put_new _ (.inr "cells") _ (by rw [valV_neg n1, valV_nil]), List.singleton_append, put_new _ (.inr "rest") _ (by rw [valV_neg n2, valV_neg n4, valV_nil])]
  rw [List.cons_append, List.cons_append, List.nil_append, put_new _ (.inr "turn") _ (by rw [valV_neg n3, valV_neg n5, valV_neg n6, valV_nil])]
  rfl
def absZ (i : Int) : Int := if i < 0 then -i else i
abbrev E18 : Int := (10 : Int) ^ (18 : Int).toNat
def pBig : V → Bool
  | .int i => decide (E18 ≤ absZ i)
  | _ => false
def gBig : V → V
  | .int i => .int (absZ i - E18)
  | v => v
def gCell : V → V
  | .int i => .int (absZ i % 2147483629)
  | v => v
theorem big_is : ∀ ns : List Int, ∃ bs : List Int, (((ns.map V.int).filter pBig).map gBig) = bs.map V.int ∧ bs.length ≤ ns.length
  | [] => ⟨[], rfl, Nat.le_refl _⟩
  | n :: ns => by
    obtain ⟨bs, e, l⟩ := big_is ns
    rw [List.map_cons, List.filter_cons]
    by_cases h : pBig (.int n) = true
    · rw [if_pos h, List.map_cons, e]
      exact ⟨(absZ n - E18) :: bs, rfl, by simp; exact l⟩
    · rw [if_neg h, e]
      exact ⟨bs, rfl, by simp; omega⟩
theorem cell_is : ∀ ns : List Int, ((ns.map V.int).filter (fun _ => true)).map gCell = (ns.map fun i => absZ i % 2147483629).map V.int := by
  intro ns
  have h : ((ns.map V.int).filter fun _ => true) = ns.map V.int := by simp
  rw [h, List.map_map, List.map_map]
  rfl
abbrev s__law_begun : Stmt := top 27
abbrev N__law_begun : List Str := ["script", "large", "grain"]
theorem sc__law_begun : FnScope N__law_begun ["script"] (defScope s__law_begun) := ⟨rfl, rfl, rfl, by decide +kernel, rfl, by decide +kernel, by decide +kernel⟩
theorem c_l_begun (T : Tx D aK cB cT fL) : Ca D false 1 "_law_begun" 1 (spBegun D.K) := by
  obtain ⟨f, fd, F, gm⟩ := T.f27
  refine ca_mk (st := s__law_begun) (N := N__law_begun) (ps := ["script"]) false F gm sc__law_begun (F.bindsN fun _ _ _ _ _ _ us hl => match us, hl with | [_], _ => rfl) (fun vs H Q E h => h.1) fun cdv A outer s H vs Q E hG hr h => ?_
  have nd := sc__law_begun.nd
  refine ⟨_, (pss_cons (ps_setLc (i := 1) (own := [("grain", 2)]) (g := gName 2) rfl nd rfl rfl (sw_true rfl rfl rfl (by decide +kernel)) (pi_list (pv 0)) (blkOk_by (own := [("grain", 2)]) (N := N__law_begun) (sc := defScope s__law_begun) (by decide +kernel)) (fun _ _ _ _ _ => pg_name (i := 2) nd rfl (Or.inl rfl)) (fun _ _ _ _ _ => pts_one (pt_cmpR op_ge (pe_callB call_absI (by rfl) T.n_abs (by decide +kernel) (pa_cons (pv 2) pa_nil)) (pe_op op_pow pe_int pe_int) (nomark _))) (fun _ _ _ _ _ => (pe_op op_sub (pe_callB call_absI (by rfl) T.n_abs (by decide +kernel) (pa_cons (pv 2) pa_nil)) (pe_op op_pow pe_int pe_int))))
    (pss_one (ps_ret (pe_disp (pps_cons pe_str (pv 1) (pps_cons pe_str (pe_lc (own := [("grain", 2)]) (g := gName 2) rfl nd (pi_list (pv 0)) (blkOk_by (own := [("grain", 2)]) (N := N__law_begun) (sc := defScope s__law_begun) (by decide +kernel)) (fun _ _ _ _ _ => pg_name (i := 2) nd rfl (Or.inl rfl)) (fun _ _ _ _ _ => pts_nil) (fun _ _ _ _ _ => (pe_op op_mod (pe_callTy call_intI (by rfl) T.n_int (by decide +kernel) (pa_cons (pe_callB call_absI (by rfl) T.n_abs (by decide +kernel) (pa_cons (pv 2) pa_nil)) pa_nil)) pe_int))) (pps_cons pe_str pe_int (pps_cons pe_str pe_int pps_nil)))) (by rfl) (by rfl) (fun z => by cases z) (by decide))))), ?_⟩
  obtain ⟨_, a, ns, rfl, hs, hl, q⟩ := h
  obtain ⟨bs, hbs, lbs⟩ := big_is ns
  have hz : (ns.map V.int).length ≤ 1000000 := by rw [List.length_map]; omega
  have hpow : ∀ {σ : L2.St} {H : Hp}, Ev (tOp (rI CPow fun i j => .int (i ^ j.toNat)) (tC (.int 10)) (tC (.int 18))) σ H (.int E18) := fun {σ H} => ev_op ev_c ev_c (rv_I (by unfold CPow; decide))
  refine q_asgL (el_lcLv pBig gBig (ev_var rfl) hs hz (fun _ => rfl) (fun x H1 _ hx => ?_) (fun x H1 _ hx _ => ?_)) fun p H1 hp e1 h1 => ?_
  · obtain ⟨i, _, rfl⟩ := List.mem_map.mp hx
    exact et_test (ev_op (ev_abs (ev_var rfl)) hpow rv_I0)
  · obtain ⟨i, _, rfl⟩ := List.mem_map.mp hx
    exact ev_op (ev_abs (ev_var rfl)) hpow rv_I0
  rw [hbs] at h1
  intro dd hdd
  dsimp only [tPairs, tC]
  refine ⟨_, rfl, ?_⟩
  dsimp only
  refine (el_lcLv (fun _ => true) gCell (ev_var rfl) (ex_l (e1.trans (Ex.new hdd)) hs) hz (fun _ => rfl) (fun x H1 _ hx => et_yes) (fun x H1 _ hx _ => by
    obtain ⟨i, _, rfl⟩ := List.mem_map.mp hx
    exact ev_op (ev_int (ev_abs (ev_var rfl))) ev_c (rv_I (by decide)))) _ (Ex.refl _) _ fun c H2 hc e2 h2 => ⟨e2 _ _ upd_same, kv p c 0 0, rfl, (show 4 ≤ 15 by decide), ?_⟩
  rw [merge4]
  rw [cell_is] at h2
  have eU : Ex H1 (upd H2 dd (.dK (kv p c 0 0))) := fun b o h => by
    rw [upd_ne (ne_of_none h hdd)]
    exact e2 _ _ (Ex.new hdd _ _ h)
  have h1' := e2 _ _ (Ex.new (o := .dK []) hdd _ _ h1)
  have pc : p ≠ c := fun z => by
    rw [z] at h1
    have := Ex.new (o := .dK []) hdd _ _ h1
    rw [hc] at this
    cases this
  have pd : p ≠ dd := ne_of_none h1 hdd
  have cd : c ≠ dd := fun z => by rw [z, upd_same] at hc; cases hc
  exact q dd p _ (e1.trans eU) ⟨c, bs, ns.map fun i => absZ i % 2147483629, 0, 0, pc, upd_same, by rw [upd_ne pd]; exact h1', by rw [upd_ne cd]; exact h2, by omega, by rw [List.length_map]; omega, by decide, by decide⟩
def rListOf (K : PySem.W.Frag) : List V → Hp → VK → Prop := fun xs H Q => ∃ p ys, xs = [.ref p] ∧ (SqL K H p ys ∨ SqT K H p ys) ∧ ∀ l, H l = none → Q (.ref l) (upd H l (.lst ys))
theorem call_listI {X : Cx} : CallR X (.type "list") (rListOf X.K) := call_list_of
def InD (K : PySem.W.Frag) (d la : Addr) (ds : List PyData) (H : Hp) (y : V) : Prop := ∃ e ∈ ds, Dl K d la H y e
theorem InD.kp {K : PySem.W.Frag} {d la : Addr} {ds : List PyData} {H H' : Hp} {y : V} (h : InD K d la ds H y) (k : Kp d la H H') : InD K d la ds H' y := let ⟨e, he, q⟩ := h; ⟨e, he, q.kp k⟩
theorem rs_get {d la p : Addr} {H : Hp} (h1 : p ≠ d) (h2 : p ≠ la) : rs d la H p = H p := if_neg (by rintro (z | z); exact h1 z; exact h2 z)
theorem InD.upd {K : PySem.W.Frag} {d la p : Addr} {ds : List PyData} {H : Hp} {y : V} {ws ws' : List V} (h : InD K d la ds H y) (hn : ∀ e ∈ ds, noL e = true) (h1 : p ≠ d) (h2 : p ≠ la) (hp : H p = some (.lst ws)) : InD K d la ds (L2.upd H p (.lst ws')) y := by
  obtain ⟨e, he, q⟩ := h
  refine ⟨e, he, ?_⟩
  show Dp K (rs d la (L2.upd H p (.lst ws'))) y e
  rw [rs_new h1 h2]
  exact dp_upd (by rw [rs_get h1 h2]; exact hp) (hn e he) q
theorem InD.all {K : PySem.W.Frag} {d la : Addr} {ds : List PyData} {H : Hp} : ∀ {ys : List V}, (∀ y ∈ ys, InD K d la ds H y) → ∃ es, DpAll K (rs d la H) ys es ∧ (∀ e ∈ es, e ∈ ds) ∧ es.length = ys.length
  | [], _ => ⟨[], .nil, fun _ h => (by cases h), rfl⟩
  | y :: ys, h => by
    obtain ⟨e, he, q⟩ := h y (List.mem_cons_self ..)
    obtain ⟨es, q1, q2, q3⟩ := InD.all fun z hz => h z (List.mem_cons_of_mem _ hz)
    refine ⟨e :: es, .cons q q1, fun f hf => ?_, by simp [q3]⟩
    rcases List.mem_cons.mp hf with rfl | hf
    · exact he
    · exact q2 f hf
theorem InD.mk {K : PySem.W.Frag} {d la : Addr} {H : Hp} : ∀ {xs : List V} {ds : List PyData}, DpAll K (rs d la H) xs ds → ∀ y ∈ xs, InD K d la ds H y
  | _, _, .nil, y, hy => by cases hy
  | _, _, .cons h1 h2, y, hy => by
    rcases List.mem_cons.mp hy with rfl | hy
    · exact ⟨_, List.mem_cons_self .., h1⟩
    · obtain ⟨e, he, q⟩ := InD.mk h2 y hy
      exact ⟨e, List.mem_cons_of_mem _ he, q⟩
theorem q_parLL {σ : L2.St} {H : Hp} {ta tb : TE} {tz : TS} {Dn : Ends} {i j : Nat} {xs ys : List V} (h : EvL ta σ H xs) (h2 : ∀ H1, Ex H H1 → EvL tb σ H1 ys) (k : ∀ p q H1, H p = none → H q = none → p ≠ q → Ex H H1 → H1 p = some (.lst xs) → H1 q = some (.lst ys) → tz Dn ((σ.set i (some (.ref p))).set j (some (.ref q))) H1) : tSeq (tPar i j (tCons ta (tCons tb tNil))) tz Dn σ H :=
  h H (Ex.refl H) _ fun p H1 hp e1 h1 => h2 H1 e1 H1 (Ex.refl H1) _ fun q H2 hq e2 h2' => ⟨_, _, rfl, k p q H2 hp (fresh_back e1 hq) (fun z => by rw [z, hq] at h1; cases h1) (e1.trans e2) (e2 p _ h1) h2'⟩
theorem seq_ix {n k : Nat} (h : k < n) : seqIndex? (k : Int) n = some k := by
  unfold seqIndex?
  simp
  omega
def spShuf (K : PySem.W.Frag) : Sp := fun vs H Q _ => vs.length = 2 ∧ ∃ d la B p xs ds, vs = [.ref d, .ref p] ∧ Dr B H d la ∧ B + ds.length ≤ lim ∧ p ≠ la ∧ H p = some (.lst xs) ∧ DpAll K (rs d la H) xs ds ∧ ds.length ≤ 1000 ∧ (∀ e ∈ ds, noL e = true) ∧
  ∀ r ys es H2, r ≠ la → r ≠ d → H2 r = some (.lst ys) → DpAll K (rs d la H2) ys es → (∀ e ∈ es, e ∈ ds) → es.length ≤ ds.length → Dx (B + ds.length) d la H H2 → Q (.ref r) H2
abbrev s__law_shuffled : Stmt := top 31
abbrev N__law_shuffled : List Str := ["draw", "some", "left", "told", "lap"]
theorem sc__law_shuffled : FnScope N__law_shuffled ["draw", "some"] (defScope s__law_shuffled) := ⟨rfl, rfl, rfl, by decide +kernel, rfl, by decide +kernel, by decide +kernel⟩
theorem c_l_shuffled (T : Tx D aK cB cT fL) : Ca D false 3 "_law_shuffled" 2 (spShuf D.K) := by
  have c_l_take := c_l_take T
  obtain ⟨f, fd, F, gm⟩ := T.f31
  refine ca_mk (st := s__law_shuffled) (N := N__law_shuffled) (ps := ["draw", "some"]) false F gm sc__law_shuffled (F.bindsN fun _ _ _ _ _ _ us hl => match us, hl with | [_, _], _ => rfl) (fun vs H Q E h => h.1) fun cdv A outer s H vs Q E hG hr h => ?_
  have nd := sc__law_shuffled.nd
  refine ⟨_, (pss_cons (ps_par (i := 2) (j := 3) (by rfl) nd rfl rfl (by decide) rfl rfl (pa_cons (pe_callTy call_listI (by rfl) T.n_list (by decide +kernel) (pa_cons (pv 1) pa_nil)) (pa_cons (pe_lst pa_nil) pa_nil)) (by rfl))
    (pss_cons (ps_for (passes_of rfl) rfl (pi_range1 rfl T.n_range (pa_cons (pe_callB call_lenL (by rfl) T.n_len (by decide +kernel) (pa_cons (pv 1) pa_nil)) pa_nil)) (pg_name (i := 4) nd rfl (Or.inl rfl))
      (pss_one (ps_expr (pe_bm PySem.F.plainAttrs_list PySem.F.slot_list_append PySem.F.type_list_append mt_append (pv 3) (pa_cons (pe_bm PySem.F.plainAttrs_list PySem.F.slot_list_pop PySem.F.type_list_pop mt_popAt (pv 2) (pa_cons (pe_ca c_l_take (fun z => nomatch z) hr (by decide) passL rfl (pa_cons (pv 0) (pa_cons (pe_callB call_lenL (by rfl) T.n_len (by decide +kernel) (pa_cons (pv 2) pa_nil)) pa_nil))) pa_nil)) pa_nil)))))
    (pss_one (ps_ret (pv 3))))), ?_⟩
  obtain ⟨_, d, la, B, p, xs, ds, rfl, D0, hB, hpl, hpx, hall, hlen, hnl, q⟩ := h
  have hl : xs.length = ds.length := dpA_len hall
  have hpd : p ≠ d := by
    obtain ⟨ca, bs, cs, r, t, nlc, hd, _⟩ := id D0
    exact ne_of hpx hd (by simp)
  refine q_parLL (xs := xs) (fun H1 e1 Q1 q1 => ⟨.ref p, rfl, p, xs, rfl, .inl (sq_of (e1 _ _ hpx)), fun l hl => q1 l _ hl (Ex.new hl) upd_same⟩) (fun H1 _ => el_nil) fun l t H1 hl0 ht0 hlt e1 hl1 ht1 => ?_
  have nl := D0.lst_ne l hl0
  have nt := D0.lst_ne t ht0
  have ml := D0.d_ne l hl0
  have mt := D0.d_ne t ht0
  refine q_forR1 (n := (xs.length : Int)) (ea_cons (ev_len (ev_var rfl) (sq_of (e1 _ _ hpx))) ea_nil) (by omega) (fun i σ' H' => ∃ (v4 : Option V) (us ys : List V), σ' = [some (.ref d), some (.ref p), some (.ref l), some (.ref t), v4] ∧ i + us.length = ds.length ∧ ys.length = i ∧ Dx (B + i) d la H H' ∧ H' l = some (.lst us) ∧ H' t = some (.lst ys) ∧ (∀ y ∈ us, InD D.K d la ds H' y) ∧ ∀ y ∈ ys, InD D.K d la ds H' y)
    (fun H2 e2 => ⟨none, xs, [], rfl, by omega, rfl, (Dx.of D0 (e1.trans e2)).up (by omega), e2 _ _ hl1, e2 _ _ ht1, fun y hy => (InD.mk hall y hy).kp (.of (e1.trans e2)), fun y hy => by cases hy⟩) ?_ ?_
  · rintro i σ' H' hi ⟨v4, us, ys, rfl, hn, hy, Dx', hl', ht', hu, hz⟩
    have hpos : 0 < us.length := by omega
    refine ⟨.ref t, rfl, .inl ⟨rfl, ys, sq_of ht'⟩, .ref l, rfl, .inl ⟨rfl, us, sq_of hl'⟩, ?_⟩
    refine takeC (j0 := 0) (n := (us.length : Int)) (B := B + i) rfl (ev_len (ev_var rfl) (sq_of hl')) (by omega) Dx'.dr (by unfold lim at hB ⊢; omega) fun j H2 hj D2 => ?_
    obtain ⟨k, rfl, hk⟩ := int_nat hj
    have hl2 := D2.keep _ _ hl' ml nl
    have ht2 := D2.keep _ _ ht' mt nt
    refine ⟨l, us, (k : Int), k, us[k], rfl, rfl, hl2, by omega, by omega, seq_ix hk, List.getElem?_eq_getElem hk, ?_⟩
    have ht3 : upd H2 l (.lst (us.eraseIdx k)) t = some (.lst ys) := by rw [upd_ne (Ne.symm hlt)]; exact ht2
    refine ⟨t, ys, us[k], rfl, rfl, ht3, Nat.lt_of_le_of_lt (show _ ≤ 1000 by omega) (by decide), ?_⟩
    have D3 : Dx (B + i + 1) d la H' (upd (upd H2 l (.lst (us.eraseIdx k))) t (.lst (ys ++ [us[k]]))) → True := fun _ => trivial
    have put : ∀ y, InD D.K d la ds H' y → InD D.K d la ds (upd (upd H2 l (.lst (us.eraseIdx k))) t (.lst (ys ++ [us[k]]))) y := fun y hy => ((hy.kp D2.kp).upd hnl ml nl hl2).upd hnl mt nt ht3
    refine ⟨_, us.eraseIdx k, ys ++ [us[k]], rfl, ?_, by simp [hy], ?_, ?_, upd_same, fun y hy => put y (hu y (List.mem_of_mem_eraseIdx hy)), fun y hy => ?_⟩
    · rw [List.length_eraseIdx, if_pos hk]
      omega
    · have back : ∀ q o, H q = some o → q ≠ l ∧ q ≠ t := fun q o h => ⟨ne_of_none h hl0, ne_of_none h ht0⟩
      obtain ⟨ca0, _, _, r0, t0, _, hd0, _, hca0, _⟩ := id D0
      have D12 := Dx'.trans D2
      obtain ⟨r1, t1, hd1⟩ := D12.ce ca0 r0 t0 hd0
      refine ⟨fun q o h1 h2 h3 => ?_, ?_, fun ca' r' t' h' => let ⟨r2, t2, h2⟩ := D12.ce ca' r' t' h'; ⟨r2, t2, by rw [upd_ne (Ne.symm mt), upd_ne (Ne.symm ml)]; exact h2⟩⟩
      · obtain ⟨b1, b2⟩ := back q o h1
        rw [upd_ne b2, upd_ne b1]
        exact D2.keep _ _ (Dx'.keep _ _ h1 h2 h3) h2 h3
      · obtain ⟨ca, bs, cs, r, tt, nlc, hd, hla, hca, l1, l2, l3, l4⟩ := D12.dr
        have nca : ∀ q, H q = none → q ≠ ca := fun q hq z => by
          rw [hd1] at hd
          obtain rfl := kv_ca (HO.dK.inj (Option.some.inj hd))
          rw [z, hca0] at hq
          cases hq
        exact ⟨ca, bs, cs, r, tt, nlc, by rw [upd_ne (Ne.symm mt), upd_ne (Ne.symm ml)]; exact hd, by rw [upd_ne (Ne.symm nt), upd_ne (Ne.symm nl)]; exact hla, by rw [upd_ne (Ne.symm (nca t ht0)), upd_ne (Ne.symm (nca l hl0))]; exact hca, l1, l2, l3, by omega⟩
    · rw [upd_ne hlt]
      exact upd_same
    · rcases List.mem_append.mp hy with hy | hy
      · exact put y (hz y hy)
      · rw [List.mem_singleton.mp hy]
        exact put _ (hu _ (List.getElem_mem hk))
  · rintro σ' H' ⟨v4, us, ys, rfl, hn, hy, Dx', hl', ht', hu, hz⟩
    obtain ⟨es, q1, q2, q3⟩ := InD.all hz
    refine s_ret (ev_var rfl) fun H2 e2 => q t ys es H2 nt mt (e2 _ _ ht') (dpA_mono (Kp.of e2).rs q1) q2 ?_ ?_
    · rw [q3, hy, hl]
      exact Nat.le_refl _
    · have := Dx'.ext e2
      rw [show ((xs.length : Int).toNat : Int) = (ds.length : Int) by omega] at this
      exact this
end Q
namespace Q
open PySem PySem.Spec PyProof.Rows L2 Evl
variable {D : Wd} {aK cB cT fL : Addr}
/-- over a list or a tuple -/
def iSeq2 (K : PySem.W.Frag) (tl : TE) : TI := fun σ H R => iList K tl σ H R ∨ iTup K tl σ H R
theorem pi_seq2 {X : Cx} {l tg : Expr} {tl : TE} (hl : PE X l tl) : PI X tg l (iSeq2 X.K tl) := ⟨fun pins s σ H R I h => by
  rcases h with h | h
  · exact (pi_list hl).run pins s σ H R I h
  · exact (pi_tup hl).run pins s σ H R I h⟩
/-! ### the law's own readers of uses -/
def spIs (K : PySem.W.Frag) : Sp := fun vs H Q _ => vs.length = 2 ∧ ∃ a b : Bool, vs = [.bl a, .bl b] ∧ ∀ H2, Ex H H2 → Q (.bl (decide (a = b))) H2
abbrev s__law_is : Stmt := top 33
abbrev N__law_is : List Str := ["told", "due"]
theorem sc__law_is : FnScope N__law_is ["told", "due"] (defScope s__law_is) := ⟨rfl, rfl, rfl, by decide +kernel, rfl, by decide +kernel, by decide +kernel⟩
theorem c_l_is (T : Tx D aK cB cT fL) : Ca D false 1 "_law_is" 2 (spIs D.K) := by
  obtain ⟨f, fd, F, gm⟩ := T.f33
  refine ca_mk (st := s__law_is) (N := N__law_is) (ps := ["told", "due"]) false F gm sc__law_is (F.bindsN fun _ _ _ _ _ _ us hl => match us, hl with | [_, _], _ => rfl) (fun vs H Q E h => h.1) fun cdv A outer s H vs Q E hG hr h => ?_
  refine ⟨_, (pss_one (ps_ret (pe_and (pe_callB call_isi (by rfl) T.n_isinstance (by decide +kernel) (pa_cons (pv 0) (pa_cons (pe_bltn (v := .ty "bool") rfl T.n_bool (by decide +kernel) rfl) pa_nil))) (pe_one (pe_cmpR op_eq (pv 0) (pv 1) (nomark _)))))), ?_⟩
  obtain ⟨_, a, b, rfl, q⟩ := h
  exact s_ret (ev_sub (ev_andV (a := true) (ev_isiD (d := .bool a) (etB (ev_var rfl)) (kit_bool _)) fun _ => ev_op (ev_var rfl) (ev_var rfl) (rv_eq rfl)) (congrArg V.bl (decide_eq_decide.mpr ⟨fun h => V.bl.inj h, fun h => by rw [h]⟩))) q
def spSame (K : PySem.W.Frag) : Sp := fun vs H Q _ => vs.length = 2 ∧ ∃ x y d, vs = [x, y] ∧ Shows K H x d ∧ Shows K H y d ∧ ∀ H2, Ex H H2 → Q (.bl true) H2
theorem Shows.mono {K : PySem.W.Frag} {H H' : Hp} {x : V} {d : PyData} (h : Shows K H x d) (e : Ex H H') : Shows K H' x d := ⟨dp_mono e h.dp, h.sh, h.ok, h.sz⟩
theorem ev_repr {K : PySem.W.Frag} {σ : L2.St} {H : Hp} {ta : TE} {x : V} {d : PyData} (h : Ev ta σ H x) (hs : Shows K H x d) : Ev (tCB (rRepr K) (tCons ta tNil)) σ H (.str d.shown) := fun H1 e Q q => h H1 e _ fun H2 e2 => ⟨x, d, rfl, hs.mono (e.trans e2), q H2 e2⟩
abbrev s__law_same : Stmt := top 34
abbrev N__law_same : List Str := ["told", "due"]
theorem sc__law_same : FnScope N__law_same ["told", "due"] (defScope s__law_same) := ⟨rfl, rfl, rfl, by decide +kernel, rfl, by decide +kernel, by decide +kernel⟩
theorem c_l_same (T : Tx D aK cB cT fL) : Ca D true 2 "_law_same" 2 (spSame D.K) := by
  obtain ⟨f, fd, F, gm⟩ := T.f34
  refine ca_mk (st := s__law_same) (N := N__law_same) (ps := ["told", "due"]) true F gm sc__law_same (F.bindsN fun _ _ _ _ _ _ us hl => match us, hl with | [_, _], _ => rfl) (fun vs H Q E h => h.1) fun cdv A outer s H vs Q E hG hr h => ?_
  have hu6 : (bodyCx D N__law_same "_law_same" (defScope s__law_same) f cdv A outer s H E).A.units + 66 < cLine := by have := hr.un; omega
  refine ⟨_, (pss_one (ps_ret (pe_cmpR op_eq (pe_callB (call_repr (hG rfl) hu6) (by rfl) T.n_repr (by decide +kernel) (pa_cons (pv 0) pa_nil)) (pe_callB (call_repr (hG rfl) hu6) (by rfl) T.n_repr (by decide +kernel) (pa_cons (pv 1) pa_nil)) (nomark _)))), ?_⟩
  obtain ⟨_, x, y, d, rfl, h1, h2, q⟩ := h
  exact s_ret (ev_sub (ev_op (ev_repr (ev_var rfl) h1) (ev_repr (ev_var rfl) h2) (rv_eq rfl)) (congrArg V.bl (decide_eq_true rfl))) q
def fNum2 : List PyData → Option PyData
  | [d, .int n] => some (.bool (isNumD d && (match d with | .int i => decide (n ≤ i) | _ => false)))
  | _ => none
abbrev s__law_is_number : Stmt := top 35
abbrev N__law_is_number : List Str := ["thing", "low"]
theorem sc__law_is_number : FnScope N__law_is_number ["thing", "low"] (defScope s__law_is_number) := ⟨rfl, rfl, rfl, by decide +kernel, rfl, by decide +kernel, by decide +kernel⟩
theorem c_l_is_number (T : Tx D aK cB cT fL) : Ca D false 1 "_law_is_number" 2 (spDat D.K 2 fNum2) := by
  obtain ⟨f, fd, F, gm⟩ := T.f35
  refine ca_mk (st := s__law_is_number) (N := N__law_is_number) (ps := ["thing", "low"]) false F gm sc__law_is_number (F.bindsN fun _ _ _ _ _ _ us hl => match us, hl with | [_, _], _ => rfl) (fun vs H Q E h => h.1) fun cdv A outer s H vs Q E hG hr h => ?_
  refine ⟨_, (pss_one (ps_ret (pe_and (pe_callB call_isi (by rfl) T.n_isinstance (by decide +kernel) (pa_cons (pv 0) (pa_cons (pe_bltn (v := .ty "int") rfl T.n_int (by decide +kernel) rfl) pa_nil))) (pe_and (pe_not (pe_callB call_isi (by rfl) T.n_isinstance (by decide +kernel) (pa_cons (pv 0) (pa_cons (pe_bltn (v := .ty "bool") rfl T.n_bool (by decide +kernel) rfl) pa_nil)))) (pe_one (pe_cmpR op_ge (pv 0) (pv 1) (nomark _))))))), ?_⟩
  obtain ⟨_, ds, d, hvs, hf, q⟩ := h
  unfold fNum2 at hf
  split at hf
  · rename_i x n
    cases hf
    obtain ⟨v, w, rfl, hv, hw⟩ := dpA2 hvs
    cases hw
    refine s_ret (v := .bl _) ?_ fun H2 e2 => q _ H2 e2 (.bl _)
    by_cases hn : isNumD x = true
    · cases x with
      | int i =>
        cases hv
        exact ev_sub (ev_andV (a := true) (ev_isiD (d := .int i) (etI (ev_var rfl)) (kit_int _)) fun _ => ev_andV (a := true) (ev_notV (a := false) (ev_isiD (d := .int i) (etI (ev_var rfl)) (kit_bool _))) fun _ => ev_op (ev_var rfl) (ev_var rfl) rv_I0) rfl
      | _ => cases hn
    · have hn : isNumD x = false := by simpa using hn
      rw [hn]
      rw [isNumD_eq] at hn
      refine ev_sub (ev_andV (b := !isBoolD x && false) (ev_isiD (etv_var rfl hv) (kit_int _)) fun hi => ev_andV (b := false) (ev_notV (ev_isiD (etv_var rfl hv) (kit_bool _))) fun hb => ?_) ?_
      · rw [hi, hb] at hn
        cases hn
      · simp
  · cases hf
abbrev s__law_lots_in : Stmt := top 36
abbrev N__law_lots_in : List Str := ["use"]
theorem sc__law_lots_in : FnScope N__law_lots_in ["use"] (defScope s__law_lots_in) := ⟨rfl, rfl, rfl, by decide +kernel, rfl, by decide +kernel, by decide +kernel⟩
theorem c_l_lots_in (T : Tx D aK cB cT fL) : Ca D false 1 "_law_lots_in" 1 (spDat D.K 1 fLots) := by
  obtain ⟨f, fd, F, gm⟩ := T.f36
  refine ca_mk (st := s__law_lots_in) (N := N__law_lots_in) (ps := ["use"]) false F gm sc__law_lots_in (F.bindsN fun _ _ _ _ _ _ us hl => match us, hl with | [_], _ => rfl) (fun vs H Q E h => h.1) fun cdv A outer s H vs Q E hG hr h => ?_
  refine ⟨_, (pss_one (ps_ret (pe_ifExp (pt_cmpR op_eq (pe_ix ix_tup (pv 0) pe_int (fun _ _ => rfl)) pe_str (nomark _)) (pe_ix ix_tup (pv 0) pe_int (fun _ _ => rfl)) (pe_ifExp (pt_cmpR op_eq (pe_ix ix_tup (pv 0) pe_int (fun _ _ => rfl)) pe_str (nomark _)) (pe_slice sl_tupA (pv 0) (po_some pe_int) po_none) (pe_tup pa_nil))))), ?_⟩
  obtain ⟨_, ds, d, hvs, hf, q⟩ := h
  obtain ⟨k, r, rfl, hd⟩ := fLots_inv hf
  obtain ⟨v, rfl, hv⟩ := dpA1 hvs
  have h0 : ∀ H1, Ex H H1 → Ev (tOp (rIxT D.K) (tVar 0) (tC (.int 0))) (L2.start N__law_lots_in [v]) H1 (.str k) := fun H1 e1 => ev_etS (et_ixT (i := 0) (etv_var rfl (dp_mono e1 hv)) ev_c rfl)
  refine s_retD (K := D.K) (d := d) (et_if (b := decide (V.str k = V.str "con")) (et_test (ev_op (h0 H (Ex.refl H)) ev_c (rv_eq rfl))) (fun hc => ?_) fun hc => et_if (b := decide (V.str k = V.str "fun")) (et_test (ev_op (h0 H (Ex.refl H)) ev_c (rv_eq rfl))) (fun hb => ?_) fun hb => ?_) fun v H2 e2 hv => q v H2 e2 hv
  · rw [dec_str] at hc
    have hc := of_decide_eq_true hc
    subst hc
    rw [if_neg (by decide), if_pos rfl] at hd
    exact et_ixT (i := 2) (etv_var rfl hv) ev_c hd
  · rw [dec_str] at hb
    rw [if_pos (of_decide_eq_true hb)] at hd
    cases hd
    exact et_slA (etv_var rfl hv) (eo_some ev_c) eo_none (cut_from (.str k :: r) 1).symm
  · rw [dec_str] at hc hb
    rw [if_neg (of_decide_eq_false hb), if_neg (of_decide_eq_false hc)] at hd
    cases hd
    exact et_tup eta_nil (by decide)
def spLk (K : PySem.W.Frag) : Sp := fun vs H Q _ => vs.length = 1 ∧ ∃ v u, vs = [v] ∧ Dp K H v (useD u) ∧ ∀ w H2, Ex H H2 → Dp K H2 w (lkD u) → Q w H2
abbrev s__law_use_key : Stmt := top 40
abbrev N__law_use_key : List Str := ["use"]
theorem sc__law_use_key : FnScope N__law_use_key ["use"] (defScope s__law_use_key) := ⟨rfl, rfl, rfl, by decide +kernel, rfl, by decide +kernel, by decide +kernel⟩
theorem c_l_use_key (T : Tx D aK cB cT fL) : Ca D false 1 "_law_use_key" 1 (spLk D.K) := by
  obtain ⟨f, fd, F, gm⟩ := T.f40
  refine ca_mk (st := s__law_use_key) (N := N__law_use_key) (ps := ["use"]) false F gm sc__law_use_key (F.bindsN fun _ _ _ _ _ _ us hl => match us, hl with | [_], _ => rfl) (fun vs H Q E h => h.1) fun cdv A outer s H vs Q E hG hr h => ?_
  refine ⟨_, (pss_cons (ps_if (pt_cmpR op_eq (pe_ix ix_tup (pv 0) pe_int (fun _ _ => rfl)) pe_str (nomark _)) (pss_one (ps_ret (pe_tup (pa_cons pe_int (pa_cons (pe_ix ix_tup (pv 0) pe_int (fun _ _ => rfl)) (pa_cons (pe_callB call_lenL (by rfl) T.n_len (by decide +kernel) (pa_cons (pe_ix ix_tup (pv 0) pe_int (fun _ _ => rfl)) pa_nil)) (pa_cons (pe_ix ix_tup (pv 0) pe_int (fun _ _ => rfl)) pa_nil))))))) pss_nil)
    (pss_one (ps_ret (pe_ifExp (pt_cmpR op_eq (pe_ix ix_tup (pv 0) pe_int (fun _ _ => rfl)) pe_str (nomark _)) (pe_tup (pa_cons pe_int (pa_cons (pe_ix ix_tup (pv 0) pe_int (fun _ _ => rfl)) pa_nil))) (pe_ifExp (pt_cmpR op_eq (pe_ix ix_tup (pv 0) pe_int (fun _ _ => rfl)) pe_str (nomark _)) (pe_tup (pa_cons pe_int pa_nil)) (pe_tup (pa_cons pe_int (pa_cons (pe_ix ix_tup (pv 0) pe_int (fun _ _ => rfl)) (pa_cons (pe_ix ix_tup (pv 0) pe_int (fun _ _ => rfl)) pa_nil))))))))), ?_⟩
  obtain ⟨_, v, u, rfl, hv, q⟩ := h
  have ix : ∀ {i : Nat} {d : PyData} {r : List PyData} {H1 : Hp}, useD u = .tuple r → Ex H H1 → r[i]? = some d → Et D.K (tOp (rIxT D.K) (tVar 0) (tC (.int (i : Int)))) (L2.start N__law_use_key [v]) H1 d := fun hr e1 h => et_ixT (etv_var rfl (hr ▸ dp_mono e1 hv)) ev_c h
  obtain ⟨r, hr0⟩ := useD_head u
  have h0 : ∀ H1, Ex H H1 → ∀ w : Str, EvT (tTest (tOp rEq (tOp (rIxT D.K) (tVar 0) (tC (.int 0))) (tC (.str w)))) (L2.start N__law_use_key [v]) H1 (decide (kindS u = w)) := fun H1 e1 w => et_is (et_test (ev_op (ev_etS (ix (i := 0) hr0 e1 rfl)) ev_c (rv_eq rfl))) (dec_str _ _)
  have fin : ∀ {ta : TA}, EtA D.K ta (L2.start N__law_use_key [v]) H (.int (kindN u : Int) :: itemsU u) → Et D.K (tTup ta) (L2.start N__law_use_key [v]) H (lkD u) := fun {ta} h => et_tup h (by cases u <;> simp [itemsU])
  have e0 := Ex.refl H
  cases u with
  | con w ls => exact q_when (h0 H e0 "con") (fun _ H1 e1 => s_retD (K := D.K) (d := lkD (.con w ls)) (et_tup (eta_cons (etI ev_c) (eta_cons (ix (i := 1) rfl e1 rfl) (eta_cons (etI (ev_is (et_lenT (ix (i := 2) rfl e1 rfl)) (by rw [List.length_map]))) (eta_cons (ix (i := 2) rfl e1 rfl) eta_nil)))) (by simp [itemsU])) fun w H2 e2 hw => q w H2 (e1.trans e2) hw) fun z => absurd z (by show ¬ decide (("con" : Str) = "con") = false; decide)
  | num i => exact q_when (h0 H e0 "con") (fun z => absurd z (by show ¬ decide (("num" : Str) = "con") = true; decide)) fun _ H1 e1 => s_retD (K := D.K) (d := lkD (.num i)) (et_if (h0 H1 e1 "num") (fun _ => et_tup (eta_cons (etI ev_c) (eta_cons (ix (i := 1) rfl e1 rfl) eta_nil)) (by simp [itemsU])) fun z => absurd z (by show ¬ decide (("num" : Str) = "num") = false; decide)) fun w H2 e2 hw => q w H2 (e1.trans e2) hw
  | fin => exact q_when (h0 H e0 "con") (fun z => absurd z (by show ¬ decide (("end" : Str) = "con") = true; decide)) fun _ H1 e1 => s_retD (K := D.K) (d := lkD .fin) (et_if (h0 H1 e1 "num") (fun z => absurd z (by show ¬ decide (("end" : Str) = "num") = true; decide)) fun _ => et_if (h0 H1 e1 "end") (fun _ => et_tup (eta_cons (etI ev_c) eta_nil) (by simp [itemsU])) fun z => absurd z (by show ¬ decide (("end" : Str) = "end") = false; decide)) fun w H2 e2 hw => q w H2 (e1.trans e2) hw
  | fn a b => exact q_when (h0 H e0 "con") (fun z => absurd z (by show ¬ decide (("fun" : Str) = "con") = true; decide)) fun _ H1 e1 => s_retD (K := D.K) (d := lkD (.fn a b)) (et_if (h0 H1 e1 "num") (fun z => absurd z (by show ¬ decide (("fun" : Str) = "num") = true; decide)) fun _ => et_if (h0 H1 e1 "end") (fun z => absurd z (by show ¬ decide (("fun" : Str) = "end") = true; decide)) fun _ => et_tup (eta_cons (etI ev_c) (eta_cons (ix (i := 1) rfl e1 rfl) (eta_cons (ix (i := 2) rfl e1 rfl) eta_nil))) (by simp [itemsU])) fun w H2 e2 hw => q w H2 (e1.trans e2) hw
end Q
namespace Q
open PySem PySem.Spec PyProof.Rows L2 Evl
variable {D : Wd} {aK cB cT fL : Addr}
def badS (g : List Nat) (l : List Nat) : List Nat := l.filter fun c => !decide (c ∈ g)
theorem badS_nil (g : List Nat) : ∀ l, decide (badS g l = []) = inL g l
  | [] => rfl
  | c :: l => by
    have ih := badS_nil g l
    show decide ((c :: l).filter _ = []) = (decide (c ∈ g) && inL g l)
    rw [List.filter_cons]
    by_cases h : c ∈ g
    · rw [decide_eq_true h, if_neg (by decide), Bool.true_and]
      exact ih
    · rw [decide_eq_false h, if_pos (by decide)]
      simp
theorem badS_V (g : List Nat) (z : Str) (e : z = S g) : ∀ l : List Nat, (((S l).cps.toList.map fun c => V.str ⟨#[c]⟩).filter (fun x => match x with | .str w => !decide (w.cps.toList.headD 0 ∈ z.cps.toList) | _ => false)).map id = (badS g l).map fun c => V.str ⟨#[c]⟩ := by
  intro l
  rw [e, S_tl, S_tl, List.map_id]
  induction l with
  | nil => rfl
  | cons c l ih =>
    unfold badS at ih ⊢
    rw [List.map_cons, List.filter_cons, List.filter_cons]
    show (if (!decide (c ∈ g)) = true then _ else _) = _
    by_cases h : c ∈ g
    · rw [decide_eq_true h, if_neg (by decide), if_neg (by decide)]
      exact ih
    · rw [decide_eq_false h, if_pos (by decide), if_pos (by decide), List.map_cons, ih]
theorem sh_strs (l : List Nat) (h : ∀ c ∈ l, c < 1114112) : SeqAt.shaped (.list (l.map fun c => PyData.str ⟨#[c]⟩)) = true := by
  have h1 : PyData.canLay0 (.list (l.map fun c => PyData.str ⟨#[c]⟩)) = true := by
    rw [PyData.canLay0]
    exact lay_all fun d hd => by
      obtain ⟨n, hn, rfl⟩ := List.mem_map.mp hd
      have := h n hn
      simp [PyData.canLay0, PyData.strOk]
      omega
  have h2 : PyData.depth (.list (l.map fun c => PyData.str ⟨#[c]⟩)) ≤ 64 := by
    rw [PyData.depth]
    exact Nat.succ_le_succ (depth_all (n := 63) fun d hd => by
      obtain ⟨n, _, rfl⟩ := List.mem_map.mp hd
      simp [PyData.depth])
  unfold SeqAt.shaped
  rw [h1, decide_eq_true h2]
  rfl
theorem ev_chain {σ : L2.St} {H : Hp} {ta tb tc : TE} {i j k : Int} (ha : Ev ta σ H (.int i)) (hb : Ev tb σ H (.int j)) (hc : Ev tc σ H (.int k)) : Ev (tChain (rI0 fun i j => .bl (decide (i ≤ j))) (rI0 fun i j => .bl (decide (i ≤ j))) ta tb tc) σ H (.bl (decide (i ≤ j) && decide (j ≤ k))) := et_chain ha hb hc
theorem el_eq {σ : L2.St} {H : Hp} {te : TE} {xs ys : List V} (h : EvL te σ H xs) (e : xs = ys) : EvL te σ H ys := e ▸ h
theorem q_asgT2 {te : TE} {σ : L2.St} {H : Hp} {Dn : Ends} {a b : V} {i j : Nat} {tz : TS} (h : EvU te σ H [a, b]) (q : ∀ H1, Ex H H1 → tz Dn ((σ.set i (some a)).set j (some b)) H1) : tSeq (tAsg te (gTup D.K 2 (gCons (gName i) (gCons (gName j) gNil)))) tz Dn σ H :=
  h H (Ex.refl H) _ fun p H1 _ e1 h1 => ⟨p, _, rfl, st_of h1, rfl, _, _, rfl, _, _, rfl, rfl, q H1 e1⟩
def fWordL : List PyData → Option PyData
  | [d] => if domD 1000 40 d = true then some (.bool (isWordD d)) else none
  | _ => none
abbrev s__law_is_word : Stmt := top 43
abbrev N__law_is_word : List Str := ["thing", "great", "small", "sign"]
theorem sc__law_is_word : FnScope N__law_is_word ["thing"] (defScope s__law_is_word) := ⟨rfl, rfl, rfl, by decide +kernel, rfl, by decide +kernel, by decide +kernel⟩
theorem c_l_is_word (T : Tx D aK cB cT fL) : Ca D false 1 "_law_is_word" 1 (spDat D.K 1 fWordL) := by
  obtain ⟨f, fd, F, gm⟩ := T.f43
  refine ca_mk (st := s__law_is_word) (N := N__law_is_word) (ps := ["thing"]) false F gm sc__law_is_word (F.bindsN fun _ _ _ _ _ _ us hl => match us, hl with | [_], _ => rfl) (fun vs H Q E h => h.1) fun cdv A outer s H vs Q E hG hr h => ?_
  have nd := sc__law_is_word.nd
  have hu := hr.units
  refine ⟨_, (pss_cons (ps_asg (pe_tup (pa_cons pe_str (pa_cons pe_str pa_nil))) (pg_tup (by rfl) (pgs_cons (pg_name (i := 1) nd rfl (Or.inl rfl)) (pgs_cons (pg_name (i := 2) nd rfl (Or.inr rfl)) pgs_nil))))
    (pss_one (ps_ret (pe_and (pe_callB call_isi (by rfl) T.n_isinstance (by decide +kernel) (pa_cons (pv 0) (pa_cons (pe_bltn (v := .ty "str") rfl T.n_str (by decide +kernel) rfl) pa_nil))) (pe_and (pe_chain op_le op_le pe_int (pe_callB call_lenS (by rfl) T.n_len (by decide +kernel) (pa_cons (pv 0) pa_nil)) pe_int) (pe_and (pe_cmpR op_inS (pe_ix ix_str (pv 0) pe_int (fun _ _ => rfl)) (pv 1) (by rfl)) (pe_one (pe_cmpR (op_eqD hu) (pe_lc (own := [("sign", 3)]) (g := gName 3) rfl nd (pi_str (pe_slice sl_str (pv 0) (po_some pe_int) po_none)) (blkOk_by (own := [("sign", 3)]) (N := N__law_is_word) (sc := defScope s__law_is_word) (by decide +kernel)) (fun _ _ _ _ _ => pg_name (i := 3) nd rfl (Or.inl rfl)) (fun _ _ _ _ _ => pts_one (pt_cmpR op_notInS (pv 3) (pv 2) (by rfl))) (fun _ _ _ _ _ => (pv 3))) (pe_lst pa_nil) (nomark _))))))))), ?_⟩
  obtain ⟨_, ds, d, hvs, hf, q⟩ := h
  unfold fWordL at hf
  split at hf
  · rename_i x
    split at hf
    · rename_i hx
      cases hf
      obtain ⟨v, rfl, hv⟩ := dpA1 hvs
      refine q_asgT2 (eu_tup (ea_cons ev_c (ea_cons ev_c ea_nil)) (by simp)) fun H1 e1 => ?_
      have hv1 := dp_mono e1 hv
      refine s_ret (v := .bl (isWordD x)) ?_ fun H2 e2 => q _ H2 (e1.trans e2) (.bl _)
      cases hs : isStrD x with
      | false =>
        have e : isWordD x = false := by cases x <;> first | rfl | cases hs
        rw [e]
        exact ev_sub (ev_andV (b := true) (ev_isiD (etv_var rfl hv1) (by rw [kit_str, hs])) fun z => absurd z (by decide)) rfl
      | true =>
        cases x with
        | str z =>
          cases hv1
          rw [domD, Bool.and_eq_true] at hx
          have hz : z.length ≤ 1000 := of_decide_eq_true hx.2
          have hok := hx.1
          obtain ⟨l, rfl⟩ : ∃ l, z = S l := ⟨_, str_S z⟩
          have hL : (S l).length ≤ 1000000 := by omega
          rw [show isWordD (.str (S l)) = wd l by show wd (S l).cps.toList = _; rw [S_tl]]
          cases l with
          | nil => exact ev_sub (ev_andV (a := true) (ev_isiD (d := .str (S [])) (etS (ev_var rfl)) (kit_str _)) fun _ => ev_andV (a := decide ((1 : Int) ≤ ((S []).length : Int)) && decide (((S []).length : Int) ≤ 8)) (b := true) (ev_chain ev_c (ev_lenS (ev_var rfl) hL) ev_c) fun z => absurd z (by decide)) rfl
          | cons c r =>
            have hlen : ∀ c' ∈ c :: r, c' < 1114112 := fun c' hc' => by
              have z := hok
              unfold PyData.strOk at z
              rw [Array.all_eq_true'] at z
              exact of_decide_eq_true (z c' (by simpa [S, SX.S] using hc'))
            refine ev_sub (ev_andV (a := true) (ev_isiD (d := .str (S (c :: r))) (etS (ev_var rfl)) (kit_str _)) fun _ => ev_andV (a := decide ((1 : Int) ≤ ((S (c :: r)).length : Int)) && decide (((S (c :: r)).length : Int) ≤ ((8 : Nat) : Int))) (ev_chain ev_c (ev_lenS (ev_var rfl) hL) ev_c) fun _ => ev_andV (a := decide (c ∈ gr)) (b := inL sm r) (ev_sub (ev_op (ev_ixS (ev_var rfl) ev_c hL (by rw [S_tl]; exact atI_nat (i := 0) rfl)) (ev_var rfl) rv_inS) (by rw [t_great, S_tl])) fun _ => ?_) ?_
            · refine ev_sub (ev_opLL (xs := (badS sm r).map fun c => V.str ⟨#[c]⟩) (ys := []) (el_eq (el_lcS (σ := ((L2.start N__law_is_word [V.str (S (c :: r))]).set 1 (some (V.str "ABCDEFGHIJKLMNOPQRSTUVWXYZ"))).set 2 (some (V.str "abcdefghijklmnopqrstuvwxyz"))) (H := H1) (j := 3) (vs := [3]) (fun x => match x with | .str w => !decide (w.cps.toList.headD 0 ∈ ("abcdefghijklmnopqrstuvwxyz" : Str).cps.toList) | _ => false) id (ev_slS (ev_var (i := 0) rfl) (eo_some ev_c) eo_none hL) (by rw [show (some (1 : Int)) = some ((1 : Nat) : Int) from rfl, cutS_from, S_len]; rw [S_len] at hL; rw [List.length_drop]; omega) (fun _ => rfl) (fun c H1 _ _ => et_test (ev_op (ev_var (i := 3) rfl) (ev_var (i := 2) rfl) rv_niS)) (fun c H1 _ _ _ => ev_var (i := 3) rfl)) (by rw [show (some (1 : Int)) = some ((1 : Nat) : Int) from rfl, cutS_from]; exact badS_V sm _ t_small _)) el_nil fun p q H2 hp hq e2 => fun H3 e3 Q q' => ⟨_, _, .lst (sq_of (e3 _ _ hp)) (dpA_of (g := fun c => PyData.str ⟨#[c]⟩) fun c _ => .str _), .lst (sq_of (e3 _ _ hq)) .nil, sh_strs _ fun c' hc' => hlen c' (List.mem_cons_of_mem _ (List.mem_filter.mp hc').1), rfl, q' H3 (Ex.refl H3)⟩) ?_
              rw [eqv_nil]
              refine congrArg V.bl ?_
              rw [← badS_nil]
              simp
            · rw [dle1, dle8]
              unfold wd
              refine congrArg V.bl ?_
              show (true && (_ && (decide (c ∈ gr) && inL sm r))) = (_ && _ && (decide (c ∈ gr) && true) && inL sm r)
              rw [Bool.true_and, Bool.and_true, Bool.and_assoc, Bool.and_assoc, Bool.and_assoc]
        | _ => cases hs
    · cases hf
  · cases hf
end Q
namespace Q
open PySem PySem.Spec PyProof.Rows L2 Evl
variable {D : Wd} {aK cB cT fL : Addr}
section
variable {K : PySem.W.Frag} {σ : L2.St} {H : Hp} {ta te ts : TE} {t : TT} {tr : TA}
/-- over a range, the end may be -1 -/
theorem etl_R {j : Nat} {vs : List Nat} (p : Nat → Bool) (g : Nat → PyData) {n : Int} (h : EvA tr σ H [.int n]) (hn : -1 ≤ n ∧ n ≤ 40000)
    (hs : ∀ i H1 H3, i < n.toNat → Ex H H1 → Ex H1 H3 → Turn1 K H1 σ vs t te (p i) (g i) ((wipe σ vs).set j (some (.int (i : Int)))) H3) : EtL K (tLc (iRng1 tr) (gName j) t te vs) σ H (((List.range n.toNat).filter p).map g) := fun H0 e Q q => h H0 e _ fun H1 e1 => by
  refine ⟨n, rfl, by omega, by omega, fun Dl hD => ?_⟩
  refine lc_dat (K := K) (G := fun _ => True) (as := List.range n.toNat) (by rw [List.length_range]; exact walk_range) p g (fun _ _ => trivial) (by rw [List.length_range]; omega) (fun i a H2 x H3 ha e2 hY => ?_) hD fun ys H' e' h' hy => q Dl ys H' (fresh_back e1 hD) (e1.trans e') h' hy
  obtain ⟨hi, ha⟩ := List.getElem?_eq_some_iff.mp ha
  rw [List.getElem_range] at ha
  subst ha
  rw [List.length_range] at hi
  obtain ⟨rfl, rfl⟩ := hY
  show Ex H3 H3 ∧ ∀ Qg : L2.St → Hp → Prop, _ → gName j (V.int ((0 : Int) + (i : Int))) _ _ Qg
  rw [Int.zero_add]
  exact ⟨Ex.refl _, fun Qg qg => qg _ (hs i H1 _ hi (e.trans e1) e2)⟩
theorem filter_nil {α : Type} (p : α → Bool) : ∀ l : List α, decide (l.filter p = []) = l.all fun a => !p a
  | [] => rfl
  | a :: l => by
    have ih := filter_nil p l
    rw [List.all_cons, ← ih]
    cases h : p a with
    | true => rw [List.filter_cons, if_pos h]; simp
    | false => rw [List.filter_cons, if_neg (by rw [h]; decide)]; simp
theorem dom_filter {s n : Nat} {ds : List PyData} {p : PyData → Bool} (h : domD s n (.tuple ds) = true) : domD s n (.list (ds.filter p)) = true := by
  obtain ⟨m, rfl, h1, h2⟩ := domD_tup h
  exact domD_mkL (Nat.le_trans (List.length_filter_le _ _) h1) fun d hd => h2 d (List.mem_filter.mp hd).1
theorem etl_pick {ds : List PyData} {j : Nat} {vs : List Nat} (p : PyData → Bool) (h : Et K ts σ H (.tuple ds)) (hz : ds.length ≤ 1000000) (hw : ∀ x, wipe ((wipe σ vs).set j (some x)) vs = wipe σ vs) (hj : ∀ x, ((wipe σ vs).set j (some x))[j]? = some (some x))
    (ht : ∀ d x H1 H3, d ∈ ds → Ex H H1 → Ex H1 H3 → Dp K H1 x d → EvT t ((wipe σ vs).set j (some x)) H3 (p d)) : EtL K (tLc (iTup K ts) (gName j) t (tVar j) vs) σ H (ds.filter p) :=
  etl_is (etl_T p id h hz fun d x H1 H3 hd e1 e3 hx => ⟨hw x, ht d x H1 H3 hd e1 e3 hx, fun _ => .inr ⟨x, ev_var (hj x), hx⟩⟩) (List.map_id _)
theorem et_nilL : Et K (tLst tNil) σ H (.list []) := et_list (etl_lst eta_nil (by decide))
theorem sh_nil : SeqAt.shaped (.list []) = true := ints_lay []
/-- [one for one in things if t] == [], and != [] -/
theorem ev_noneT {ds : List PyData} {j : Nat} {vs : List Nat} (p : PyData → Bool) (h : Et K ts σ H (.tuple ds)) (hd : domD 1000 40 (.tuple ds) = true) (hw : ∀ x, wipe ((wipe σ vs).set j (some x)) vs = wipe σ vs) (hj : ∀ x, ((wipe σ vs).set j (some x))[j]? = some (some x))
    (ht : ∀ d x H1 H3, d ∈ ds → Ex H H1 → Ex H1 H3 → Dp K H1 x d → EvT t ((wipe σ vs).set j (some x)) H3 (p d)) : Ev (tOp (rEqD K) (tLc (iTup K ts) (gName j) t (tVar j) vs) (tLst tNil)) σ H (.bl (ds.all fun d => !p d)) := by
  obtain ⟨m, _, hl, _⟩ := domD_tup hd
  exact ev_sub (et_eqD (et_list (etl_pick p h (by omega) hw hj ht)) et_nilL (dom_shaped (dom_filter hd) (by decide)) sh_nil) (by rw [eqv_nil, filter_nil])
theorem ev_someT {ds : List PyData} {j : Nat} {vs : List Nat} (p : PyData → Bool) (h : Et K ts σ H (.tuple ds)) (hd : domD 1000 40 (.tuple ds) = true) (hw : ∀ x, wipe ((wipe σ vs).set j (some x)) vs = wipe σ vs) (hj : ∀ x, ((wipe σ vs).set j (some x))[j]? = some (some x))
    (ht : ∀ d x H1 H3, d ∈ ds → Ex H H1 → Ex H1 H3 → Dp K H1 x d → EvT t ((wipe σ vs).set j (some x)) H3 (p d)) : Ev (tOp (rNeD K) (tLc (iTup K ts) (gName j) t (tVar j) vs) (tLst tNil)) σ H (.bl (!ds.all fun d => !p d)) := by
  obtain ⟨m, _, hl, _⟩ := domD_tup hd
  exact ev_sub (et_neD (et_list (etl_pick p h (by omega) hw hj ht)) et_nilL (dom_shaped (dom_filter hd) (by decide)) sh_nil) (by rw [eqv_nil, filter_nil])
end
/-! ### the law's lots -/
def upD (ds : List PyData) (k : Nat) : Bool := decide (pnD (ds.getD (k + 1) .none) ≤ pnD (ds.getD k .none))
theorem up_all : ∀ ds : List PyData, ((List.range (ds.length - 1)).all fun k => !upD ds k) = incD ds
  | [] => rfl
  | [a] => rfl
  | a :: b :: r => by
    have ih := up_all (b :: r)
    show ((List.range (r.length + 1)).all fun k => !upD (a :: b :: r) k) = (decide (pnD a < pnD b) && incD (b :: r))
    rw [← ih, List.range_succ_eq_map, List.all_cons, List.all_map]
    have e0 : (!upD (a :: b :: r) 0) = decide (pnD a < pnD b) := by
      show (!decide (pnD b ≤ pnD a)) = _
      by_cases h : pnD b ≤ pnD a
      · rw [decide_eq_true h, decide_eq_false (by omega)]; rfl
      · rw [decide_eq_false h, decide_eq_true (by omega)]; rfl
    rw [e0]
    rfl
def fLotL : List PyData → Option PyData
  | [.tuple ts, x] => if domD 1000 40 x = true then some (.bool (isLotD ts.length x)) else none
  | _ => none
theorem fLotL_inv {ds : List PyData} {d : PyData} (h : fLotL ds = some d) : ∃ ts x, ds = [.tuple ts, x] ∧ d = .bool (isLotD ts.length x) ∧ domD 1000 40 x = true := by
  unfold fLotL at h
  split at h
  · split at h
    · cases h
      rename_i hx
      exact ⟨_, _, rfl, rfl, hx⟩
    · cases h
  · cases h
def badP (m : Nat) (d : PyData) : Bool := match d with
  | .tuple [.int a, .int b] => !decide (0 ≤ a) || (decide ((m : Int) ≤ a) || !decide (1 ≤ b))
  | _ => true
theorem badP_pair (m : Nat) : ∀ d, tupN d 2 = true → (!badP m d) = isPairD m d := fun d h => by
  obtain ⟨a, b, rfl⟩ := tupN_two h
  cases a <;> cases b <;> try rfl
  rename_i a b
  show (!(!decide (0 ≤ a) || (decide ((m : Int) ≤ a) || !decide (1 ≤ b)))) = ((decide (0 ≤ a) && decide (a < (m : Int))) && decide (1 ≤ b))
  by_cases h2 : (m : Int) ≤ a
  · rw [decide_eq_true h2, decide_eq_false (show ¬ a < (m : Int) by omega)]; simp
  · rw [decide_eq_false h2, decide_eq_true (show a < (m : Int) by omega)]; simp
abbrev s__law_is_lot : Stmt := top 42
abbrev N__law_is_lot : List Str := ["table", "thing", "one", "k"]
theorem sc__law_is_lot : FnScope N__law_is_lot ["table", "thing"] (defScope s__law_is_lot) := ⟨rfl, rfl, rfl, by decide +kernel, rfl, by decide +kernel, by decide +kernel⟩
theorem c_l_is_lot (T : Tx D aK cB cT fL) : Ca D false 2 "_law_is_lot" 2 (spDat D.K 2 fLotL) := by
  have c_l_is_number := c_l_is_number T
  obtain ⟨f, fd, F, gm⟩ := T.f42
  refine ca_mk (st := s__law_is_lot) (N := N__law_is_lot) (ps := ["table", "thing"]) false F gm sc__law_is_lot (F.bindsN fun _ _ _ _ _ _ us hl => match us, hl with | [_, _], _ => rfl) (fun vs H Q E h => h.1) fun cdv A outer s H vs Q E hG hr h => ?_
  have nd := sc__law_is_lot.nd
  have hu := hr.units
  refine ⟨_, (pss_cons (ps_if (PW.pt (pw_or (pt_not (pt_val (pe_callB call_isi (by rfl) T.n_isinstance (by decide +kernel) (pa_cons (pv 1) (pa_cons (pe_bltn (v := .ty "tuple") rfl T.n_tuple (by decide +kernel) rfl) pa_nil))))) (pw_or1 (pt_cmpR (op_neD hu) (pe_lc (own := [("one", 2)]) (g := gName 2) rfl nd (pi_tup (pv 1)) (blkOk_by (own := [("one", 2)]) (N := N__law_is_lot) (sc := defScope s__law_is_lot) (by decide +kernel)) (fun _ _ _ _ _ => pg_name (i := 2) nd rfl (Or.inl rfl)) (fun _ _ _ _ _ => pts_one (PW.pt (pw_or (pt_not (pt_val (pe_callB (isiK (K := D.K) rfl) (by rfl) T.n_isinstance (by decide +kernel) (pa_cons (pv 2) (pa_cons (pe_bltn (v := .ty "tuple") rfl T.n_tuple (by decide +kernel) rfl) pa_nil))))) (pw_or1 (pt_cmpR op_ne (pe_callB (lenK (K := D.K) rfl) (by rfl) T.n_len (by decide +kernel) (pa_cons (pv 2) pa_nil)) pe_int (nomark _)))))) (fun _ _ _ _ _ => (pv 2))) (pe_lst pa_nil) (nomark _))))) (pss_one (ps_ret pe_bl)) pss_nil)
    (pss_cons (ps_if (pt_cmpR (op_neD hu) (pe_lc (own := [("one", 2)]) (g := gName 2) rfl nd (pi_tup (pv 1)) (blkOk_by (own := [("one", 2)]) (N := N__law_is_lot) (sc := defScope s__law_is_lot) (by decide +kernel)) (fun _ _ _ _ _ => pg_name (i := 2) nd rfl (Or.inl rfl)) (fun _ _ _ _ _ => pts_one (PW.pt (pw_or (pt_not (pt_val (pe_ca c_l_is_number (fun z => nomatch z) hr (by decide) passL rfl (pa_cons (pe_ix (ixTK (K := D.K) rfl) (pv 2) pe_int (fun _ _ => rfl)) (pa_cons pe_int pa_nil))))) (pw_or (pt_cmpR op_ge (pe_ix (ixTK (K := D.K) rfl) (pv 2) pe_int (fun _ _ => rfl)) (pe_callB (lenK (K := D.K) rfl) (by rfl) T.n_len (by decide +kernel) (pa_cons (pv 0) pa_nil)) (nomark _)) (pw_or1 (pt_not (pt_val (pe_ca c_l_is_number (fun z => nomatch z) hr (by decide) passL rfl (pa_cons (pe_ix (ixTK (K := D.K) rfl) (pv 2) pe_int (fun _ _ => rfl)) (pa_cons pe_int pa_nil)))))))))) (fun _ _ _ _ _ => (pv 2))) (pe_lst pa_nil) (nomark _)) (pss_one (ps_ret pe_bl)) pss_nil)
    (pss_one (ps_ret (pe_cmpR (op_eqD hu) (pe_lc (own := [("k", 3)]) (g := gName 3) rfl nd (pi_range1 rfl T.n_range (pa_cons (pe_op op_sub (pe_callB call_lenL (by rfl) T.n_len (by decide +kernel) (pa_cons (pv 1) pa_nil)) pe_int) pa_nil)) (blkOk_by (own := [("k", 3)]) (N := N__law_is_lot) (sc := defScope s__law_is_lot) (by decide +kernel)) (fun _ _ _ _ _ => pg_name (i := 3) nd rfl (Or.inl rfl)) (fun _ _ _ _ _ => pts_one (pt_cmpR op_ge (pe_ix (ixTK (K := D.K) rfl) (pe_ix (ixTK (K := D.K) rfl) (pv 1) (pv 3) (fun _ _ => rfl)) pe_int (fun _ _ => rfl)) (pe_ix (ixTK (K := D.K) rfl) (pe_ix (ixTK (K := D.K) rfl) (pv 1) (pe_op op_add (pv 3) pe_int) (fun _ _ => rfl)) pe_int (fun _ _ => rfl)) (nomark _))) (fun _ _ _ _ _ => (pv 3))) (pe_lst pa_nil) (nomark _)))))), ?_⟩
  obtain ⟨_, ds, d, hvs, hf, q⟩ := h
  obtain ⟨ts, x, rfl, rfl, hx⟩ := fLotL_inv hf
  obtain ⟨v, w, rfl, hv, hw⟩ := dpA2 hvs
  cases hs : isTupD x with
  | false =>
    have e : isLotD ts.length x = false := by cases x <;> first | rfl | cases hs
    rw [e] at q
    exact q_when (b := !false || true) (et_or (et_not (et_B (ev_isiD (etv_var rfl hw) (by rw [kit_tup, hs])))) fun z => absurd z (by decide)) (fun _ H1 e1 => s_ret ev_c fun H2 e2 => q _ H2 (e1.trans e2) (.bl false)) fun z => absurd z (by decide)
  | true =>
    cases x with
    | tuple xs =>
      obtain ⟨_, _, hl, hin⟩ := domD_tup hx
      refine q_when (b := !true || !xs.all fun d => !(!isTupD d || !tupN d 2)) (et_or (et_not (et_B (ev_isiD (etv_var rfl hw) (kit_tup _)))) fun _ => et_test (ev_someT (fun d => !isTupD d || !tupN d 2) (etv_var rfl hw) hx (fun _ => rfl) (fun _ => rfl) fun d y H1 H3 hd e1 e3 hy => ?_)) (fun hb H1 e1 => ?_) fun hb H1 e1 => ?_
      · have hy := dp_mono e3 hy
        refine et_or (et_not (et_B (ev_isiD (etv_var rfl hy) (kit_tup _)))) fun ht => ?_
        cases d with
        | tuple es => exact et_is (et_test (ev_op (et_lenT (etv_var rfl hy)) ev_c (rv_ne rfl))) (congrArg (!·) (dec_int _ _))
        | _ => cases ht
      · have e : isLotD ts.length (.tuple xs) = false := by
          cases z : isLotD ts.length (.tuple xs) with
          | false => rfl
          | true =>
            have z' : (xs.all (isPairD ts.length) && incD xs) = true := z
            rw [Bool.and_eq_true] at z'
            have : (xs.all fun d => !(!isTupD d || !tupN d 2)) = true := List.all_eq_true.mpr fun d hd => by
              obtain ⟨p, rfl, _⟩ := isPairD_of (List.all_eq_true.mp z'.1 d hd)
              rfl
            rw [this] at hb
            cases hb
        rw [e] at q
        exact s_ret ev_c fun H2 e2 => q _ H2 (e1.trans e2) (.bl false)
      · have h2 : ∀ d ∈ xs, tupN d 2 = true := fun d hd => by
          have hb : (xs.all fun d => !(!isTupD d || !tupN d 2)) = true := by simpa using hb
          have := List.all_eq_true.mp hb d hd
          simp at this
          exact this.2
        have ix : ∀ {i : Nat} {d : PyData} {r : List PyData} {σ : L2.St} {j : Nat} {y : V} {H1 : Hp}, σ[j]? = some (some y) → Dp D.K H1 y (.tuple r) → r[i]? = some d → Et D.K (tOp (rIxT D.K) (tVar j) (tC (.int (i : Int)))) σ H1 d := fun hj hy h => et_ixT (etv_var hj hy) ev_c h
        refine q_when (b := !xs.all fun d => !badP ts.length d) (et_test (ev_someT (badP ts.length) (etv_var rfl (dp_mono e1 hw)) hx (fun _ => rfl) (fun _ => rfl) fun d y H2 H3 hd e2 e3 hy => ?_)) (fun hb H2 e2 => ?_) fun hb H2 e2 => ?_
        · have hy := dp_mono e3 hy
          obtain ⟨a, b, rfl⟩ := tupN_two (h2 d hd)
          have na : ∀ (i : Nat) (c : PyData) (n : Int), [a, b][i]? = some c → ∀ (r : Bool), fNum2 [c, .int n] = some (.bool r) → EvT (tNot (tB (tCa (spDat D.K 2 fNum2) E (tCons (tOp (rIxT D.K) (tVar 2) (tC (.int (i : Int)))) (tCons (tC (.int n)) tNil))))) ((wipe (L2.start N__law_is_lot [v, w]) [2]).set 2 (some y)) H3 (!r) := fun i c n hc r hr => et_not (et_B (ev_etB (et_ca (ds := [c, .int n]) (eta_cons (ix (i := i) rfl hy hc) (eta_cons (etI ev_c) eta_nil)) rfl hr)))
          have n0 := na 0 a 0 rfl
          have n1 := na 1 b 1 rfl
          cases a with
          | int i =>
            by_cases h0 : 0 ≤ i
            · have n0 := n0 true (by show some (PyData.bool (true && decide (0 ≤ i))) = _; rw [decide_eq_true h0]; rfl)
              cases b with
              | int k => exact et_is (et_or n0 fun _ => et_or (et_test (ev_op (ev_etI (ix (i := 0) rfl hy rfl)) (et_lenT (etv_var rfl (dp_mono (((e1.trans e2)).trans e3) hv))) rv_I0)) fun _ => n1 (decide (1 ≤ k)) rfl) (by show (!true || _) = (!decide (0 ≤ i) || _); rw [decide_eq_true h0])
              | _ => exact et_is (et_or n0 fun _ => et_or (et_test (ev_op (ev_etI (ix (i := 0) rfl hy rfl)) (et_lenT (etv_var rfl (dp_mono (((e1.trans e2)).trans e3) hv))) rv_I0)) fun _ => n1 false rfl) (by show (!true || (_ || !false)) = true; simp)
            · have n0 := n0 false (by show some (PyData.bool (true && decide (0 ≤ i))) = _; rw [decide_eq_false h0]; rfl)
              refine et_is (a := !false || true) (et_or n0 fun z => absurd z (by decide)) ?_
              cases b <;> first | rfl | (show _ = (!decide (0 ≤ i) || _); rw [decide_eq_false h0]; rfl)
          | _ => exact et_is (a := !false || true) (et_or (n0 false rfl) fun z => absurd z (by decide)) rfl
        · have e : isLotD ts.length (.tuple xs) = false := by
            show (xs.all (isPairD ts.length) && incD xs) = false
            have z : (xs.all fun d => !badP ts.length d) = false := by simpa using hb
            have e : (xs.all fun d => !badP ts.length d) = xs.all (isPairD ts.length) := by
              rw [Bool.eq_iff_iff, List.all_eq_true, List.all_eq_true]
              exact ⟨fun h d hd => by rw [← badP_pair _ d (h2 d hd)]; exact h d hd, fun h d hd => by rw [badP_pair _ d (h2 d hd)]; exact h d hd⟩
            rw [← e, z]
            rfl
          rw [e] at q
          exact s_ret ev_c fun H3 e3 => q _ H3 ((e1.trans e2).trans e3) (.bl false)
        · have hall : xs.all (isPairD ts.length) = true := by
            have z : (xs.all fun d => !badP ts.length d) = true := by simpa using hb
            exact List.all_eq_true.mpr fun d hd => by rw [← badP_pair _ d (h2 d hd)]; exact List.all_eq_true.mp z d hd
          have e : isLotD ts.length (.tuple xs) = incD xs := by
            show (xs.all (isPairD ts.length) && incD xs) = incD xs
            rw [hall, Bool.true_and]
          rw [e, ← up_all] at q
          have e12 := e1.trans e2
          refine s_ret (v := .bl _) (ev_sub (et_eqD (et_list (etl_R (j := 3) (vs := [3]) (n := (xs.length : Int) - 1) (upD xs) (fun k => .int (k : Int)) (ea_cons (ev_op (et_lenT (etv_var rfl (dp_mono e12 hw))) ev_c rv_I0) ea_nil) (by omega) fun i H3 H4 hi e3 e4 => ⟨rfl, ?_, fun _ => .inl ⟨rfl, etI (ev_var rfl)⟩⟩)) et_nilL (ints_lay _) sh_nil) ?_) fun H2 e2 => q _ H2 (e12.trans e2) (.bl _)
          · have hi1 : i + 1 < xs.length := by omega
            have gp : ∀ k, k < xs.length → ∃ p : Nat × Int, xs[k]? = some (pairD p) := fun k hk => by
              obtain ⟨p, hp, _⟩ := isPairD_of (List.all_eq_true.mp hall xs[k] (List.getElem_mem hk))
              exact ⟨p, by rw [List.getElem?_eq_getElem hk, hp]⟩
            obtain ⟨p1, g1⟩ := gp i (by omega)
            obtain ⟨p2, g2⟩ := gp (i + 1) hi1
            have hw4 := dp_mono ((e12.trans e3).trans e4) hw
            refine et_is (et_test (ev_op (ev_etI (et_ixT (i := 0) (et_ixT (i := i) (etv_var rfl hw4) (ev_var rfl) g1) ev_c rfl)) (ev_etI (et_ixT (i := 0) (et_ixT (i := i + 1) (etv_var rfl hw4) (ev_op (ev_var rfl) ev_c rv_I0) g2) ev_c rfl)) rv_I0)) ?_
            unfold upD
            rw [List.getD_eq_getElem?_getD, List.getD_eq_getElem?_getD, g1, g2]
            rfl
          · rw [eqv_nil, ← filter_nil, show ((xs.length : Int) - 1).toNat = xs.length - 1 by omega]
            refine congrArg V.bl (decide_eq_decide.mpr ?_)
            rw [List.map_eq_nil_iff]
    | _ => cases hs
end Q
namespace Q
open PySem PySem.Spec PyProof.Rows L2 Evl
variable {D : Wd} {aK cB cT fL : Addr}
theorem eqvA_nil (r : List PyData) : PyData.eqvAll r [] = decide (r = []) := by
  cases r <;> simp [PyData.eqvAll]
theorem eqvT_nil (r : List PyData) : PyData.eqv (.tuple r) (.tuple []) = decide (r = []) := by
  rw [PyData.eqv, eqvA_nil]
theorem eqv_end (k : Str) (r : List PyData) : PyData.eqv (.tuple (.str k :: r)) (.tuple [.str "end"]) = (decide (k = "end") && decide (r = [])) := by
  rw [PyData.eqv, PyData.eqvAll, eqvA_nil]
  by_cases h : k = "end"
  · subst h
    simp [PyData.eqv]
  · rw [decide_eq_false h]
    simp [PyData.eqv, h]
theorem sh_tnil : SeqAt.shaped (.tuple []) = true := by decide
theorem sh_end : SeqAt.shaped (.tuple [.str "end"]) = true := by decide +kernel
def fUseL : List PyData → Option PyData
  | [.tuple ts, x] => if domD 1000 40 x = true then some (.bool (isUseD ts.length x)) else none
  | _ => none
theorem fUseL_inv {ds : List PyData} {d : PyData} (h : fUseL ds = some d) : ∃ ts x, ds = [.tuple ts, x] ∧ d = .bool (isUseD ts.length x) ∧ domD 1000 40 x = true := by
  unfold fUseL at h
  split at h
  · split at h
    · cases h
      rename_i hx
      exact ⟨_, _, rfl, rfl, hx⟩
    · cases h
  · cases h
theorem fLotL_mk {ts : List PyData} {x : PyData} (h : domD 1000 40 x = true) : fLotL [.tuple ts, x] = some (.bool (isLotD ts.length x)) := if_pos h
theorem fWordL_mk {x : PyData} (h : domD 1000 40 x = true) : fWordL [x] = some (.bool (isWordD x)) := if_pos h
theorem lenI2 (n k : Nat) : decide ((n : Int) = (k : Int)) = decide (n = k) := decide_eq_decide.mpr (by omega)
theorem use_num' {m : Nat} {r : List PyData} : isUseD m (.tuple (.str "num" :: r)) = (decide (r.length + 1 = 2) && isNumD (r.getD 0 .none)) := by
  show isRestD m "num" r = _
  unfold isRestD
  rw [if_pos rfl]
  match r with
  | [] => rfl
  | [a] => cases a <;> rfl
  | a :: b :: r =>
    rw [decide_eq_false (by simp), Bool.false_and]
    cases a <;> rfl
theorem use_con' {m : Nat} {r : List PyData} : isUseD m (.tuple (.str "con" :: r)) = (decide (r.length + 1 = 3) && (isWordD (r.getD 0 .none) && isPartsD m (r.getD 1 .none))) := by
  match r with
  | [] => rfl
  | [a] => cases a <;> rfl
  | [a, b] =>
    rw [use_con]
    rfl
  | a :: b :: c :: r =>
    rw [decide_eq_false (by simp), Bool.false_and]
    show isRestD m "con" _ = _
    unfold isRestD
    rw [if_neg (by decide), if_neg (by decide), if_pos rfl]
    cases a <;> first | rfl | (cases b <;> rfl)
theorem use_fun' {m : Nat} {r : List PyData} : isUseD m (.tuple (.str "fun" :: r)) = (decide (r.length + 1 = 3) && (isLotD m (r.getD 0 .none) && isLotD m (r.getD 1 .none))) := by
  match r with
  | [] => rfl
  | [a] => rfl
  | [a, b] => rfl
  | a :: b :: c :: r =>
    rw [decide_eq_false (by simp), Bool.false_and]
    show isRestD m "fun" _ = _
    unfold isRestD
    rw [if_neg (by decide), if_neg (by decide), if_neg (by decide), if_pos rfl]
theorem use_end' {m : Nat} {k : Str} {r : List PyData} (h1 : k ≠ "num") (h2 : k ≠ "con") (h3 : k ≠ "fun") : isUseD m (.tuple (.str k :: r)) = (decide (k = "end") && decide (r = [])) := by
  show isRestD m k r = _
  unfold isRestD
  rw [if_neg h1, if_neg h2, if_neg h3]
  by_cases h : k = "end"
  · rw [if_pos h, decide_eq_true h]
    cases r <;> rfl
  · rw [if_neg h, decide_eq_false h]
    rfl
abbrev s__law_is_use : Stmt := top 44
abbrev N__law_is_use : List Str := ["ahead", "thing", "lot"]
theorem sc__law_is_use : FnScope N__law_is_use ["ahead", "thing"] (defScope s__law_is_use) := ⟨rfl, rfl, rfl, by decide +kernel, rfl, by decide +kernel, by decide +kernel⟩
theorem c_l_is_use (T : Tx D aK cB cT fL) : Ca D false 3 "_law_is_use" 2 (spDat D.K 2 fUseL) := by
  have c_l_is_word := c_l_is_word T
  have c_l_is_lot := c_l_is_lot T
  obtain ⟨f, fd, F, gm⟩ := T.f44
  refine ca_mk (st := s__law_is_use) (N := N__law_is_use) (ps := ["ahead", "thing"]) false F gm sc__law_is_use (F.bindsN fun _ _ _ _ _ _ us hl => match us, hl with | [_, _], _ => rfl) (fun vs H Q E h => h.1) fun cdv A outer s H vs Q E hG hr h => ?_
  have nd := sc__law_is_use.nd
  have hu := hr.units
  refine ⟨_, (pss_cons (ps_if (PW.pt (pw_or (pt_not (pt_val (pe_callB call_isi (by rfl) T.n_isinstance (by decide +kernel) (pa_cons (pv 1) (pa_cons (pe_bltn (v := .ty "tuple") rfl T.n_tuple (by decide +kernel) rfl) pa_nil))))) (pw_or (pt_cmpR (op_eqD hu) (pv 1) (pe_tup pa_nil) (nomark _)) (pw_or1 (pt_not (pt_val (pe_callB call_isi (by rfl) T.n_isinstance (by decide +kernel) (pa_cons (pe_ix ix_tup (pv 1) pe_int (fun _ _ => rfl)) (pa_cons (pe_bltn (v := .ty "str") rfl T.n_str (by decide +kernel) rfl) pa_nil))))))))) (pss_one (ps_ret pe_bl)) pss_nil)
    (pss_cons (ps_if (pt_cmpR op_eq (pe_ix ix_tup (pv 1) pe_int (fun _ _ => rfl)) pe_str (nomark _)) (pss_one (ps_ret (pe_and (pe_cmpR op_eq (pe_callB call_lenL (by rfl) T.n_len (by decide +kernel) (pa_cons (pv 1) pa_nil)) pe_int (nomark _)) (pe_and (pe_callB call_isi (by rfl) T.n_isinstance (by decide +kernel) (pa_cons (pe_ix ix_tup (pv 1) pe_int (fun _ _ => rfl)) (pa_cons (pe_bltn (v := .ty "int") rfl T.n_int (by decide +kernel) rfl) pa_nil))) (pe_one (pe_not (pe_callB call_isi (by rfl) T.n_isinstance (by decide +kernel) (pa_cons (pe_ix ix_tup (pv 1) pe_int (fun _ _ => rfl)) (pa_cons (pe_bltn (v := .ty "bool") rfl T.n_bool (by decide +kernel) rfl) pa_nil))))))))) pss_nil)
    (pss_cons (ps_if (pt_cmpR op_eq (pe_ix ix_tup (pv 1) pe_int (fun _ _ => rfl)) pe_str (nomark _)) (pss_cons (ps_if (PW.pt (pw_or (pt_cmpR op_ne (pe_callB call_lenL (by rfl) T.n_len (by decide +kernel) (pa_cons (pv 1) pa_nil)) pe_int (nomark _)) (pw_or (pt_not (pt_val (pe_ca c_l_is_word (fun z => nomatch z) hr (by decide) passL rfl (pa_cons (pe_ix ix_tup (pv 1) pe_int (fun _ _ => rfl)) pa_nil)))) (pw_or (pt_not (pt_val (pe_callB call_isi (by rfl) T.n_isinstance (by decide +kernel) (pa_cons (pe_ix ix_tup (pv 1) pe_int (fun _ _ => rfl)) (pa_cons (pe_bltn (v := .ty "tuple") rfl T.n_tuple (by decide +kernel) rfl) pa_nil))))) (pw_or1 (pt_cmpR op_gt (pe_callB call_lenL (by rfl) T.n_len (by decide +kernel) (pa_cons (pe_ix ix_tup (pv 1) pe_int (fun _ _ => rfl)) pa_nil)) pe_int (nomark _))))))) (pss_one (ps_ret pe_bl)) pss_nil)
      (pss_one (ps_ret (pe_cmpR (op_eqD hu) (pe_lc (own := [("lot", 2)]) (g := gName 2) rfl nd (pi_tup (pe_ix ix_tup (pv 1) pe_int (fun _ _ => rfl))) (blkOk_by (own := [("lot", 2)]) (N := N__law_is_use) (sc := defScope s__law_is_use) (by decide +kernel)) (fun _ _ _ _ _ => pg_name (i := 2) nd rfl (Or.inl rfl)) (fun _ _ _ _ _ => pts_one (pt_not (pt_val (pe_ca c_l_is_lot (fun z => nomatch z) hr (by decide) passL rfl (pa_cons (pv 0) (pa_cons (pv 2) pa_nil)))))) (fun _ _ _ _ _ => (pv 2))) (pe_lst pa_nil) (nomark _))))) pss_nil)
    (pss_cons (ps_if (pt_cmpR op_eq (pe_ix ix_tup (pv 1) pe_int (fun _ _ => rfl)) pe_str (nomark _)) (pss_one (ps_ret (pe_and (pe_cmpR op_eq (pe_callB call_lenL (by rfl) T.n_len (by decide +kernel) (pa_cons (pv 1) pa_nil)) pe_int (nomark _)) (pe_and (pe_ca c_l_is_lot (fun z => nomatch z) hr (by decide) passL rfl (pa_cons (pv 0) (pa_cons (pe_ix ix_tup (pv 1) pe_int (fun _ _ => rfl)) pa_nil))) (pe_one (pe_ca c_l_is_lot (fun z => nomatch z) hr (by decide) passL rfl (pa_cons (pv 0) (pa_cons (pe_ix ix_tup (pv 1) pe_int (fun _ _ => rfl)) pa_nil)))))))) pss_nil)
    (pss_one (ps_ret (pe_cmpR (op_eqD hu) (pv 1) (pe_tup (pa_cons pe_str pa_nil)) (nomark _)))))))), ?_⟩
  obtain ⟨_, ds, d, hvs, hf, q⟩ := h
  obtain ⟨ts, x, rfl, rfl, hx⟩ := fUseL_inv hf
  obtain ⟨v, w0, rfl, hv, hw⟩ := dpA2 hvs
  cases hs : isTupD x with
  | false =>
    have e : isUseD ts.length x = false := by cases x <;> first | rfl | cases hs
    rw [e] at q
    exact q_when (b := !false || true) (et_or (et_not (et_B (ev_isiD (etv_var rfl hw) (by rw [kit_tup, hs])))) fun z => absurd z (by decide)) (fun _ H1 e1 => s_ret ev_c fun H2 e2 => q _ H2 (e1.trans e2) (.bl false)) fun z => absurd z (by decide)
  | true =>
    cases x with
    | tuple xs =>
      have ix : ∀ {i : Nat} {d : PyData} {H1 : Hp}, Ex H H1 → xs[i]? = some d → Et D.K (tOp (rIxT D.K) (tVar 1) (tC (.int (i : Int)))) (L2.start N__law_is_use [v, w0]) H1 d := fun e1 h => et_ixT (etv_var rfl (dp_mono e1 hw)) ev_c h
      have dom : ∀ {d : PyData}, d ∈ xs → domD 1000 39 d = true := fun hd => by
        obtain ⟨k, e, _, h2⟩ := domD_tup hx
        cases e
        exact h2 _ hd
      have dom40 : ∀ {d : PyData}, d ∈ xs → domD 1000 40 d = true := fun hd => domD_mono (Nat.le_refl _) (by decide) (dom hd)
      have empty : ∀ {H1 : Hp}, Ex H H1 → EvT (tTest (tOp (rEqD D.K) (tVar 1) (tTup tNil))) (L2.start N__law_is_use [v, w0]) H1 (decide (xs = [])) := fun e1 => et_is (et_test (et_eqD (etv_var rfl (dp_mono e1 hw)) (et_tup eta_nil (by decide)) (dom_shaped hx (by decide)) sh_tnil)) (eqvT_nil xs)
      have tupT := et_not (et_B (ev_isiD (etv_var (K := D.K) (σ := L2.start N__law_is_use [v, w0]) (i := 1) rfl hw) (kit_tup (.tuple xs))))
      cases xs with
      | nil => exact q_when (b := !true || (true || true)) (et_or tupT fun _ => et_or (empty (Ex.refl H)) fun z => absurd z (by decide)) (fun _ H1 e1 => s_ret ev_c fun H2 e2 => q _ H2 (e1.trans e2) (.bl false)) fun z => absurd z (by decide)
      | cons c r =>
        cases hc : isStrD c with
        | false =>
          have e : isUseD ts.length (.tuple (c :: r)) = false := by cases c <;> first | rfl | cases hc
          rw [e] at q
          exact q_when (b := !true || (false || !false)) (et_or tupT fun _ => et_or (empty (Ex.refl H)) fun _ => et_not (et_B (ev_isiD (ix (i := 0) (Ex.refl H) rfl) (by rw [kit_str, hc])))) (fun _ H1 e1 => s_ret ev_c fun H2 e2 => q _ H2 (e1.trans e2) (.bl false)) fun z => absurd z (by decide)
        | true =>
          cases c with
          | str k =>
            refine q_when (b := !true || (false || !true)) (et_or tupT fun _ => et_or (empty (Ex.refl H)) fun _ => et_not (et_B (ev_isiD (ix (i := 0) (Ex.refl H) rfl) (kit_str _)))) (fun z => absurd z (by decide)) fun _ H1 e1 => ?_
            have test : ∀ {H1 : Hp} (w : Str), Ex H H1 → EvT (tTest (tOp rEq (tOp (rIxT D.K) (tVar 1) (tC (.int 0))) (tC (.str w)))) (L2.start N__law_is_use [v, w0]) H1 (decide (k = w)) := fun w e1 => et_test (ev_sub (ev_op (ev_etS (ix (i := 0) e1 rfl)) ev_c (rv_eq rfl)) (congrArg V.bl (dec_str _ _)))
            have len : ∀ {H1 : Hp} (n : Nat), Ex H H1 → Ev (tOp rEq (tCB (rLenS D.K) (tCons (tVar 1) tNil)) (tC (.int (n : Int)))) (L2.start N__law_is_use [v, w0]) H1 (.bl (decide (r.length + 1 = n))) := fun n e1 => ev_sub (ev_op (et_lenT (etv_var rfl (dp_mono e1 hw))) ev_c (rv_eq rfl)) (congrArg V.bl (by rw [dec_int, List.length_cons, lenI2]))
            have get : ∀ (i : Nat), i < r.length → ∀ {H1 : Hp}, Ex H H1 → Et D.K (tOp (rIxT D.K) (tVar 1) (tC (.int ((i + 1 : Nat) : Int)))) (L2.start N__law_is_use [v, w0]) H1 (r.getD i .none) := fun i hi H1 e1 => ix (i := i + 1) e1 (by rw [List.getElem?_cons_succ, List.getD_eq_getElem?_getD, List.getElem?_eq_getElem hi]; rfl)
            have mem : ∀ (i : Nat), i < r.length → r.getD i .none ∈ PyData.str k :: r := fun i hi => by
              rw [List.getD_eq_getElem?_getD, List.getElem?_eq_getElem hi]
              exact List.mem_cons_of_mem _ (List.getElem_mem hi)
            refine q_when (test "num" e1) (fun hk H2 e2 => ?_) fun hk H2 e2 => ?_
            · have hk := of_decide_eq_true hk
              subst hk
              rw [use_num'] at q
              have e12 := e1.trans e2
              refine s_ret (ev_andV (len 2 e12) fun hl => ?_) fun H3 e3 => q _ H3 (e12.trans e3) (.bl _)
              have hl := of_decide_eq_true hl
              rw [isNumD_eq]
              exact ev_andV (ev_isiD (get 0 (by omega) e12) (kit_int _)) fun _ => ev_notV (ev_isiD (get 0 (by omega) e12) (kit_bool _))
            refine q_when (test "con" (e1.trans e2)) (fun hk H3 e3 => ?_) fun hk2 H3 e3 => ?_
            · have hk := of_decide_eq_true hk
              subst hk
              have e13 := (e1.trans e2).trans e3
              rw [use_con'] at q
              have no : ∀ {H4 : Hp}, Ex H H4 → (decide (r.length + 1 = 3) && (isWordD (r.getD 0 .none) && isPartsD ts.length (r.getD 1 .none))) = false → tRet (tC (.bl false)) { nx := fun _ H' => Q .non H', rt := Q } (L2.start N__law_is_use [v, w0]) H4 := fun e4 z => by
                rw [z] at q
                exact s_ret ev_c fun H5 e5 => q _ H5 (e4.trans e5) (.bl false)
              have lenN : EvT (tTest (tOp rNe (tCB (rLenS D.K) (tCons (tVar 1) tNil)) (tC (.int 3)))) (L2.start N__law_is_use [v, w0]) H3 (!decide (r.length + 1 = 3)) := et_is (et_test (ev_op (et_lenT (etv_var rfl (dp_mono e13 hw))) ev_c (rv_ne rfl))) (congrArg (!·) (by rw [dec_int, List.length_cons]; exact lenI2 (r.length + 1) 3))
              by_cases hl : r.length + 1 = 3
              · have wv : EvT (tNot (tB (tCa (spDat D.K 1 fWordL) E (tCons (tOp (rIxT D.K) (tVar 1) (tC (.int ((0 + 1 : Nat) : Int)))) tNil)))) (L2.start N__law_is_use [v, w0]) H3 (!isWordD (r.getD 0 .none)) := et_not (et_B (ev_etB (et_ca (ds := [r.getD 0 .none]) (eta_cons (get 0 (by omega) e13) eta_nil) rfl (fWordL_mk (dom40 (mem 0 (by omega)))))))
                rw [decide_eq_true hl] at lenN no q
                cases hwd : isWordD (r.getD 0 .none) with
                | false =>
                  rw [hwd] at wv no
                  exact q_when (b := !true || (!false || true)) (et_or lenN fun _ => et_or wv fun z => absurd z (by decide)) (fun _ H4 e4 => no (e13.trans e4) rfl) fun z => absurd z (by decide)
                | true =>
                  rw [hwd] at wv no q
                  have g1 : ∀ {H1 : Hp}, Ex H H1 → Et D.K (tOp (rIxT D.K) (tVar 1) (tC (.int ((1 + 1 : Nat) : Int)))) (L2.start N__law_is_use [v, w0]) H1 (r.getD 1 .none) := get 1 (by omega)
                  have m1 := mem 1 (by omega)
                  generalize r.getD 1 .none = b at g1 m1 no q
                  have tv := ev_isiD (g1 e13) (kit_tup b)
                  cases ht : isTupD b with
                  | false =>
                    rw [ht] at tv
                    exact q_when (b := !true || (!true || (!false || true))) (et_or lenN fun _ => et_or wv fun _ => et_or (et_not (et_B tv)) fun z => absurd z (by decide)) (fun _ H4 e4 => no (e13.trans e4) (by cases b <;> first | rfl | cases ht)) fun z => absurd z (by decide)
                  | true =>
                    cases b with
                    | tuple ls =>
                      have dl := dom40 m1
                      obtain ⟨_, _, _, dls⟩ := domD_tup (dom m1)
                      refine q_when (b := !true || (!true || (!true || decide ((4 : Int) < (ls.length : Int))))) (et_or lenN fun _ => et_or wv fun _ => et_or (et_not (et_B tv)) fun _ => et_test (ev_op (et_lenT (g1 e13)) ev_c rv_I0)) (fun hb4 H4 e4 => no (e13.trans e4) ?_) fun hb4 H4 e4 => ?_
                      · have h4 : (4 : Int) < (ls.length : Int) := of_decide_eq_true (by simpa using hb4)
                        show (true && (true && (decide (ls.length ≤ 4) && _))) = false
                        rw [decide_eq_false (by omega)]
                        rfl
                      · have h4 : ¬ (4 : Int) < (ls.length : Int) := of_decide_eq_false (by simpa using hb4)
                        have e14 := e13.trans e4
                        refine s_ret (ev_sub (ev_noneT (fun d => !isLotD ts.length d) (g1 e14) dl (fun _ => rfl) (fun _ => rfl) fun d y H5 H6 hd e5 e6 hy => et_not (et_B (ev_etB (et_ca (ds := [.tuple ts, d]) (eta_cons (etv_var rfl (dp_mono ((e14.trans e5).trans e6) hv)) (eta_cons (etv_var rfl (dp_mono e6 hy)) eta_nil)) rfl (fLotL_mk (domD_mono (Nat.le_refl _) (by omega) (dls d hd))))))) ?_) fun H5 e5 => q _ H5 (e14.trans e5) (.bl _)
                        show V.bl _ = V.bl (true && (true && (decide (ls.length ≤ 4) && ls.all (isLotD ts.length))))
                        rw [decide_eq_true (by omega)]
                        simp
                    | _ => cases ht
              · rw [decide_eq_false hl] at lenN no
                exact q_when (b := !false || true) (et_or lenN fun z => absurd z (by decide)) (fun _ H4 e4 => no (e13.trans e4) rfl) fun z => absurd z (by decide)
            refine q_when (test "fun" ((e1.trans e2).trans e3)) (fun hk H4 e4 => ?_) fun hk3 H4 e4 => ?_
            · have hk := of_decide_eq_true hk
              subst hk
              have e14 := ((e1.trans e2).trans e3).trans e4
              rw [use_fun'] at q
              refine s_ret (ev_andV (len 3 e14) fun hl => ?_) fun H5 e5 => q _ H5 (e14.trans e5) (.bl _)
              have hl := of_decide_eq_true hl
              have lot : ∀ (i : Nat), i < r.length → Ev (tCa (spDat D.K 2 fLotL) E (tCons (tVar 0) (tCons (tOp (rIxT D.K) (tVar 1) (tC (.int ((i + 1 : Nat) : Int)))) tNil))) (L2.start N__law_is_use [v, w0]) H4 (.bl (isLotD ts.length (r.getD i .none))) := fun i hi => ev_etB (et_ca (ds := [.tuple ts, r.getD i .none]) (eta_cons (etv_var rfl (dp_mono e14 hv)) (eta_cons (get i hi e14) eta_nil)) rfl (fLotL_mk (dom40 (mem i hi))))
              exact ev_andV (lot 0 (by omega)) fun _ => lot 1 (by omega)
            have e14 := ((e1.trans e2).trans e3).trans e4
            rw [use_end' (of_decide_eq_false hk) (of_decide_eq_false hk2) (of_decide_eq_false hk3)] at q
            exact s_ret (ev_sub (et_eqD (etv_var rfl (dp_mono e14 hw)) (et_tup (eta_cons (etS ev_c) eta_nil) (by simp)) (dom_shaped hx (by decide)) sh_end) (congrArg V.bl (eqv_end k r))) fun H5 e5 => q _ H5 (e14.trans e5) (.bl _)
          | _ => cases hc
    | _ => cases hs
end Q
namespace Q
open PySem PySem.Spec PyProof.Rows L2 Evl
variable {D : Wd} {aK cB cT fL : Addr}
/-- a tuple with its things, at an address -/
structure TupAt (K : PySem.W.Frag) (H : Hp) (a : Addr) (xs : List V) (ds : List PyData) : Prop where
  sq : SqT K H a xs
  all : DpAll K H xs ds
theorem TupAt.mono {K : PySem.W.Frag} {H H' : Hp} {a : Addr} {xs : List V} {ds : List PyData} (h : TupAt K H a xs ds) (e : Ex H H') : TupAt K H' a xs ds := ⟨ex_t e h.sq, dpA_mono e h.all⟩
theorem TupAt.upd {K : PySem.W.Frag} {H : Hp} {a p : Addr} {xs ws ws' : List V} {ds : List PyData} (h : TupAt K H a xs ds) (hn : noLA ds = true) (hp : H p = some (.lst ws)) : TupAt K (L2.upd H p (.lst ws')) a xs ds := by
  refine ⟨?_, dpA_upd hp hn h.all⟩
  rcases h.sq with (z | ⟨o, z⟩) | z
  · exact .inl (.inl (by rw [upd_ne (ne_of z hp (by simp))]; exact z))
  · exact .inl (.inr ⟨o, by rw [upd_ne (ne_of z hp (by simp))]; exact z⟩)
  · exact .inr z
section
variable {K : PySem.W.Frag} {σ : L2.St} {H : Hp} {Dn : Ends} {ts tl te ta : TE} {g : TG} {tu tz : TS} {ds : List PyData}
theorem q_forD (h : Et K ts σ H (.tuple ds)) (Pv : Nat → L2.St → Hp → Prop) (h0 : ∀ H1, Ex H H1 → Pv 0 σ H1)
    (hs : ∀ a xs i d x σ' H', ds[i]? = some d → TupAt K H' a xs ds → Dp K H' x d → Pv i σ' H' → g x σ' H' fun σ2 H2 => tu { Dn with nx := fun σ3 H3 => Pv (i + 1) σ3 H3 ∧ TupAt K H3 a xs ds, ct := fun σ3 H3 => Pv (i + 1) σ3 H3 ∧ TupAt K H3 a xs ds, bk := tz Dn } σ2 H2)
    (hd : ∀ σ' H', Pv ds.length σ' H' → tz Dn σ' H') : tSeq (tFor (iTup K ts) g tu) tz Dn σ H := h H (Ex.refl H) _ fun v H1 e1 hv => by
  cases hv with
  | @tup a xs _ hs1 ha =>
    have hl : xs.length = ds.length := dpA_len ha
    exact (q_forT (tl := tC (.ref a)) (H := H1) (xs := xs) ev_c hs1 (fun i σ' H' => Pv i σ' H' ∧ TupAt K H' a xs ds) (fun H2 e2 => ⟨h0 H2 (e1.trans e2), ex_t e2 hs1, dpA_mono e2 ha⟩) (fun _ _ _ _ z => z.2.sq) (fun i x σ' H' hx z => by
      obtain ⟨d, hd, hdp⟩ := dpA_getV z.2.all hx
      exact hs a xs i d x σ' H' hd z.2 hdp z.1) (fun σ' H' z => hd σ' H' (hl ▸ z.1)) : tSeq (tFor (iTup K (tC (.ref a))) g tu) tz Dn σ H1)
theorem q_forS2 {H0 : Hp} {a : Addr} {xs : List V} (h : Ev tl σ H (.ref a)) (e0 : Ex H0 H) (hx : SqL K H0 a xs ∨ SqT K H0 a xs) (Pv : Nat → L2.St → Hp → Prop) (h0 : ∀ H1, Ex H H1 → Pv 0 σ H1) (hl : ∀ i σ' H', Pv i σ' H' → Ex H0 H')
    (hs : ∀ i x σ' H', xs[i]? = some x → Pv i σ' H' → g x σ' H' fun σ2 H2 => tu { Dn with nx := Pv (i + 1), ct := Pv (i + 1), bk := tz Dn } σ2 H2) (hd : ∀ σ' H', Pv xs.length σ' H' → tz Dn σ' H') : tSeq (tFor (iSeq2 K tl) g tu) tz Dn σ H := by
  rcases hx with hx | hx
  · exact Or.inl (q_forL h (ex_l e0 hx) Pv h0 (fun i σ' H' _ z => ex_l (hl i σ' H' z) hx) hs hd)
  · exact Or.inr (q_forT h (ex_t e0 hx) Pv h0 (fun i σ' H' _ z => ex_t (hl i σ' H' z) hx) hs hd)
theorem natsV_ints (ns : List Nat) : natsV ns = (ns.map Int.ofNat).map V.int := by
  unfold natsV
  rw [List.map_map]
  rfl
theorem dpA_natsV {vs : List V} {ns : List Nat} (h : DpAll K H vs (ns.map fun n : Nat => PyData.int (n : Int))) : vs = natsV ns := by rw [dpA_ints h, natsV_ints]
/-- what is asked of the heights below: one more for each -/
def ups (hs : List Nat) (l : Lot) : List Nat := l.map fun p => hs.getD p.1 0 + 1
theorem ups_app (hs : List Nat) (a b : Lot) : ups hs (a ++ b) = ups hs a ++ ups hs b := List.map_append
theorem mx_hgt (hs : List Nat) (u : Use) : mxN (0 :: ups hs u.lots.flatten) = hgt hs u := by
  have e : ups hs u.lots.flatten = (belowU hs u).map (· + 1) := by
    unfold ups belowU
    rw [List.map_map]
    rfl
  rw [e]
  unfold hgt
  show max 0 (mxN _) = _
  rw [Nat.zero_max]
  generalize belowU hs u = l
  have key : ∀ l : List Nat, l ≠ [] → mxN (l.map (· + 1)) = 1 + mxN l := by
    intro l
    induction l with
    | nil => intro h; exact absurd rfl h
    | cons a l ih =>
      intro _
      show max (a + 1) (mxN (l.map (· + 1))) = 1 + max a (mxN l)
      by_cases hl : l = []
      · subst hl
        show max (a + 1) 0 = 1 + max a 0
        omega
      · rw [ih hl]
        omega
  by_cases hl : l = []
  · rw [if_pos hl, hl]
    rfl
  · rw [if_neg hl, key l hl]
/-- below = []; for lot in lots: below.extend([heights[number] + 1 for number, count in lot]) -/
theorem q_below {u : Use} {hs : List Nat} {p : Addr} {x0 x2 x3 x4 x5 x6 : Option V} {vs : List Nat} (hvs : vs = [5, 6]) (hp : H p = some (.lst (natsV hs))) (hok : OkUse hs.length u) (hl : hs.length ≤ 1000)
    (ht : ∀ q H1, Ex H H1 → Et K tl [x0, some (.ref p), x2, some (.ref q), x4, x5, x6] H1 (.tuple (u.lots.map lotD)))
    (k : ∀ q y4 y5 y6 H1, Ex H H1 → H1 q = some (.lst (natsV (ups hs u.lots.flatten))) → H q = none → tz Dn [x0, some (.ref p), x2, some (.ref q), y4, y5, y6] H1) :
    tSeq (tAsg (tLst tNil) (gName 3)) (tSeq (tFor (iTup K tl) (gName 4) (tDrop (tBM K "list" rExtend (tVar 3) (tCons (tLc (iTup K (tVar 4)) (gTup K 2 (gCons (gName 5) (gCons (gName 6) gNil))) tYes (tOp (rI0 fun i j => .int (i + j)) (tOp (rIxL K) (tVar 1) (tVar 5)) (tC (.int 1))) vs) tNil)))) tz) Dn [x0, some (.ref p), x2, x3, x4, x5, x6] H := by
  subst hvs
  have hflat := hok.flat
  have hnL : noLA (u.lots.map lotD) = true := by
    have : ∀ d ∈ u.lots.map lotD, noL d = true := fun d hd => by
      obtain ⟨l, _, rfl⟩ := List.mem_map.mp hd
      exact noL_pl _ (Nat.lt_of_le_of_lt (dep_lot l) (by decide)) (pl_lot l)
    generalize u.lots.map lotD = ds at this
    induction ds with
    | nil => rfl
    | cons d ds ih =>
      show (noL d && noLA ds) = true
      rw [this d (List.mem_cons_self ..), ih fun e he => this e (List.mem_cons_of_mem _ he)]
      rfl
  refine q_asgL el_nil fun q H1 hq e1 h1 => ?_
  have hpq : p ≠ q := fun z => by rw [z, hq] at hp; cases hp
  refine q_forD (ht q H1 e1) (fun i σ' H' => ∃ y4 y5 y6, σ' = [x0, some (.ref p), x2, some (.ref q), y4, y5, y6] ∧ Ex H H' ∧ H' q = some (.lst (natsV (ups hs (u.lots.take i).flatten)))) (fun H2 e2 => ⟨_, _, _, rfl, e1.trans e2, e2 _ _ h1⟩) ?_ ?_
  · rintro a xs i d x σ' H' hd ta hdp ⟨y4, y5, y6, rfl, e2, h2⟩
    rw [List.getElem?_map] at hd
    cases hu : u.lots[i]? with
    | none => rw [hu] at hd; cases hd
    | some l =>
      rw [hu] at hd
      cases hd
      have hlm := List.mem_of_getElem? hu
      have hlo := hok.lots l hlm
      have lenl := hlo.len
      refine ⟨.ref q, rfl, .inl ⟨rfl, _, sq_of h2⟩, ?_⟩
      refine etl_T2 (K := K) (as := l) (c := pairD) (f1 := fun p => .int (p.1 : Int)) (f2 := fun p => .int p.2) (fun _ => true) (fun p => .int ((hs.getD p.1 0 + 1 : Nat) : Int)) (etv_var rfl hdp) (fun _ _ => rfl) (by omega) (fun b y z H3 H4 hb e3 e4 hy hz => ⟨rfl, et_yes, fun _ => .inl ⟨rfl, ?_⟩⟩) H' (Ex.refl _) _ fun r zs H3 hr e3 h3 hzs => ?_
      · cases hy
        have hm : b.1 < hs.length := (hlo.ok b hb).1
        exact etI (ev_op (ev_op (ev_var rfl) (ev_var rfl) (rv_ixL (i := (b.1 : Int)) (v := .int ((hs.getD b.1 0 : Nat) : Int)) (sq_of (((e2.trans e3).trans e4) _ _ hp)) (atI_nat (by
          unfold natsV
          rw [List.getElem?_map, List.getElem?_eq_getElem hm, List.getD_eq_getElem?_getD, List.getElem?_eq_getElem hm]
          rfl)))) ev_c rv_I0)
      · rw [filter_yes] at hzs
        have hz := dpA_natsV (ns := ups hs l) (by unfold ups; rw [List.map_map]; exact hzs)
        subst hz
        have h4 := e3 _ _ h2
        have tk : u.lots.take (i + 1) = u.lots.take i ++ [l] := by rw [List.take_succ, hu]; rfl
        have l1 : (u.lots.take i).flatten.length ≤ u.lots.flatten.length := by
          conv => rhs; rw [← List.take_append_drop i u.lots, List.flatten_append, List.length_append]
          omega
        refine ⟨q, r, _, natsV (ups hs l), rfl, rfl, h4, h3, Nat.le_trans (m := 6000) ?_ (by decide), ?_⟩
        · unfold natsV ups
          rw [List.length_map, List.length_map, List.length_map, List.length_map]
          omega
        · refine ⟨⟨_, _, _, rfl, Ex.mut (e2.trans e3) (fresh_back (Ex.refl _) hq), ?_⟩, (ta.mono e3).upd hnL h4⟩
          rw [upd_same, tk, List.flatten_append, ups_app, natsV_app]
          simp
  · rintro σ' H' ⟨y4, y5, y6, rfl, e2, h2⟩
    rw [List.length_map, List.take_length] at h2
    exact k q y4 y5 y6 H' e2 h2 hq
/-- max([0] + below) -/
theorem ev_most {u : Use} {hs : List Nat} {q : Addr} {j : Nat} (hq : σ[j]? = some (some (.ref q))) (h : H q = some (.lst (natsV (ups hs u.lots.flatten)))) (hl : u.lots.flatten.length ≤ 4000) : Ev (tCB (rMax K) (tCons (tOp rCat (tLst (tCons (tC (.int 0)) tNil)) (tVar j)) tNil)) σ H (.int (hgt hs u : Int)) := by
  rw [← mx_hgt]
  refine ev_maxN (ns := 0 :: ups hs u.lots.flatten) ?_ (by simp)
  refine fun H1 e Q q' => el_lst (ea_cons (ev_c (v := .int 0)) ea_nil) (by decide) H1 e _ fun r H2 hr e2 h2 => ⟨.ref q, hq, ?_⟩
  refine ⟨r, q, _, _, rfl, rfl, h2, (e.trans e2) _ _ h, Nat.le_trans (m := 4001) ?_ (by decide), fun t ht => q' _ _ (e2.trans (Ex.new ht)) (.lst (sq_of upd_same) (dpA_nats (0 :: ups hs u.lots.flatten)))⟩
  unfold natsV ups
  rw [List.length_map, List.length_map]
  show 1 + _ ≤ 4001
  omega
end
/-- uses in a list or a tuple -/
def UsesAt (K : PySem.W.Frag) (H : Hp) (a : Addr) (us : List Use) : Prop := ∃ xs, (SqL K H a xs ∨ SqT K H a xs) ∧ DpAll K H xs (us.map useD)
def spHs (K : PySem.W.Frag) : Sp := fun vs H Q _ => vs.length = 1 ∧ ∃ a us, vs = [.ref a] ∧ UsesAt K H a us ∧ (∀ i u, us[i]? = some u → OkUse i u) ∧ us.length ≤ 1000 ∧ ∀ p H2, H p = none → Ex H H2 → H2 p = some (.lst (natsV (hgts us))) → Q (.ref p) H2
abbrev s__law_heights : Stmt := top 39
abbrev N__law_heights : List Str := ["uses", "found", "use", "below", "lot", "number", "count"]
theorem sc__law_heights : FnScope N__law_heights ["uses"] (defScope s__law_heights) := ⟨rfl, rfl, rfl, by decide +kernel, rfl, by decide +kernel, by decide +kernel⟩
theorem c_l_heights (T : Tx D aK cB cT fL) : Ca D false 2 "_law_heights" 1 (spHs D.K) := by
  have c_l_lots_in := c_l_lots_in T
  obtain ⟨f, fd, F, gm⟩ := T.f39
  refine ca_mk (st := s__law_heights) (N := N__law_heights) (ps := ["uses"]) false F gm sc__law_heights (F.bindsN fun _ _ _ _ _ _ us hl => match us, hl with | [_], _ => rfl) (fun vs H Q E h => h.1) fun cdv A outer s H vs Q E hG hr h => ?_
  have nd := sc__law_heights.nd
  refine ⟨_, (pss_cons (ps_set (i := 1) nd rfl (Or.inr rfl) (pe_lst pa_nil))
    (pss_cons (ps_for (passes_of rfl) rfl (pi_seq2 (pv 0)) (pg_name (i := 2) nd rfl (Or.inl rfl))
      (pss_cons (ps_set (i := 3) nd rfl (Or.inl rfl) (pe_lst pa_nil))
      (pss_cons (ps_for (passes_of rfl) rfl (pi_tup (pe_ca c_l_lots_in (fun z => nomatch z) hr (by decide) passL rfl (pa_cons (pv 2) pa_nil))) (pg_name (i := 4) nd rfl (Or.inl rfl))
        (pss_one (ps_expr (pe_bm PySem.F.plainAttrs_list PySem.F.slot_list_extend PySem.F.type_list_extend mt_extend (pv 3) (pa_cons (pe_lc (own := [("number", 5), ("count", 6)]) (g := gTup D.K 2 (gCons (gName 5) (gCons (gName 6) gNil))) rfl nd (pi_tup (pv 4)) (blkOk_by (own := [("number", 5), ("count", 6)]) (N := N__law_heights) (sc := defScope s__law_heights) (by decide +kernel)) (fun _ _ _ _ _ => pg_tup rfl (pgs_cons (pg_name (i := 5) nd rfl (Or.inl rfl)) (pgs_cons (pg_name (i := 6) nd rfl (Or.inl rfl)) pgs_nil))) (fun _ _ _ _ _ => pts_nil) (fun _ _ _ _ _ => (pe_op op_add (pe_ix (ixLK (K := D.K) rfl) (pv 1) (pv 5) (fun _ _ => rfl)) pe_int))) pa_nil)))))
      (pss_one (ps_expr (pe_bm PySem.F.plainAttrs_list PySem.F.slot_list_append PySem.F.type_list_append mt_append (pv 1) (pa_cons (pe_callB (cr_max rfl) (by rfl) T.n_max (by decide +kernel) (pa_cons (pe_op op_cat (pe_lst (pa_cons pe_int pa_nil)) (pv 3)) pa_nil)) pa_nil)))))))
    (pss_one (ps_ret (pv 1))))), ?_⟩
  obtain ⟨_, a, us, rfl, ⟨xs, hxs, hall⟩, hok, hlen, q⟩ := h
  have hl : xs.length = us.length := by rw [dpA_len hall, List.length_map]
  refine q_asgL el_nil fun p H1 hp e1 h1 => ?_
  refine q_forS2 (K := D.K) (a := a) (xs := xs) (ev_var rfl) e1 hxs (fun i σ' H' => ∃ y2 y3 y4 y5 y6, σ' = [some (.ref a), some (.ref p), y2, y3, y4, y5, y6] ∧ Ex H H' ∧ H' p = some (.lst (natsV (hgts (us.take i))))) (fun H2 e2 => ⟨_, _, _, _, _, rfl, e1.trans e2, e2 _ _ h1⟩) (by
    rintro i σ' H' ⟨y2, y3, y4, y5, y6, rfl, e2, h2⟩
    exact e2) ?_ ?_
  · rintro i x σ' H' hx ⟨y2, y3, y4, y5, y6, rfl, e2, h2⟩
    obtain ⟨d, hd, hdp⟩ := dpA_getV hall hx
    rw [List.getElem?_map] at hd
    cases hu : us[i]? with
    | none => rw [hu] at hd; cases hd
    | some u =>
      rw [hu] at hd
      cases hd
      have hi : i < us.length := (List.getElem?_eq_some_iff.mp hu).1
      have ti : (hgts (us.take i)).length = i := by rw [hgts_len, List.length_take]; omega
      have hoku : OkUse (hgts (us.take i)).length u := by rw [ti]; exact hok i u hu
      have hflat := hoku.flat
      refine q_below (u := u) (hs := hgts (us.take i)) rfl h2 hoku (by omega) (fun q H3 e3 => et_ca (ds := [useD u]) (eta_cons (etv_var rfl (dp_mono (e2.trans e3) hdp)) eta_nil) rfl (fLots_use u)) fun q z4 z5 z6 H3 e3 h3 hq => ?_
      refine hgt_app (n := hgt (hgts (us.take i)) u) (e2.trans e3) hp (e3 _ _ h2) (ev_var rfl) (ev_most rfl h3 (by omega)) (by omega) fun H5 e5 h5 => ⟨_, _, _, _, _, rfl, e5, ?_⟩
      rw [take_snoc hu, hgts_snoc]
      exact h5
  · rintro σ' H' ⟨y2, y3, y4, y5, y6, rfl, e2, h2⟩
    rw [hl, List.take_length] at h2
    exact s_ret (ev_var rfl) fun H2 e3 => q p H2 hp (e2.trans e3) (e3 p _ h2)
end Q
namespace Q
open PySem PySem.Spec PyProof.Rows L2 Evl
variable {D : Wd} {aK cB cT fL : Addr}
theorem et_lk {K : PySem.W.Frag} {σ : L2.St} {H : Hp} {te : TE} {E : XK} {u : Use} (h : Et K te σ H (useD u)) : Et K (tCa (spLk K) E (tCons te tNil)) σ H (lkD u) := fun H1 e Q q => h H1 e _ fun v H2 e2 hv => ⟨rfl, v, u, rfl, hv, fun w H3 e3 hw => q w H3 (e2.trans e3) hw⟩
theorem et_geD {K : PySem.W.Frag} {σ : L2.St} {H : Hp} {ta tb : TE} {d e : PyData} (h1 : Et K ta σ H d) (h2 : Et K tb σ H e) (ho : OrdD d e) : Ev (tOp (rGeD K) ta tb) σ H (.bl (!PySem.W.dataLt d e)) := fun H1 x Q q =>
  h1 H1 x _ fun v H2 e2 hv => h2 H2 (x.trans e2) _ fun w H3 e3 hw => ⟨d, e, dp_mono e3 hv, hw, ho, q H3 (e2.trans e3)⟩
theorem et_lkey {K : PySem.W.Frag} {σ : L2.St} {H : Hp} {ta tb : TE} {n : Nat} {u : Use} (h1 : Ev ta σ H (.int (n : Int))) (h2 : Et K tb σ H (lkD u)) : Et K (tTup (tCons ta (tCons tb tNil))) σ H (lkeyD n u) := et_tup (eta_cons (etI h1) (eta_cons h2 eta_nil)) (by show 2 ≤ 100000; decide)
theorem hts_last (us : List Use) (u : Use) : (natsV (hgts (us ++ [u])))[us.length]? = some (.int (hgt (hgts us) u : Int)) := by
  unfold natsV
  rw [List.getElem?_map, hgts_snoc, List.getElem?_append_right (by rw [hgts_len]; exact Nat.le_refl _), hgts_len, Nat.sub_self]
  rfl
theorem hts_pre (us : List Use) (u : Use) {i : Nat} (h : i < us.length) : (natsV (hgts (us ++ [u])))[i]? = (natsV (hgts us))[i]? := by
  rw [hgts_snoc, natsV_app, List.getElem?_append_left (by unfold natsV; rw [List.length_map, hgts_len]; exact h)]
theorem fUseL_mk {ts : List PyData} {x : PyData} {m : Nat} (h : domD 1000 40 x = true) (e : ts.length = m) : fUseL [.tuple ts, x] = some (.bool (isUseD m x)) := e ▸ if_pos h
def spFirst (K : PySem.W.Frag) : Sp := fun vs H Q _ => vs.length = 1 ∧ ∃ v ds, vs = [v] ∧ Dp K H v (.tuple ds) ∧ domD 1000 40 (.tuple ds) = true ∧ ∀ w H2, Ex H H2 → (w = .non ∨ ∃ i, w = .int i) → (w = .non ↔ IsTab (.tuple ds)) → Q w H2
abbrev s__law_first_use : Stmt := top 45
abbrev N__law_first_use : List Str := ["uses", "heights", "k", "below", "lot", "number", "count"]
theorem sc__law_first_use : FnScope N__law_first_use ["uses"] (defScope s__law_first_use) := ⟨rfl, rfl, rfl, by decide +kernel, rfl, by decide +kernel, by decide +kernel⟩
theorem c_l_first_use (T : Tx D aK cB cT fL) : Ca D false 4 "_law_first_use" 1 (spFirst D.K) := by
  have c_l_is_use := c_l_is_use T
  have c_l_lots_in := c_l_lots_in T
  have c_l_use_key := c_l_use_key T
  obtain ⟨f, fd, F, gm⟩ := T.f45
  refine ca_mk (st := s__law_first_use) (N := N__law_first_use) (ps := ["uses"]) false F gm sc__law_first_use (F.bindsN fun _ _ _ _ _ _ us hl => match us, hl with | [_], _ => rfl) (fun vs H Q E h => h.1) fun cdv A outer s H vs Q E hG hr h => ?_
  have nd := sc__law_first_use.nd
  have hu := hr.units
  refine ⟨_, (pss_cons (ps_set (i := 1) nd rfl (Or.inr rfl) (pe_lst pa_nil))
    (pss_cons (ps_for (passes_of rfl) rfl (pi_range1 rfl T.n_range (pa_cons (pe_callB call_lenL (by rfl) T.n_len (by decide +kernel) (pa_cons (pv 0) pa_nil)) pa_nil)) (pg_name (i := 2) nd rfl (Or.inl rfl))
      (pss_cons (ps_if (pt_not (pt_val (pe_ca c_l_is_use (fun z => nomatch z) hr (by decide) passL rfl (pa_cons (pe_slice sl_tupA (pv 0) po_none (po_some (pv 2))) (pa_cons (pe_ix ix_tup (pv 0) (pv 2) (fun _ _ => rfl)) pa_nil))))) (pss_one (ps_ret (pv 2))) pss_nil)
      (pss_cons (ps_set (i := 3) nd rfl (Or.inl rfl) (pe_lst pa_nil))
      (pss_cons (ps_for (passes_of rfl) rfl (pi_tup (pe_ca c_l_lots_in (fun z => nomatch z) hr (by decide) passL rfl (pa_cons (pe_ix ix_tup (pv 0) (pv 2) (fun _ _ => rfl)) pa_nil))) (pg_name (i := 4) nd rfl (Or.inl rfl))
        (pss_one (ps_expr (pe_bm PySem.F.plainAttrs_list PySem.F.slot_list_extend PySem.F.type_list_extend mt_extend (pv 3) (pa_cons (pe_lc (own := [("number", 5), ("count", 6)]) (g := gTup D.K 2 (gCons (gName 5) (gCons (gName 6) gNil))) rfl nd (pi_tup (pv 4)) (blkOk_by (own := [("number", 5), ("count", 6)]) (N := N__law_first_use) (sc := defScope s__law_first_use) (by decide +kernel)) (fun _ _ _ _ _ => pg_tup rfl (pgs_cons (pg_name (i := 5) nd rfl (Or.inl rfl)) (pgs_cons (pg_name (i := 6) nd rfl (Or.inl rfl)) pgs_nil))) (fun _ _ _ _ _ => pts_nil) (fun _ _ _ _ _ => (pe_op op_add (pe_ix (ixLK (K := D.K) rfl) (pv 1) (pv 5) (fun _ _ => rfl)) pe_int))) pa_nil)))))
      (pss_cons (ps_expr (pe_bm PySem.F.plainAttrs_list PySem.F.slot_list_append PySem.F.type_list_append mt_append (pv 1) (pa_cons (pe_callB (cr_max rfl) (by rfl) T.n_max (by decide +kernel) (pa_cons (pe_op op_cat (pe_lst (pa_cons pe_int pa_nil)) (pv 3)) pa_nil)) pa_nil)))
      (pss_one (ps_if (PW.pt (pw_and (pt_cmpR op_gt (pv 2) pe_int (nomark _)) (pw_and1 (pt_cmpR (op_geD hu) (pe_tup (pa_cons (pe_ix ix_list (pv 1) (pe_op op_sub (pv 2) pe_int) (fun _ _ => rfl)) (pa_cons (pe_ca c_l_use_key (fun z => nomatch z) hr (by decide) passL rfl (pa_cons (pe_ix ix_tup (pv 0) (pe_op op_sub (pv 2) pe_int) (fun _ _ => rfl)) pa_nil)) pa_nil))) (pe_tup (pa_cons (pe_ix ix_list (pv 1) (pv 2) (fun _ _ => rfl)) (pa_cons (pe_ca c_l_use_key (fun z => nomatch z) hr (by decide) passL rfl (pa_cons (pe_ix ix_tup (pv 0) (pv 2) (fun _ _ => rfl)) pa_nil)) pa_nil))) (nomark _))))) (pss_one (ps_ret (pv 2))) pss_nil)))))))
    (pss_one (ps_ret pe_non)))), ?_⟩
  obtain ⟨_, v, ds, rfl, hv, hx, q⟩ := h
  obtain ⟨m, hm, hds1, hds2⟩ := domD_tup hx
  cases hm
  refine q_asgL el_nil fun p H1 hp e1 h1 => ?_
  refine q_forR1 (n := (ds.length : Int)) (ea_cons (et_lenT (etv_var rfl (dp_mono e1 hv))) ea_nil) (by omega) (fun i σ' H' => ∃ y2 y3 y4 y5 y6 us, σ' = [some v, some (.ref p), y2, y3, y4, y5, y6] ∧ Ex H H' ∧ us.length = i ∧ ds.take i = us.map useD ∧ TabOk us ∧ H' p = some (.lst (natsV (hgts us)))) (fun H2 e2 => ⟨_, _, _, _, _, [], rfl, e1.trans e2, rfl, rfl, .nil, e2 _ _ h1⟩) ?_ ?_
  · rintro i σ' H' hi ⟨y2, y3, y4, y5, y6, us, rfl, e2, rfl, hpre, htab, h2⟩
    have hi : us.length < ds.length := by omega
    obtain ⟨d, hd⟩ : ∃ d, ds[us.length]? = some d := ⟨_, List.getElem?_eq_getElem hi⟩
    have hdom : domD 1000 40 d = true := domD_mono (Nat.le_refl _) (by decide) (hds2 d (List.mem_of_getElem? hd))
    have hlt : (ds.take us.length).length = us.length := by rw [List.length_take]; omega
    have no : ∀ {σ : L2.St} {H3 : Hp} {nx ct bk}, Ex H H3 → ¬ IsTab (.tuple ds) → σ[2]? = some (some (.int (us.length : Int))) → tRet (tVar 2) { nx := nx, rt := Q, ct := ct, bk := bk } σ H3 := fun e3 hn h2 => s_ret (ev_var h2) fun H4 e4 => q _ H4 (e3.trans e4) (.inr ⟨_, rfl⟩) ⟨fun z => (by cases z), fun z => absurd z hn⟩
    refine q_when (b := !isUseD us.length d) (et_not (et_B (ev_etB (et_ca (ds := [.tuple (ds.take us.length), d]) (eta_cons (et_slA (etv_var rfl (dp_mono e2 hv)) eo_none (eo_some (ev_var rfl)) (cut_to ds us.length).symm) (eta_cons (et_ixT (i := us.length) (etv_var rfl (dp_mono e2 hv)) (ev_var rfl) hd) eta_nil)) rfl (fUseL_mk hdom hlt))))) (fun hb H3 e3 => no (e2.trans e3) (fun hT => ?_) rfl) fun hb H3 e3 => ?_
    · obtain ⟨u, rfl, hok, _⟩ := tab_at hT hpre hd
      rw [isUseD_mk hok] at hb
      cases hb
    obtain ⟨u, rfl, hok⟩ := isUseD_of (show isUseD us.length d = true by simpa using hb)
    have hus : us.length ≤ 1000 := by omega
    have hflat := hok.flat
    have e23 := e2.trans e3
    refine q_below (u := u) (hs := hgts us) rfl (e3 _ _ h2) (by rw [hgts_len]; exact hok) (by rw [hgts_len]; exact hus) (fun q H4 e4 => et_ca (ds := [useD u]) (eta_cons (et_ixT (i := us.length) (etv_var rfl (dp_mono (e23.trans e4) hv)) (ev_var rfl) hd) eta_nil) rfl (fLots_use u)) fun q' z4 z5 z6 H4 e4 h4 hq' => ?_
    have e24 := e23.trans e4
    have h24 := e4 _ _ (e3 _ _ h2)
    refine q_app h24 (ev_var rfl) (ev_most rfl h4 (by omega)) (by unfold natsV; rw [List.length_map, hgts_len]; omega) fun H5 e5 => ?_
    have eX : Ex H (upd H5 p (.lst (natsV (hgts us) ++ [.int (hgt (hgts us) u : Int)]))) := Ex.mut (e24.trans e5) hp
    have hl6 : upd H5 p (.lst (natsV (hgts us) ++ [.int (hgt (hgts us) u : Int)])) p = some (.lst (natsV (hgts (us ++ [u])))) := by
      rw [upd_same, hgts_snoc, natsV_app]
      rfl
    generalize upd H5 p (.lst (natsV (hgts us) ++ [.int (hgt (hgts us) u : Int)])) = H6 at eX hl6 ⊢
    have key : ∀ (te : TE) (j : Nat) (w : Use) (n : Nat) (σ : L2.St), σ = [some v, some (.ref p), some (.int (us.length : Int)), some (.ref q'), z4, z5, z6] → Ev te σ H6 (.int (j : Int)) → (natsV (hgts (us ++ [u])))[j]? = some (.int (n : Int)) → ds[j]? = some (useD w) →
        Et D.K (tTup (tCons (tOp (rIxL D.K) (tVar 1) te) (tCons (tCa (spLk D.K) E (tCons (tOp (rIxT D.K) (tVar 0) te) tNil)) tNil))) σ H6 (lkeyD n w) := fun te j w n σ hσ ht hj hdj => by
      subst hσ
      exact et_lkey (ev_op (ev_var rfl) ht (rv_ixL (i := (j : Int)) (sq_of hl6) (atI_nat hj))) (et_lk (et_ixT (i := j) (etv_var rfl (dp_mono eX hv)) ht hdj))
    have goOn : (∀ k, lastK us = some k → PySem.W.dataLt k (keyD (hgt (hgts us) u) u) = true) → ∀ H7, Ex H6 H7 → ∃ y2 y3 y4 y5 y6 us', [some v, some (.ref p), some (.int (us.length : Int)), some (.ref q'), z4, z5, z6] = [some v, some (.ref p), y2, y3, y4, y5, y6] ∧ Ex H H7 ∧ us'.length = us.length + 1 ∧ ds.take (us.length + 1) = us'.map useD ∧ TabOk us' ∧ H7 p = some (.lst (natsV (hgts us'))) := fun hk H7 e7 => ⟨_, _, _, _, _, us ++ [u], rfl, eX.trans e7, by simp, by rw [List.take_succ, hd, hpre, List.map_append]; rfl, .snoc htab hok hk, e7 _ _ hl6⟩
    rcases List.eq_nil_or_concat us with hn | ⟨us', u', hc⟩
    · refine s_when (b := decide ((0 : Int) < (us.length : Int)) && true) (et_and (et_test (ev_op (ev_var rfl) ev_c rv_I0)) fun z => ?_) (fun z => ?_) fun _ H7 e7 => goOn (fun k hk => by rw [hn] at hk; cases hk) H7 e7
      · rw [hn] at z; cases z
      · rw [hn] at z; cases z
    · rw [List.concat_eq_append] at hc
      have hlen : us.length = us'.length + 1 := by rw [hc]; simp
      have hlk : lastK us = some (keyD (hgt (hgts us') u') u') := by rw [hc, lastK_snoc]
      obtain ⟨_, m', u2, hk2, hu2⟩ := htab.last hlk
      have hds' : ds[us'.length]? = some (useD u') := by
        have : (ds.take us.length)[us'.length]? = ds[us'.length]? := by rw [List.getElem?_take, if_pos (by omega)]
        rw [← this, hpre, hc, List.getElem?_map, List.getElem?_append_right (Nat.le_refl _), Nat.sub_self]
        rfl
      have hok' : OkUse us'.length u' := htab.uses us'.length u' (by rw [hc, List.getElem?_append_right (Nat.le_refl _), Nat.sub_self]; rfl)
      have hpos : decide ((0 : Int) < (us.length : Int)) = true := decide_eq_true (by omega)
      refine s_when (b := decide ((0 : Int) < (us.length : Int)) && !PySem.W.dataLt (lkeyD (hgt (hgts us') u') u') (lkeyD (hgt (hgts us) u) u)) (et_and (et_test (ev_op (ev_var rfl) ev_c rv_I0)) fun _ => et_test (et_geD (key _ us'.length u' _ _ rfl (ev_is (ev_op (ev_var rfl) ev_c rv_I0) (by rw [hlen]; show V.int _ = V.int _; congr 1; omega)) (by rw [hts_pre us u (by omega), hc, hts_last]) hds') (key _ us.length u _ _ rfl (ev_var rfl) (hts_last us u) hd) ⟨pl_lkey hok', pl_lkey hok, ok_lkey _ _ _ _, dep_lkey _ _⟩)) (fun hb8 H8 e8 => no (eX.trans e8) (fun hT => ?_) rfl) fun hb8 H8 e8 => goOn (fun k' hk' => ?_) H8 e8
      · obtain ⟨u2, e2u, _, hlt⟩ := tab_at hT hpre hd
        rw [← useD_inj e2u] at hlt
        rw [lt_same, hlt _ hlk, Bool.not_true, Bool.and_false] at hb8
        cases hb8
      · rw [hlk] at hk'
        cases hk'
        rw [hpos, Bool.true_and, lt_same] at hb8
        simpa using hb8
  · rintro σ' H' ⟨y2, y3, y4, y5, y6, us, rfl, e2, hl, hpre, htab, h2⟩
    rw [show ((ds.length : Int)).toNat = ds.length by omega, List.take_length] at hpre
    exact s_ret ev_c fun H3 e3 => q _ H3 (e2.trans e3) (.inl rfl) ⟨fun _ => ⟨us, by rw [hpre], htab⟩, fun _ => rfl⟩
abbrev s__law_is_table : Stmt := top 50
abbrev N__law_is_table : List Str := ["thing"]
theorem sc__law_is_table : FnScope N__law_is_table ["thing"] (defScope s__law_is_table) := ⟨rfl, rfl, rfl, by decide +kernel, rfl, by decide +kernel, by decide +kernel⟩
theorem c_l_is_table (T : Tx D aK cB cT fL) : Ca D false 5 "_law_is_table" 1 (spTab D.K) := by
  have c_l_first_use := c_l_first_use T
  obtain ⟨f, fd, F, gm⟩ := T.f50
  refine ca_mk (st := s__law_is_table) (N := N__law_is_table) (ps := ["thing"]) false F gm sc__law_is_table (F.bindsN fun _ _ _ _ _ _ us hl => match us, hl with | [_], _ => rfl) (fun vs H Q E h => h.1) fun cdv A outer s H vs Q E hG hr h => ?_
  have nd := sc__law_is_table.nd
  refine ⟨_, (pss_one (ps_ret (pe_and (pe_callB call_isi (by rfl) T.n_isinstance (by decide +kernel) (pa_cons (pv 0) (pa_cons (pe_bltn (v := .ty "tuple") rfl T.n_tuple (by decide +kernel) rfl) pa_nil))) (pe_one (pe_cmpR op_isN (pe_ca c_l_first_use (fun z => nomatch z) hr (by decide) passL rfl (pa_cons (pv 0) pa_nil)) pe_non (nomark _)))))), ?_⟩
  obtain ⟨_, v, P, rfl, hth, q⟩ := h
  rcases hth with ⟨x, hv, hx, hP⟩ | ⟨hn, hP⟩
  rotate_left
  · exact s_ret (ev_andV (a := false) (b := true) (ev_notTup (ev_var rfl) hn) fun z => absurd z (by decide)) fun H2 e2 => q false H2 e2 (no_iff hP)
  cases hs : isTupD x with
  | false => exact s_ret (ev_andV (a := false) (b := true) (ev_isiD (etv_var rfl hv) (by rw [kit_tup, hs])) fun z => absurd z (by decide)) fun H2 e2 => q false H2 e2 (no_iff fun z => by
      obtain ⟨us, rfl, _⟩ := hP.mp z
      cases hs)
  | true =>
    cases x with
    | tuple ds =>
      refine (ev_isiD (etv_var rfl hv) (kit_tup (.tuple ds))) H (Ex.refl H) _ fun H1 e1 => ⟨true, rfl, ?_⟩
      refine ⟨v, rfl, rfl, v, ds, rfl, dp_mono e1 hv, hx, fun w H2 e2 hw hT => ⟨rfl, q (decide (w = .non)) H2 (e1.trans e2) ?_⟩⟩
      rw [decide_eq_true_eq, hT, hP]
    | _ => cases hs
end Q
namespace Q
open PySem PySem.SeqAt PySem.W PyProof.Rows
/-! ### lots and uses renumbered: plain -/
def leN (a b : Nat × Int) : Bool := decide (a.1 ≤ b.1)
def mvP (N : Nat → Nat) (p : Nat × Int) : Nat × Int := (N p.1, p.2)
def mvL (N : Nat → Nat) (l : Lot) : Lot := (l.map (mvP N)).mergeSort leN
def mvU (N : Nat → Nat) : Use → Use
  | .num i => .num i
  | .fin => .fin
  | .con w ls => .con w (ls.map (mvL N))
  | .fn a b => .fn (mvL N a) (mvL N b)
abbrev Asc (l : Lot) : Prop := l.Pairwise fun a b => a.1 < b.1
theorem mvL_perm (N : Nat → Nat) (l : Lot) : (mvL N l).Perm (l.map (mvP N)) := List.mergeSort_perm _ _
theorem asc_uniq : ∀ {l m : Lot}, Asc l → Asc m → l.Perm m → l = m
  | [], m, _, _, h => (List.nil_perm.mp h).symm ▸ rfl
  | a :: l, [], _, _, h => by cases List.perm_nil.mp h
  | a :: l, b :: m, h1, h2, h => by
    obtain ⟨a1, a2⟩ := List.pairwise_cons.mp h1
    obtain ⟨b1, b2⟩ := List.pairwise_cons.mp h2
    have e : a = b := by
      rcases List.mem_cons.mp (h.mem_iff.mp (List.mem_cons_self ..)) with e | ha
      · exact e
      · rcases List.mem_cons.mp (h.mem_iff.mpr (List.mem_cons_self ..)) with e | hb
        · exact e.symm
        · have := a1 _ hb
          have := b1 _ ha
          omega
    subst e
    rw [asc_uniq a2 b2 ((List.perm_cons a).mp h)]
def Inj (N : Nat → Nat) (S : Nat → Prop) : Prop := ∀ a b, S a → S b → N a = N b → a = b
theorem mvL_asc {N : Nat → Nat} {S : Nat → Prop} {l : Lot} (hN : Inj N S) (hS : ∀ p ∈ l, S p.1) (h : Asc l) : Asc (mvL N l) := by
  have le : (mvL N l).Pairwise fun a b => leN a b = true := List.pairwise_mergeSort (fun a b c h1 h2 => by
      have := of_decide_eq_true h1
      have := of_decide_eq_true h2
      exact decide_eq_true (by omega)) (fun a b => by
      unfold leN
      rcases Nat.le_total a.1 b.1 with z | z
      · rw [decide_eq_true z]; rfl
      · rw [decide_eq_true z, Bool.or_true]) _
  have nd : (l.map (mvP N)).Pairwise fun a b => a.1 ≠ b.1 := by
    rw [List.pairwise_map]
    refine List.Pairwise.imp_of_mem (fun {a b} ha hb h e => ?_) h
    have := hN _ _ (hS a ha) (hS b hb) e
    omega
  have nd2 : (mvL N l).Pairwise fun a b => a.1 ≠ b.1 := ((mvL_perm N l).pairwise_iff (fun {a b} h => Ne.symm h)).mpr nd
  exact List.Pairwise.imp₂ (fun a b h1 h2 => by have := of_decide_eq_true h1; omega) le nd2
theorem mvL_ok {N : Nat → Nat} {S : Nat → Prop} {m n : Nat} {l : Lot} (hN : Inj N S) (hS : ∀ p ∈ l, S p.1) (hn : ∀ i, S i → N i < n) (h : OkLot m l) : OkLot n (mvL N l) := by
  refine ⟨fun p hp => ?_, mvL_asc hN hS h.inc⟩
  obtain ⟨q, hq, rfl⟩ := List.mem_map.mp ((mvL_perm N l).mem_iff.mp hp)
  exact ⟨hn _ (hS q hq), (h.ok q hq).2⟩
theorem mvU_lots (N : Nat → Nat) (u : Use) : (mvU N u).lots = u.lots.map (mvL N) := by cases u <;> rfl
def Known (S : Nat → Prop) (u : Use) : Prop := ∀ p ∈ u.lots.flatten, S p.1
theorem Known.lot {S : Nat → Prop} {u : Use} (h : Known S u) {l : Lot} (hl : l ∈ u.lots) : ∀ p ∈ l, S p.1 := fun p hp => h p (List.mem_flatten.mpr ⟨l, hl, hp⟩)
theorem mvU_ok {N : Nat → Nat} {S : Nat → Prop} {m n : Nat} {u : Use} (hN : Inj N S) (hS : Known S u) (hn : ∀ i, S i → N i < n) (h : OkUse m u) : OkUse n (mvU N u) := by
  cases u with
  | num i => trivial
  | fin => trivial
  | con w ls =>
    refine ⟨h.1, by rw [List.length_map]; exact h.2.1, fun l hl => ?_⟩
    obtain ⟨l', hl', rfl⟩ := List.mem_map.mp hl
    exact mvL_ok hN (hS.lot hl') hn (h.2.2 l' hl')
  | fn a b => exact ⟨mvL_ok hN (hS.lot (u := .fn a b) (List.mem_cons_self ..)) hn h.1, mvL_ok hN (hS.lot (u := .fn a b) (List.mem_cons_of_mem _ (List.mem_cons_self ..))) hn h.2⟩
theorem mvL_inj {N : Nat → Nat} {S : Nat → Prop} {l m : Lot} (hN : Inj N S) (h1 : ∀ p ∈ l, S p.1) (h2 : ∀ p ∈ m, S p.1) (a1 : Asc l) (a2 : Asc m) (e : mvL N l = mvL N m) : l = m := by
  have hp : (l.map (mvP N)).Perm (m.map (mvP N)) := ((mvL_perm N l).symm.trans (e ▸ List.Perm.refl _)).trans (mvL_perm N m)
  have back : ∀ x y : Nat × Int, S x.1 → S y.1 → mvP N x = mvP N y → x = y := fun x y hx hy h => by
    have e1 := hN _ _ hx hy (show (mvP N x).1 = (mvP N y).1 by rw [h])
    have e2 : x.2 = y.2 := (show (mvP N x).2 = (mvP N y).2 by rw [h])
    cases x
    cases y
    simp only at e1 e2
    rw [e1, e2]
  have mem : ∀ {l m : Lot}, (∀ p ∈ l, S p.1) → (∀ p ∈ m, S p.1) → (l.map (mvP N)).Perm (m.map (mvP N)) → ∀ p ∈ l, p ∈ m := fun {l m} h1 h2 hp p hpl => by
    obtain ⟨q, hq, e⟩ := List.mem_map.mp (hp.mem_iff.mp (List.mem_map.mpr ⟨p, hpl, rfl⟩))
    rw [← back q p (h2 q hq) (h1 p hpl) e]
    exact hq
  have nd : ∀ {l : Lot}, Asc l → l.Nodup := fun h => List.Pairwise.imp (fun h e => by rw [e] at h; omega) h
  refine asc_uniq a1 a2 ((List.perm_ext_iff_of_nodup (nd a1) (nd a2)).mpr fun p => ⟨mem h1 h2 hp p, mem h2 h1 hp.symm p⟩)
theorem mvLs_inj {N : Nat → Nat} {S : Nat → Prop} (hN : Inj N S) : ∀ {ls ms : List Lot}, (∀ l ∈ ls, (∀ p ∈ l, S p.1) ∧ Asc l) → (∀ l ∈ ms, (∀ p ∈ l, S p.1) ∧ Asc l) → ls.map (mvL N) = ms.map (mvL N) → ls = ms
  | [], [], _, _, _ => rfl
  | [], _ :: _, _, _, e => by cases e
  | _ :: _, [], _, _, e => by cases e
  | l :: ls, m :: ms, h1, h2, e => by
    obtain ⟨e1, e2⟩ := List.cons.inj e
    have a := h1 l (List.mem_cons_self ..)
    have b := h2 m (List.mem_cons_self ..)
    rw [mvL_inj hN a.1 b.1 a.2 b.2 e1, mvLs_inj hN (fun l hl => h1 l (List.mem_cons_of_mem _ hl)) (fun l hl => h2 l (List.mem_cons_of_mem _ hl)) e2]
theorem mvU_inj {N : Nat → Nat} {S : Nat → Prop} {m n : Nat} {u v : Use} (hN : Inj N S) (h1 : Known S u) (h2 : Known S v) (k1 : OkUse m u) (k2 : OkUse n v) (e : mvU N u = mvU N v) : u = v := by
  have L : u.lots = v.lots := by
    refine mvLs_inj hN (fun l hl => ⟨h1.lot hl, (k1.lots l hl).inc⟩) (fun l hl => ⟨h2.lot hl, (k2.lots l hl).inc⟩) ?_
    rw [← mvU_lots, ← mvU_lots, e]
  cases u <;> cases v <;> first | (cases e; done) | skip
  · exact e
  · rfl
  · rename_i w ls w' ls'
    have e' := (Use.con.inj e).1
    have L' : ls = ls' := L
    rw [e', L']
  · rename_i a b c d
    have L' : [a, b] = [c, d] := L
    obtain ⟨l1, l2⟩ := List.cons.inj L'
    rw [l1, (List.cons.inj l2).1]
/-! ### heights kept -/
theorem mxN_perm {l m : List Nat} (h : l.Perm m) : mxN l = mxN m := by
  have le : ∀ {l m : List Nat}, l.Perm m → mxN l ≤ mxN m := fun {l m} h => by
    by_cases hl : l = []
    · rw [hl]; exact Nat.zero_le _
    · exact mxN_ge (h.mem_iff.mp (mxN_mem hl))
  exact Nat.le_antisymm (le h) (le h.symm)
theorem hgt_perm {hs hs' : List Nat} {u v : Use} (h : (belowU hs u).Perm (belowU hs' v)) : hgt hs u = hgt hs' v := by
  unfold hgt
  by_cases e : belowU hs u = []
  · rw [if_pos e, if_pos (by rw [e] at h; exact List.nil_perm.mp h)]
  · rw [if_neg e, if_neg (fun z => e (by rw [z] at h; exact List.perm_nil.mp h)), mxN_perm h]
theorem flat_perm {N : Nat → Nat} : ∀ ls : List Lot, ((ls.map (mvL N)).flatten).Perm (ls.flatten.map (mvP N))
  | [] => List.Perm.refl _
  | l :: ls => by
    rw [List.map_cons, List.flatten_cons, List.flatten_cons, List.map_append]
    exact List.Perm.append (mvL_perm N l) (flat_perm ls)
theorem mvU_hgt {N : Nat → Nat} {hs hs' : List Nat} {u : Use} (h : ∀ p ∈ u.lots.flatten, hs'.getD (N p.1) 0 = hs.getD p.1 0) : hgt hs' (mvU N u) = hgt hs u := by
  refine hgt_perm ?_
  unfold belowU
  rw [mvU_lots]
  refine ((flat_perm (N := N) u.lots).map _).trans ?_
  rw [List.map_map]
  rw [show u.lots.flatten.map ((fun p : Nat × Int => hs'.getD p.1 0) ∘ mvP N) = u.lots.flatten.map fun p => hs.getD p.1 0 from List.map_congr_left fun p hp => h p hp]
theorem hgtsFrom_pre : ∀ (us : List Use) (hs : List Nat), hs <+: hgtsFrom hs us
  | [], hs => List.prefix_refl _
  | u :: us, hs => (List.prefix_append _ _).trans (hgtsFrom_pre us _)
theorem hgts_pre (us vs : List Use) : hgts us <+: hgts (us ++ vs) := by
  unfold hgts
  rw [hgtsFrom_app]
  exact hgtsFrom_pre _ _
theorem hgts_at {us : List Use} {k : Nat} {u : Use} (hk : us[k]? = some u) (ok : OkUse k u) : (hgts us).getD k 0 = hgt (hgts us) u := by
  have hlt := (List.getElem?_eq_some_iff.mp hk).1
  have e : us = us.take k ++ [u] ++ us.drop (k + 1) := by
    conv => lhs; rw [← List.take_append_drop (k + 1) us, List.take_succ, hk]
    rfl
  have hl : (hgts (us.take k)).length = k := by rw [hgts_len, List.length_take]; omega
  have p1 : hgts (us.take k) <+: hgts us := by
    have := hgts_pre (us.take k) (us.drop k)
    rwa [List.take_append_drop] at this
  have p2 : hgts (us.take k) ++ [hgt (hgts (us.take k)) u] <+: hgts us := by
    have := hgts_pre (us.take k ++ [u]) (us.drop (k + 1))
    rw [← e, hgts_snoc] at this
    exact this
  rw [hgt_pre (by rw [hl]; exact ok) p1]
  obtain ⟨t, ht⟩ := p2
  rw [← ht, List.getD_eq_getElem?_getD, List.append_assoc, List.getElem?_append_right (by omega), hl, Nat.sub_self]
  rfl
theorem hgt_below {hs : List Nat} {u : Use} {p : Nat × Int} (hp : p ∈ u.lots.flatten) : hs.getD p.1 0 < hgt hs u := by
  have hm : hs.getD p.1 0 ∈ belowU hs u := List.mem_map.mpr ⟨p, hp, rfl⟩
  have := mxN_ge hm
  unfold hgt
  rw [if_neg (fun e => by rw [e] at hm; cases hm)]
  omega
end Q
namespace Q
open PySem PySem.Spec PyProof.Rows L2 Evl
variable {D : Wd} {aK cB cT fL : Addr}
section
variable {K : PySem.W.Frag} {σ : L2.St} {H : Hp} {te ts : TE} {t : TT} {ds es : List PyData}
theorem etl_sort (h : EtL K te σ H ds) (tup : Bool) (h1 : ∀ d ∈ ds, plD d = true) (h2 : ∀ d ∈ ds, ∀ e ∈ ds, okC d e = true) (h3 : Begun tup ds) (h4 : ∀ d ∈ ds, d.depth ≤ 60)
    (out : ∀ fs : List PyData, fs.Perm ds → fs.Pairwise (fun x y => PySem.W.dataLt y x = false) → fs = es) : EtL K (tCB (rSortD K) (tCons te tNil)) σ H es := fun H1 e Q q => h H1 e _ fun r xs H2 hr e2 hx hd =>
  ⟨r, xs, ds, tup, rfl, sq_of hx, hd, h1, h2, h3, h4, fun ys fs p k1 k2 k3 hp => q p ys _ (fresh_back e2 hp) (e2.trans (Ex.new hp)) upd_same (dpA_mono (Ex.new hp) (out fs k1 k2 ▸ k3))⟩
theorem etl_Ta {α : Type} {as : List α} {c : α → PyData} {j : Nat} {vs : List Nat} (g : α → PyData) (h : Et K ts σ H (.tuple (as.map c))) (hz : as.length ≤ 1000000)
    (hs : ∀ a x H1 H3, a ∈ as → Ex H H1 → Ex H1 H3 → Dp K H1 x (c a) → Turn1 K H1 σ vs t te true (g a) ((wipe σ vs).set j (some x)) H3) : EtL K (tLc (iTup K ts) (gName j) t te vs) σ H (as.map g) := fun H0 e Q q => h H0 e _ fun v H1 e1 hv => by
  cases hv with
  | @tup a xs _ hs1 ha =>
    have hl : xs.length = as.length := by rw [dpA_len ha, List.length_map]
    refine ⟨a, rfl, ⟨xs, hs1⟩, fun Dl hD => ?_⟩
    refine lc_dat (K := K) (Y := YAt xs) (G := fun H => SqT K H a xs) (as := as) (by rw [← hl]; exact walk_tup) (fun _ => true) g (fun H' e' => ex_t e' hs1) hz (fun i d H2 x H3 hd e2 hY => ?_) hD fun ys H' e' h' hy => q Dl ys H' (fresh_back e1 hD) (e1.trans e') h' (by rw [filter_yes] at hy; exact hy)
    obtain ⟨rfl, hx⟩ := hY
    obtain ⟨d', hd', hdp⟩ := dpA_getV ha hx
    rw [List.getElem?_map, hd] at hd'
    cases hd'
    exact ⟨Ex.refl _, fun Qg qg => qg _ (hs d x H1 _ (List.mem_of_getElem? hd) (e.trans e1) e2 hdp)⟩
end
theorem dep_pair (p : Nat × Int) : (pairD p).depth ≤ 60 := by
  rw [pairD, PyData.depth]
  exact Nat.succ_le_succ (depth_all (n := 59) fun d hd => by
    rcases List.mem_cons.mp hd with rfl | hd
    · simp [PyData.depth]
    · rcases List.mem_cons.mp hd with rfl | hd
      · simp [PyData.depth]
      · cases hd)
def unpD : PyData → Nat × Int
  | .tuple [.int a, .int b] => (a.toNat, b)
  | _ => (0, 0)
theorem unp_pair (p : Nat × Int) : unpD (pairD p) = p := by
  show ((p.1 : Int).toNat, p.2) = p
  rw [Int.toNat_natCast]
theorem sorted_lot {N : Nat → Nat} {S : Nat → Prop} {l : Lot} (hN : Inj N S) (hS : ∀ p ∈ l, S p.1) (ha : Asc l) {fs : List PyData} (hp : fs.Perm (l.map fun p => pairD (mvP N p))) (hw : fs.Pairwise fun x y => PySem.W.dataLt y x = false) : fs = (mvL N l).map pairD := by
  have e1 : fs = (fs.map unpD).map pairD := by
    rw [List.map_map]
    conv => lhs; rw [← List.map_id fs]
    refine List.map_congr_left fun d hd => ?_
    obtain ⟨p, _, rfl⟩ := List.mem_map.mp (hp.mem_iff.mp hd)
    show _ = pairD (unpD _)
    rw [unp_pair]
    rfl
  have e2 : (fs.map unpD).Perm (l.map (mvP N)) := by
    have z := hp.map unpD
    rw [List.map_map] at z
    rwa [show l.map (unpD ∘ fun p => pairD (mvP N p)) = l.map (mvP N) from List.map_congr_left fun p _ => unp_pair _] at z
  have e3 := e2.trans (mvL_perm N l).symm
  have asc := mvL_asc hN hS ha
  have le : (fs.map unpD).Pairwise fun a b => a.1 ≤ b.1 := by
    rw [e1, List.pairwise_map] at hw
    refine hw.imp fun {a b} h => ?_
    rw [pairD, pairD, PySem.W.dataLt_ii] at h
    have := of_decide_eq_false h
    omega
  have ne : (fs.map unpD).Pairwise fun a b => a.1 ≠ b.1 := (e3.pairwise_iff (fun {a b} h => Ne.symm h)).mpr (asc.imp fun h e => by omega)
  rw [e1, asc_uniq (List.Pairwise.imp₂ (fun a b h1 h2 => by omega) le ne) asc e3]
/-- the new numbers, in a dict -/
def NewAt (H : Hp) (nw : Addr) (N : Nat → Nat) (S : Nat → Prop) : Prop := ∃ kvs : List (Key × V), H nw = some (.dK kvs) ∧ ∀ i, S i → valV kvs (.inl (i : Int)) = some (.int (N i : Int))
theorem NewAt.mono {H H' : Hp} {nw : Addr} {N : Nat → Nat} {S : Nat → Prop} (h : NewAt H nw N S) (e : Ex H H') : NewAt H' nw N S := let ⟨k, h1, h2⟩ := h; ⟨k, e _ _ h1, h2⟩
def spMvL (K : PySem.W.Frag) : Sp := fun vs H Q _ => vs.length = 2 ∧ ∃ v nw l N S m, vs = [v, .ref nw] ∧ Dp K H v (lotD l) ∧ NewAt H nw N S ∧ Inj N S ∧ (∀ p ∈ l, S p.1) ∧ OkLot m l ∧ m ≤ 1000 ∧ ∀ w H2, Ex H H2 → Dp K H2 w (lotD (mvL N l)) → Q w H2
abbrev s__law_moved_lot : Stmt := top 37
abbrev N__law_moved_lot : List Str := ["lot", "new", "number", "count"]
theorem sc__law_moved_lot : FnScope N__law_moved_lot ["lot", "new"] (defScope s__law_moved_lot) := ⟨rfl, rfl, rfl, by decide +kernel, rfl, by decide +kernel, by decide +kernel⟩
theorem c_l_moved_lot (T : Tx D aK cB cT fL) : Ca D false 2 "_law_moved_lot" 2 (spMvL D.K) := by
  obtain ⟨f, fd, F, gm⟩ := T.f37
  refine ca_mk (st := s__law_moved_lot) (N := N__law_moved_lot) (ps := ["lot", "new"]) false F gm sc__law_moved_lot (F.bindsN fun _ _ _ _ _ _ us hl => match us, hl with | [_, _], _ => rfl) (fun vs H Q E h => h.1) fun cdv A outer s H vs Q E hG hr h => ?_
  have nd := sc__law_moved_lot.nd
  have hu6 : (bodyCx D N__law_moved_lot "_law_moved_lot" (defScope s__law_moved_lot) f cdv A outer s H E).A.units + 66 < cLine := by have := hr.un; omega
  refine ⟨_, (pss_one (ps_ret (pe_callTy call_tupI (by rfl) T.n_tuple (by decide +kernel) (pa_cons (pe_callB (cr_sortedD hu6) (by rfl) T.n_sorted (by decide +kernel) (pa_cons (pe_lc (own := [("number", 2), ("count", 3)]) (g := gTup D.K 2 (gCons (gName 2) (gCons (gName 3) gNil))) rfl nd (pi_tup (pv 0)) (blkOk_by (own := [("number", 2), ("count", 3)]) (N := N__law_moved_lot) (sc := defScope s__law_moved_lot) (by decide +kernel)) (fun _ _ _ _ _ => pg_tup rfl (pgs_cons (pg_name (i := 2) nd rfl (Or.inl rfl)) (pgs_cons (pg_name (i := 3) nd rfl (Or.inl rfl)) pgs_nil))) (fun _ _ _ _ _ => pts_nil) (fun _ _ _ _ _ => (pe_tup (pa_cons (pe_dget (hu_of hr) (pv 1) (pv 2) (fun _ _ => rfl)) (pa_cons (pv 3) pa_nil))))) pa_nil)) pa_nil)))), ?_⟩
  obtain ⟨_, v, nw, l, N, S, m, rfl, hv, hn, hN, hS, hok, hm, q⟩ := h
  have hlen := hok.len
  refine s_retD (K := D.K) (et_tupL (et_list (etl_sort (ds := l.map fun p => pairD (mvP N p)) (es := (mvL N l).map pairD) ?_ false (fun d hd => ?_) (fun d hd e he => ?_) (fun d hd => ?_) (fun d hd => ?_) fun fs h1 h2 => sorted_lot hN hS hok.inc h1 h2))) q
  · refine etl_is (etl_T2 (as := l) (c := pairD) (f1 := fun p => .int (p.1 : Int)) (f2 := fun p => .int p.2) (fun _ => true) (fun p => pairD (mvP N p)) (etv_var rfl hv) (fun _ _ => rfl) (by omega) fun b x y H1 H3 hb e1 e3 hx hy => ⟨rfl, et_yes, fun _ => .inl ⟨rfl, ?_⟩⟩) (by rw [filter_yes])
    cases hx
    cases hy
    obtain ⟨kvs, k1, k2⟩ := hn.mono (e1.trans e3)
    exact et_tup (eta_cons (etI (ev_dget (k := .inl (b.1 : Int)) (ev_var rfl) (ev_var rfl) k1 (k2 _ (hS b hb)))) (eta_cons (etI (ev_var rfl)) eta_nil)) (by show 2 ≤ 100000; decide)
  · obtain ⟨p, _, rfl⟩ := List.mem_map.mp hd
    rfl
  · obtain ⟨p, _, rfl⟩ := List.mem_map.mp hd
    obtain ⟨p', _, rfl⟩ := List.mem_map.mp he
    exact ok_pair _ _
  · obtain ⟨p, _, rfl⟩ := List.mem_map.mp hd
    exact ⟨_, _, rfl, _, rfl⟩
  · obtain ⟨p, _, rfl⟩ := List.mem_map.mp hd
    exact dep_pair _
def spMvU (K : PySem.W.Frag) : Sp := fun vs H Q _ => vs.length = 2 ∧ ∃ v nw u N S m, vs = [v, .ref nw] ∧ Dp K H v (useD u) ∧ NewAt H nw N S ∧ Inj N S ∧ Known S u ∧ OkUse m u ∧ m ≤ 1000 ∧ ∀ w H2, Ex H H2 → Dp K H2 w (useD (mvU N u)) → Q w H2
theorem et_mvl {K : PySem.W.Frag} {σ : L2.St} {H : Hp} {ta tb : TE} {E : XK} {nw : Addr} {l : Lot} {N : Nat → Nat} {S : Nat → Prop} {m : Nat} (h : Et K ta σ H (lotD l)) (hb : Ev tb σ H (.ref nw)) (hn : NewAt H nw N S) (hN : Inj N S) (hS : ∀ p ∈ l, S p.1) (hok : OkLot m l) (hm : m ≤ 1000) : Et K (tCa (spMvL K) E (tCons ta (tCons tb tNil))) σ H (lotD (mvL N l)) := fun H1 e Q q =>
  h H1 e _ fun v H2 e2 hv => hb H2 (e.trans e2) _ fun H3 e3 => ⟨rfl, v, nw, l, N, S, m, rfl, dp_mono e3 hv, hn.mono ((e.trans e2).trans e3), hN, hS, hok, hm, fun w H4 e4 hw => q w H4 ((e2.trans e3).trans e4) hw⟩
abbrev s__law_moved_use : Stmt := top 38
abbrev N__law_moved_use : List Str := ["use", "new", "lot"]
theorem sc__law_moved_use : FnScope N__law_moved_use ["use", "new"] (defScope s__law_moved_use) := ⟨rfl, rfl, rfl, by decide +kernel, rfl, by decide +kernel, by decide +kernel⟩
theorem c_l_moved_use (T : Tx D aK cB cT fL) : Ca D false 3 "_law_moved_use" 2 (spMvU D.K) := by
  have c_l_moved_lot := c_l_moved_lot T
  obtain ⟨f, fd, F, gm⟩ := T.f38
  refine ca_mk (st := s__law_moved_use) (N := N__law_moved_use) (ps := ["use", "new"]) false F gm sc__law_moved_use (F.bindsN fun _ _ _ _ _ _ us hl => match us, hl with | [_, _], _ => rfl) (fun vs H Q E h => h.1) fun cdv A outer s H vs Q E hG hr h => ?_
  have nd := sc__law_moved_use.nd
  refine ⟨_, (pss_cons (ps_if (pt_cmpR op_eq (pe_ix ix_tup (pv 0) pe_int (fun _ _ => rfl)) pe_str (nomark _)) (pss_one (ps_ret (pe_tup (pa_cons pe_str (pa_cons (pe_ix ix_tup (pv 0) pe_int (fun _ _ => rfl)) (pa_cons (pe_callTy call_tupI (by rfl) T.n_tuple (by decide +kernel) (pa_cons (pe_lc (own := [("lot", 2)]) (g := gName 2) rfl nd (pi_tup (pe_ix ix_tup (pv 0) pe_int (fun _ _ => rfl))) (blkOk_by (own := [("lot", 2)]) (N := N__law_moved_use) (sc := defScope s__law_moved_use) (by decide +kernel)) (fun _ _ _ _ _ => pg_name (i := 2) nd rfl (Or.inl rfl)) (fun _ _ _ _ _ => pts_nil) (fun _ _ _ _ _ => (pe_ca c_l_moved_lot (fun z => nomatch z) hr (by decide) passL rfl (pa_cons (pv 2) (pa_cons (pv 1) pa_nil))))) pa_nil)) pa_nil)))))) pss_nil)
    (pss_one (ps_ret (pe_ifExp (pt_cmpR op_eq (pe_ix ix_tup (pv 0) pe_int (fun _ _ => rfl)) pe_str (nomark _)) (pe_tup (pa_cons pe_str (pa_cons (pe_ca c_l_moved_lot (fun z => nomatch z) hr (by decide) passL rfl (pa_cons (pe_ix ix_tup (pv 0) pe_int (fun _ _ => rfl)) (pa_cons (pv 1) pa_nil))) (pa_cons (pe_ca c_l_moved_lot (fun z => nomatch z) hr (by decide) passL rfl (pa_cons (pe_ix ix_tup (pv 0) pe_int (fun _ _ => rfl)) (pa_cons (pv 1) pa_nil))) pa_nil)))) (pv 0))))), ?_⟩
  obtain ⟨_, v, nw, u, N, S, m, rfl, hv, hn, hN, hS, hok, hm, q⟩ := h
  obtain ⟨r, hr0⟩ := useD_head u
  have ix : ∀ {i : Nat} {d : PyData} {r : List PyData} {H1 : Hp}, useD u = .tuple r → Ex H H1 → r[i]? = some d → Et D.K (tOp (rIxT D.K) (tVar 0) (tC (.int (i : Int)))) (L2.start N__law_moved_use [v, .ref nw]) H1 d := fun hr e1 h => et_ixT (etv_var rfl (hr ▸ dp_mono e1 hv)) ev_c h
  have h0 : ∀ H1, Ex H H1 → ∀ w : Str, EvT (tTest (tOp rEq (tOp (rIxT D.K) (tVar 0) (tC (.int 0))) (tC (.str w)))) (L2.start N__law_moved_use [v, .ref nw]) H1 (decide (kindS u = w)) := fun H1 e1 w => et_is (et_test (ev_op (ev_etS (ix (i := 0) hr0 e1 rfl)) ev_c (rv_eq rfl))) (dec_str _ _)
  have e0 := Ex.refl H
  have same : mvU N u = u → ∀ H1, Ex H H1 → kindS u ≠ "fun" → kindS u ≠ "con" → ∀ {ta : TE} {Dn : Ends}, Dn.rt = Q → tRet (tIf (tTest (tOp rEq (tOp (rIxT D.K) (tVar 0) (tC (.int 0))) (tC (.str "fun")))) ta (tVar 0)) Dn (L2.start N__law_moved_use [v, .ref nw]) H1 := fun hsame H1 e1 hk _ {ta Dn} hD => by
    rw [hsame] at q
    refine s_retD (K := D.K) (d := useD u) (et_if (b := false) (et_is (h0 H1 e1 "fun") (decide_eq_false hk)) (fun z => absurd z (by decide)) fun _ => etv_var rfl (dp_mono e1 hv)) fun w H2 e2 hw => ?_
    rw [hD]
    exact q w H2 (e1.trans e2) hw
  cases u with
  | con w ls =>
    have hls : ls.length ≤ 4 := hok.2.1
    refine q_when (h0 H e0 "con") (fun _ H1 e1 => s_retD (K := D.K) (d := useD (mvU N (.con w ls))) (et_tup (eta_cons (etS ev_c) (eta_cons (ix (i := 1) rfl e1 rfl) (eta_cons (et_tupL (et_list (etl_is (etl_Ta (as := ls) (c := lotD) (fun l => lotD (mvL N l)) (ix (i := 2) rfl e1 rfl) (by omega) fun l x H2 H3 hl e2 e3 hx => ⟨rfl, et_yes, fun _ => .inl ⟨noL_pl _ (Nat.lt_of_le_of_lt (dep_lot _) (by decide)) (pl_lot _), ?_⟩⟩) (by rw [List.map_map]; rfl)))) eta_nil))) (by simp)) fun w H2 e2 hw => q w H2 (e1.trans e2) hw) fun z => absurd z (by show ¬ decide (("con" : Str) = "con") = false; decide)
    exact et_mvl (etv_var rfl (dp_mono e3 hx)) (ev_var rfl) (hn.mono ((e1.trans e2).trans e3)) hN (hS.lot (u := .con w ls) hl) (hok.2.2 l hl) hm
  | num i => exact q_when (h0 H e0 "con") (fun z => absurd z (by show ¬ decide (("num" : Str) = "con") = true; decide)) fun _ H1 e1 => same rfl H1 e1 (by show ("num" : Str) ≠ "fun"; decide) (by show ("num" : Str) ≠ "con"; decide) rfl
  | fin => exact q_when (h0 H e0 "con") (fun z => absurd z (by show ¬ decide (("end" : Str) = "con") = true; decide)) fun _ H1 e1 => same rfl H1 e1 (by show ("end" : Str) ≠ "fun"; decide) (by show ("end" : Str) ≠ "con"; decide) rfl
  | fn a b => exact q_when (h0 H e0 "con") (fun z => absurd z (by show ¬ decide (("fun" : Str) = "con") = true; decide)) fun _ H1 e1 => s_retD (K := D.K) (d := useD (mvU N (.fn a b))) (et_if (h0 H1 e1 "fun") (fun _ => et_tup (eta_cons (etS ev_c) (eta_cons (et_mvl (ix (i := 1) rfl e1 rfl) (ev_var rfl) (hn.mono e1) hN (hS.lot (u := .fn a b) (List.mem_cons_self ..)) hok.1 hm) (eta_cons (et_mvl (ix (i := 2) rfl e1 rfl) (ev_var rfl) (hn.mono e1) hN (hS.lot (u := .fn a b) (List.mem_cons_of_mem _ (List.mem_cons_self ..))) hok.2 hm) eta_nil))) (by simp)) fun z => absurd z (by show ¬ decide (("fun" : Str) = "fun") = false; decide)) fun w H2 e2 hw => q w H2 (e1.trans e2) hw
end Q
namespace Q
open PySem PySem.SeqAt PySem.W PyProof.Rows
/-! ### a table made level by level: plain -/
theorem ok_lk (u v : Use) : okC (lkD u) (lkD v) = true := by
  show okCA (.int (kindN u : Int) :: itemsU u) (.int (kindN v : Int) :: itemsU v) = true
  rw [okCA]
  split
  · rename_i e
    rw [eqv_int] at e
    exact ok_items (by have := of_decide_eq_true e; omega)
  · rfl
theorem ok_strs (a b : Str) (xs ys : List PyData) (pa : PyData.strOk a = true) (pb : PyData.strOk b = true) (h : a = b → okCA xs ys = true) : okCA (.str a :: xs) (.str b :: ys) = true := by
  rw [okCA]
  split
  · rename_i e
    exact h (PyData.str.inj ((eqv_pl (.str a) (.str b) (by simpa [plD] using pa) (by simpa [plD] using pb)).mp e))
  · rfl
theorem sk_num : PyData.strOk "num" = true := by decide +kernel
theorem sk_end : PyData.strOk "end" = true := by decide +kernel
theorem sk_con : PyData.strOk "con" = true := by decide +kernel
theorem sk_fun : PyData.strOk "fun" = true := by decide +kernel
theorem ok_use : ∀ u v : Use, okC (useD u) (useD v) = true
  | .num _, .num _ => ok_strs "num" "num" [.int _] [.int _] sk_num sk_num fun _ => ok_two _ _ _ _ rfl rfl
  | .num _, .fin => ok_strs "num" "end" _ _ sk_num sk_end fun h => absurd h (by decide)
  | .num _, .con _ _ => ok_strs "num" "con" _ _ sk_num sk_con fun h => absurd h (by decide)
  | .num _, .fn _ _ => ok_strs "num" "fun" _ _ sk_num sk_fun fun h => absurd h (by decide)
  | .fin, .num _ => ok_strs "end" "num" _ _ sk_end sk_num fun h => absurd h (by decide)
  | .fin, .fin => ok_strs "end" "end" [] [] sk_end sk_end fun _ => rfl
  | .fin, .con _ _ => ok_strs "end" "con" _ _ sk_end sk_con fun h => absurd h (by decide)
  | .fin, .fn _ _ => ok_strs "end" "fun" _ _ sk_end sk_fun fun h => absurd h (by decide)
  | .con _ _, .num _ => ok_strs "con" "num" _ _ sk_con sk_num fun h => absurd h (by decide)
  | .con _ _, .fin => ok_strs "con" "end" _ _ sk_con sk_end fun h => absurd h (by decide)
  | .con _ _, .con _ _ => ok_strs "con" "con" [.str _, .tuple _] [.str _, .tuple _] sk_con sk_con fun _ => ok_two _ _ _ _ rfl (ok_two _ _ _ _ (show okC (.tuple _) (.tuple _) = true from ok_map lotD ok_lot _ _) rfl)
  | .con _ _, .fn _ _ => ok_strs "con" "fun" _ _ sk_con sk_fun fun h => absurd h (by decide)
  | .fn _ _, .num _ => ok_strs "fun" "num" _ _ sk_fun sk_num fun h => absurd h (by decide)
  | .fn _ _, .fin => ok_strs "fun" "end" _ _ sk_fun sk_end fun h => absurd h (by decide)
  | .fn _ _, .con _ _ => ok_strs "fun" "con" _ _ sk_fun sk_con fun h => absurd h (by decide)
  | .fn _ _, .fn _ _ => ok_strs "fun" "fun" [_, _] [_, _] sk_fun sk_fun fun _ => ok_two _ _ _ _ (ok_lot _ _) (ok_two _ _ _ _ (ok_lot _ _) rfl)
theorem pl_use {m : Nat} {u : Use} (h : OkUse m u) : plD (useD u) = true := by
  have p := pl_items h
  cases u with
  | num i =>
    show (PyData.strOk "num" && (true && true)) = true
    rw [sk_num]; rfl
  | fin =>
    show (PyData.strOk "end" && true) = true
    rw [sk_end]; rfl
  | con w ls =>
    show (PyData.strOk "con" && (PyData.strOk (SL w) && (plA (ls.map lotD) && true))) = true
    rw [sk_con, pl_lots, str_ok (wd_all h.1)]; rfl
  | fn a b =>
    show (PyData.strOk "fun" && (plD (lotD a) && (plD (lotD b) && true))) = true
    rw [sk_fun, pl_lot, pl_lot]; rfl
/-! sizes -/
theorem dom_lotS {s m : Nat} {l : Lot} (h : OkLot m l) (hm : m ≤ s) (hs : 4 ≤ s) : domD s 2 (lotD l) = true := by
  refine domD_mk (by rw [List.length_map]; exact Nat.le_trans h.len hm) fun d hd => ?_
  obtain ⟨p, _, rfl⟩ := List.mem_map.mp hd
  exact domD_mk (Nat.le_trans (show 2 ≤ 4 by decide) hs) fun e he => by
    rcases List.mem_cons.mp he with rfl | he
    · rfl
    · rcases List.mem_cons.mp he with rfl | he
      · rfl
      · cases he
theorem dom_useS {s m : Nat} {u : Use} (h : OkUse m u) (hm : m ≤ s) (hs : 4 ≤ s) : domD s 4 (useD u) = true := by
  have ks : ∀ k : Str, PyData.strOk k = true → k.length ≤ 1000 → ∀ n, domD s n (.str k) = true := fun k h1 h2 n => by
    cases n <;> (rw [domD, h1, decide_eq_true h2]; rfl)
  cases u with
  | num i =>
    exact domD_mk (Nat.le_trans (show 2 ≤ 4 by decide) hs) fun e he => by
      rcases List.mem_cons.mp he with rfl | he
      · exact ks _ sk_num (by decide) _
      · rcases List.mem_cons.mp he with rfl | he
        · rfl
        · cases he
  | fin =>
    exact domD_mk (Nat.le_trans (show 1 ≤ 4 by decide) hs) fun e he => by
      rcases List.mem_cons.mp he with rfl | he
      · exact ks _ sk_end (by decide) _
      · cases he
  | con w ls =>
    exact domD_mk (Nat.le_trans (show 3 ≤ 4 by decide) hs) fun e he => by
      rcases List.mem_cons.mp he with rfl | he
      · exact ks _ sk_con (by decide) _
      · rcases List.mem_cons.mp he with rfl | he
        · refine ks _ (str_ok (wd_all h.1)) ?_ _
          have h1 := h.1
          unfold wd at h1
          rw [Bool.and_eq_true, Bool.and_eq_true, Bool.and_eq_true] at h1
          have h2 := of_decide_eq_true h1.1.1.2
          show (SX.S w).length ≤ 1000
          rw [SX.S_len]
          omega
        · rcases List.mem_cons.mp he with rfl | he
          · refine domD_mk (by rw [List.length_map]; have := h.2.1; omega) fun d hd => ?_
            obtain ⟨l, hl, rfl⟩ := List.mem_map.mp hd
            exact dom_lotS (h.2.2 l hl) hm hs
          · cases he
  | fn a b =>
    exact domD_mk (Nat.le_trans (show 3 ≤ 4 by decide) hs) fun e he => by
      rcases List.mem_cons.mp he with rfl | he
      · exact ks _ sk_fun (by decide) _
      · rcases List.mem_cons.mp he with rfl | he
        · exact domD_mono (Nat.le_refl _) (by decide) (dom_lotS h.1 hm hs)
        · rcases List.mem_cons.mp he with rfl | he
          · exact domD_mono (Nat.le_refl _) (by decide) (dom_lotS h.2 hm hs)
          · cases he
theorem dom_lot {m : Nat} {l : Lot} (h : OkLot m l) (hm : m ≤ 1000) : domD 1000 2 (lotD l) = true := dom_lotS h hm (by decide)
theorem dom_use {m : Nat} {u : Use} (h : OkUse m u) (hm : m ≤ 1000) : domD 1000 4 (useD u) = true := dom_useS h hm (by decide)
theorem dep_use {m : Nat} {u : Use} (h : OkUse m u) (hm : m ≤ 1000) : (useD u).depth ≤ 4 := (dom_lay (dom_use h hm)).2
theorem dep_lk (u : Use) : (lkD u).depth ≤ 4 := by
  rw [lkD, PyData.depth]
  refine Nat.succ_le_succ (depth_all (n := 3) fun d hd => ?_)
  rcases List.mem_cons.mp hd with rfl | hd
  · simp [PyData.depth]
  · exact dep_items u d hd
theorem dom_tab {us : List Use} (h : TabOk us) (hl : us.length ≤ 1000) : domD 1000 40 (.tuple (us.map useD)) = true := by
  refine domD_mk (by rw [List.length_map]; exact hl) fun d hd => ?_
  obtain ⟨u, hu, rfl⟩ := List.mem_map.mp hd
  obtain ⟨i, hi⟩ := List.getElem?_of_mem hu
  have hlt := (List.getElem?_eq_some_iff.mp hi).1
  exact domD_mono (Nat.le_refl _) (by decide) (dom_use (h.uses i u hi) (by omega))
theorem dom_tabS {s : Nat} {us : List Use} (h : TabOk us) (hl : us.length ≤ s) (hs : 4 ≤ s) : domD s 5 (.tuple (us.map useD)) = true := by
  refine domD_mk (by rw [List.length_map]; exact hl) fun d hd => ?_
  obtain ⟨u, hu, rfl⟩ := List.mem_map.mp hd
  obtain ⟨i, hi⟩ := List.getElem?_of_mem hu
  have hlt := (List.getElem?_eq_some_iff.mp hi).1
  exact dom_useS (h.uses i u hi) (by omega) hs
theorem hgts_le : ∀ {us : List Use}, ∀ n ∈ hgts us, n ≤ us.length := by
  intro us
  induction h : us.length generalizing us with
  | zero =>
    have : us = [] := List.length_eq_zero_iff.mp h
    subst this
    intro n hn
    cases hn
  | succ k ih =>
    rcases List.eq_nil_or_concat us with rfl | ⟨vs, u, rfl⟩
    · cases h
    · rw [List.concat_eq_append] at h ⊢
      have hv : vs.length = k := by simpa using h
      intro n hn
      rw [hgts_snoc] at hn
      rcases List.mem_append.mp hn with hn | hn
      · exact Nat.le_succ_of_le (ih hv n hn)
      · obtain rfl := List.mem_singleton.mp hn
        unfold hgt
        split
        · exact Nat.zero_le _
        · rename_i hne
          have hm := mxN_mem hne
          obtain ⟨p, _, e⟩ := List.mem_map.mp hm
          have : mxN (belowU (hgts vs) u) ≤ k := by
            rw [← e]
            rw [List.getD_eq_getElem?_getD]
            cases hg : (hgts vs)[p.1]? with
            | none => exact Nat.zero_le _
            | some x => exact ih hv x (List.mem_of_getElem? hg)
          omega
/-! ### levels -/
def hAt (us : List Use) (i : Nat) : Nat := (hgts us).getD i 0
def uAt (us : List Use) (i : Nat) : Use := us.getD i .fin
structure Stage (us : List Use) (h : Nat) (os : List Nat) (F : List Use) : Prop where
  nd : os.Nodup
  mem : ∀ i, i ∈ os ↔ i < us.length ∧ hAt us i < h
  len : F.length = os.length
  tab : TabOk F
  hts : ∀ j i, os[j]? = some i → hAt F j = hAt us i
  last : ∀ k, lastK F = some k → ∃ h' u, h' < h ∧ k = keyD h' u
abbrev pos (os : List Nat) (i : Nat) : Nat := os.idxOf i
theorem pos_at {os : List Nat} {i : Nat} (h : i ∈ os) : os[pos os i]? = some i := by
  rw [List.getElem?_eq_getElem (List.idxOf_lt_length_of_mem h), List.getElem_idxOf]
theorem pos_inj (os : List Nat) : Inj (pos os) (· ∈ os) := fun a b ha hb e => by
  have h1 := pos_at ha
  have h2 := pos_at hb
  rw [e, h2] at h1
  exact (Option.some.inj h1).symm
theorem pos_lt {os : List Nat} {i : Nat} (h : i ∈ os) : pos os i < os.length := List.idxOf_lt_length_of_mem h
theorem pos_old {os ps : List Nat} {i : Nat} (h : i ∈ os) : pos (os ++ ps) i = pos os i := by
  show List.idxOf i (os ++ ps) = _
  rw [List.idxOf_append, if_pos h]
theorem pos_new {os : List Nat} {k : Nat} (h : k ∉ os) : pos (os ++ [k]) k = os.length := by
  show List.idxOf k (os ++ [k]) = _
  rw [List.idxOf_append, if_neg h]
  simp
def mu (us : List Use) (os : List Nat) (k : Nat) : Use := mvU (pos os) (uAt us k)
def itD (us : List Use) (os : List Nat) (k : Nat) : PyData := .tuple [lkD (mu us os k), .int (k : Int), useD (mu us os k)]
def lvl (us : List Use) (h : Nat) (n : Nat) : List Nat := (List.range n).filter fun k => decide (hAt us k = h)
theorem uAt_is {us : List Use} {k : Nat} (h : k < us.length) : us[k]? = some (uAt us k) := by
  unfold uAt
  rw [List.getD_eq_getElem?_getD, List.getElem?_eq_getElem h]
  rfl
section
variable {us : List Use} {h : Nat} {os : List Nat} {F : List Use}
theorem Stage.known (s : Stage us h os F) (ok : ∀ i u, us[i]? = some u → OkUse i u) {k : Nat} (hk : k < us.length) (hh : hAt us k = h) : Known (· ∈ os) (uAt us k) := fun p hp => by
  have hu := uAt_is hk
  have o := ok k _ hu
  have b := o.below p hp
  refine (s.mem p.1).mpr ⟨by omega, ?_⟩
  have := hgt_below (hs := hgts us) hp
  rw [← hgts_at hu o] at this
  unfold hAt at hh ⊢
  rw [hh] at this
  exact this
theorem Stage.ok (s : Stage us h os F) (ok : ∀ i u, us[i]? = some u → OkUse i u) {k : Nat} (hk : k < us.length) (hh : hAt us k = h) : OkUse F.length (mu us os k) :=
  mvU_ok (pos_inj os) (s.known ok hk hh) (fun i hi => by rw [s.len]; exact pos_lt hi) (ok k _ (uAt_is hk))
theorem Stage.hgt (s : Stage us h os F) (ok : ∀ i u, us[i]? = some u → OkUse i u) {k : Nat} (hk : k < us.length) (hh : hAt us k = h) : hgt (hgts F) (mu us os k) = h := by
  have hu := uAt_is hk
  have e : Q.hgt (hgts F) (mu us os k) = Q.hgt (hgts us) (uAt us k) := mvU_hgt fun p hp => s.hts _ _ (pos_at (s.known ok hk hh p hp))
  rw [e, ← hgts_at hu (ok k _ hu)]
  exact hh
theorem Stage.inj (s : Stage us h os F) (ok : ∀ i u, us[i]? = some u → OkUse i u) (nd : us.Nodup) {a b : Nat} (ha : a < us.length) (ha' : hAt us a = h) (hb : b < us.length) (hb' : hAt us b = h) (e : lkD (mu us os a) = lkD (mu us os b)) : a = b := by
  have e' := PyData.tuple.inj e
  have e1 : kindN (mu us os a) = kindN (mu us os b) := by have := PyData.int.inj (List.cons.inj e').1; omega
  have e2 := items_inj e1 (List.cons.inj e').2
  have e3 := mvU_inj (pos_inj os) (s.known ok ha ha') (s.known ok hb hb') (ok a _ (uAt_is ha)) (ok b _ (uAt_is hb)) e2
  have h1 := uAt_is ha
  have h2 := uAt_is hb
  rw [← e3] at h2
  have g1 := (List.getElem?_eq_some_iff.mp h1)
  have g2 := (List.getElem?_eq_some_iff.mp h2)
  obtain ⟨l1, g1⟩ := g1
  obtain ⟨l2, g2⟩ := g2
  have pw := List.pairwise_iff_getElem.mp nd
  rcases Nat.lt_trichotomy a b with z | z | z
  · exact absurd (g1.trans g2.symm) (pw a b l1 l2 z)
  · exact z
  · exact absurd (g2.trans g1.symm) (pw b a l2 l1 z)
theorem lvl_mem {k n : Nat} : k ∈ lvl us h n ↔ k < n ∧ hAt us k = h := by
  unfold lvl
  rw [List.mem_filter, List.mem_range, decide_eq_true_eq]
theorem lvl_nd (n : Nat) : (lvl us h n).Nodup := List.Nodup.sublist (List.filter_sublist) List.nodup_range
theorem lt_int (a b : Nat) (u v : Use) (hab : a < b) : dataLt (keyD a u) (keyD b v) = true := by
  unfold dataLt
  have t1 : ∀ h u, keyToks (keyD h u) = .inl 1 :: .inl (h : Int) :: .inl 1 :: .inl (kindN u : Int) :: .inl 1 :: (keyToksAll (itemsU u) ++ [.inl 0]) := fun h u => by
    simp [keyD, keyToks, keyToksAll, restD_is]
  rw [t1, t1, lex_self, lex_cons]
  have : itemOrd.blt (.inl (a : Int)) (.inl (b : Int)) = true := decide_eq_true (show (a : Int) < b by omega)
  rw [this]
  rfl
theorem pl_lk {m : Nat} {u : Use} (k : OkUse m u) : plD (lkD u) = true := by
  show (true && plA (itemsU u)) = true
  rw [pl_items k]
  rfl
theorem lt_lk (h : Nat) {m n : Nat} {u v : Use} (hu : OkUse m u) (hv : OkUse n v) (e : lkD u ≠ lkD v) : dataLt (keyD h u) (keyD h v) = dataLt (lkD u) (lkD v) := by
  rw [← lt_same]
  show PyProof.Rows.lexLt itemOrd (keyToksAll [.int (h : Int), lkD u]) (keyToksAll [.int (h : Int), lkD v]) = _
  rw [ltA_yes, ltA_no (pl_lk hu) (pl_lk hv) (ok_lk u v) e]
/-- what the sorted level is -/
theorem sorted_lvl (s : Stage us h os F) (ok : ∀ i u, us[i]? = some u → OkUse i u) (nd : us.Nodup) {fs : List PyData} (hp : fs.Perm ((lvl us h us.length).map (itD us os))) (hw : fs.Pairwise fun x y => dataLt y x = false) :
    ∃ ps : List Nat, ps.Perm (lvl us h us.length) ∧ fs = ps.map (itD us os) ∧ ps.Pairwise fun a b => dataLt (lkD (mu us os a)) (lkD (mu us os b)) = true := by
  have back : ∀ d ∈ fs, ∃ k, k < us.length ∧ hAt us k = h ∧ d = itD us os k := fun d hd => by
    obtain ⟨k, hk, rfl⟩ := List.mem_map.mp (hp.mem_iff.mp hd)
    obtain ⟨h1, h2⟩ := lvl_mem.mp hk
    exact ⟨k, h1, h2, rfl⟩
  let g : PyData → Nat := fun d => match d with
    | .tuple [_, .int k, _] => k.toNat
    | _ => 0
  have gk : ∀ k, g (itD us os k) = k := fun k => Int.toNat_natCast k
  have e1 : fs = (fs.map g).map (itD us os) := by
    rw [List.map_map]
    conv => lhs; rw [← List.map_id fs]
    refine List.map_congr_left fun d hd => ?_
    obtain ⟨k, _, _, rfl⟩ := back d hd
    show _ = itD us os (g (itD us os k))
    rw [gk]
    rfl
  have e2 : (fs.map g).Perm (lvl us h us.length) := by
    have z := hp.map g
    rw [List.map_map] at z
    rwa [show (lvl us h us.length).map (g ∘ itD us os) = lvl us h us.length by
      conv => rhs; rw [← List.map_id (lvl us h us.length)]
      exact List.map_congr_left fun k _ => gk k] at z
  refine ⟨fs.map g, e2, e1, ?_⟩
  have nd2 : (fs.map g).Nodup := e2.nodup_iff.mpr (lvl_nd _)
  have mm : ∀ k ∈ fs.map g, k < us.length ∧ hAt us k = h := fun k hk => lvl_mem.mp (e2.mem_iff.mp hk)
  rw [e1, List.pairwise_map] at hw
  refine List.Pairwise.imp_of_mem (fun {a b} ha hb q => ?_) (hw.and nd2)
  obtain ⟨q1, q2⟩ := q
  obtain ⟨a1, a2⟩ := mm a ha
  obtain ⟨b1, b2⟩ := mm b hb
  have ne : lkD (mu us os a) ≠ lkD (mu us os b) := fun e => q2 (s.inj ok nd a1 a2 b1 b2 e)
  have pa := pl_lk (s.ok ok a1 a2)
  have pb := pl_lk (s.ok ok b1 b2)
  have q3 : dataLt (lkD (mu us os b)) (lkD (mu us os a)) = false := by
    rw [← ltA_no pb pa (ok_lk _ _) (Ne.symm ne)]
    exact q1
  cases q4 : dataLt (lkD (mu us os a)) (lkD (mu us os b)) with
  | true => rfl
  | false => exact absurd (lt_total _ _ pa pb (ok_lk _ _) q4 q3) ne
/-- one after the other -/
theorem level_go (s : Stage us h os F) (ok : ∀ i u, us[i]? = some u → OkUse i u) (nd : us.Nodup) {ps : List Nat} (hp : ps.Perm (lvl us h us.length)) (hw : ps.Pairwise fun a b => dataLt (lkD (mu us os a)) (lkD (mu us os b)) = true) :
    ∀ qs rs, ps = qs ++ rs → TabOk (F ++ qs.map (mu us os)) ∧ hgts (F ++ qs.map (mu us os)) = hgts F ++ List.replicate qs.length h := by
  intro qs
  generalize hn : qs.length = n
  induction n generalizing qs with
  | zero =>
    intro rs e
    have : qs = [] := List.length_eq_zero_iff.mp hn
    subst this
    simp only [List.map_nil, List.append_nil, List.replicate_zero, and_true]
    exact s.tab
  | succ n ih =>
    intro rs e
    rcases List.eq_nil_or_concat qs with rfl | ⟨qs', k, rfl⟩
    · cases hn
    · rw [List.concat_eq_append] at hn e ⊢
      have hn' : qs'.length = n := by simpa using hn
      obtain ⟨t, hh⟩ := ih qs' hn' (k :: rs) (by rw [e]; simp)
      have hk := lvl_mem.mp (hp.mem_iff.mp (show k ∈ ps by rw [e]; simp))
      have hok := s.ok ok hk.1 hk.2
      have hg : hgt (hgts (F ++ qs'.map (mu us os))) (mu us os k) = h := by
        rw [hgt_pre (by rw [hgts_len]; exact hok) (hgts_pre F _)]
        exact s.hgt ok hk.1 hk.2
      rw [List.map_append, ← List.append_assoc]
      refine ⟨.snoc t (hok.mono (by rw [List.length_append]; omega)) fun key hkey => ?_, ?_⟩
      · rw [hg]
        rcases List.eq_nil_or_concat qs' with rfl | ⟨qs2, j, rfl⟩
        · rw [List.map_nil, List.append_nil] at hkey
          obtain ⟨h', u, hlt, rfl⟩ := s.last key hkey
          exact lt_int _ _ _ _ hlt
        · rw [List.concat_eq_append] at hkey e hn'
          rw [List.map_append, ← List.append_assoc] at hkey
          rw [show [j].map (mu us os) = [mu us os j] from rfl, lastK_snoc] at hkey
          cases hkey
          have hj := lvl_mem.mp (hp.mem_iff.mp (show j ∈ ps by rw [e]; simp))
          have hgj : hgt (hgts (F ++ qs2.map (mu us os))) (mu us os j) = h := by
            rw [hgt_pre (by rw [hgts_len]; exact s.ok ok hj.1 hj.2) (hgts_pre F _)]
            exact s.hgt ok hj.1 hj.2
          rw [hgj]
          have hlt : dataLt (lkD (mu us os j)) (lkD (mu us os k)) = true := by
            rw [e] at hw
            have h1 := (List.pairwise_append.mp hw).1
            exact (List.pairwise_append.mp h1).2.2 j (by simp) k (by simp)
          rw [lt_lk h (s.ok ok hj.1 hj.2) hok (fun z => by rw [z] at hlt; rw [show dataLt (lkD (mu us os k)) (lkD (mu us os k)) = false from PyProof.Rows.lex_irrefl _] at hlt; cases hlt)]
          exact hlt
      · rw [show [k].map (mu us os) = [mu us os k] from rfl, hgts_snoc, hg, hh, List.append_assoc]
        congr 1
        rw [← List.replicate_succ']
theorem Stage.next (s : Stage us h os F) (ok : ∀ i u, us[i]? = some u → OkUse i u) (nd : us.Nodup) {ps : List Nat} (hp : ps.Perm (lvl us h us.length)) (hw : ps.Pairwise fun a b => dataLt (lkD (mu us os a)) (lkD (mu us os b)) = true) : Stage us (h + 1) (os ++ ps) (F ++ ps.map (mu us os)) := by
  obtain ⟨t, hh⟩ := level_go s ok nd hp hw ps [] (by simp)
  refine ⟨?_, fun i => ?_, by rw [List.length_append, List.length_append, List.length_map, s.len], t, fun j i hj => ?_, fun k hk => ?_⟩
  · refine List.nodup_append.mpr ⟨s.nd, hp.nodup_iff.mpr (lvl_nd _), fun a ha b hb e => ?_⟩
    subst e
    have h1 := ((s.mem a).mp ha).2
    have h2 := (lvl_mem.mp (hp.mem_iff.mp hb)).2
    omega
  · rw [List.mem_append, s.mem, hp.mem_iff, lvl_mem]
    omega
  · unfold hAt
    rw [hh, List.getD_eq_getElem?_getD]
    rcases Nat.lt_or_ge j os.length with z | z
    · rw [List.getElem?_append_left z] at hj
      have := s.hts j i hj
      rw [List.getElem?_append_left (by rw [hgts_len, s.len]; exact z)]
      unfold hAt at this
      rw [List.getD_eq_getElem?_getD] at this
      exact this
    · rw [List.getElem?_append_right z] at hj
      have hi := (lvl_mem.mp (hp.mem_iff.mp (List.mem_of_getElem? hj))).2
      have hlt := (List.getElem?_eq_some_iff.mp hj).1
      rw [List.getElem?_append_right (by rw [hgts_len, s.len]; exact z), hgts_len, s.len, List.getElem?_replicate, if_pos hlt]
      exact hi.symm
  · rcases List.eq_nil_or_concat ps with rfl | ⟨qs, j, rfl⟩
    · rw [List.map_nil, List.append_nil] at hk
      obtain ⟨h', u, h1, h2⟩ := s.last k hk
      exact ⟨h', u, by omega, h2⟩
    · rw [List.concat_eq_append] at hk hp
      rw [List.map_append, ← List.append_assoc, show [j].map (mu us os) = [mu us os j] from rfl, lastK_snoc] at hk
      cases hk
      have hj := lvl_mem.mp (hp.mem_iff.mp (show j ∈ qs ++ [j] by simp))
      refine ⟨_, _, ?_, rfl⟩
      rw [hgt_pre (by rw [hgts_len]; exact s.ok ok hj.1 hj.2) (hgts_pre F _), s.hgt ok hj.1 hj.2]
      omega
theorem stage0 (us : List Use) : Stage us 0 [] [] := ⟨List.nodup_nil, fun i => ⟨fun h => (by cases h), fun h => absurd h.2 (Nat.not_lt_zero _)⟩, rfl, .nil, fun j i h => by simp at h, fun k h => by cases h⟩
theorem nd_len : ∀ (n : Nat) (l : List Nat), l.Nodup → (∀ x ∈ l, x < n) → l.length ≤ n
  | 0, l, _, h => by
    cases l with
    | nil => exact Nat.le_refl _
    | cons a l => exact absurd (h a (List.mem_cons_self ..)) (Nat.not_lt_zero _)
  | n + 1, l, nd, h => by
    have e := nd_len n (l.erase n) (nd.erase n) fun x hx => by
      have h1 := h x (List.mem_of_mem_erase hx)
      have h2 : x ≠ n := fun z => by
        subst z
        exact (List.Nodup.not_mem_erase nd) hx
      omega
    rw [List.length_erase] at e
    split at e <;> omega
theorem Stage.small (s : Stage us h os F) : F.length ≤ us.length := by
  rw [s.len]
  exact nd_len _ _ s.nd fun x hx => ((s.mem x).mp hx).1
end
end Q
namespace Q
open PySem PySem.Spec PyProof.Rows L2 Evl
variable {D : Wd} {aK cB cT fL : Addr}
/-! a dict changed: data stay -/
section
variable {K : PySem.W.Frag} {H : Hp} {p : Addr} {kvs : List (Key × V)} {o : HO}
mutual
theorem dp_dict (hp : H p = some (.dK kvs)) : ∀ {d : PyData} {v : V}, Dp K H v d → Dp K (upd H p o) v d
  | .none, _, h => by cases h; exact .non
  | .bool b, _, h => by cases h; exact .bl b
  | .int i, _, h => by cases h; exact .int i
  | .str x, _, h => by cases h; exact .str x
  | .list ds, _, h => by
    cases h with
    | lst hs ha =>
      refine .lst ?_ (dpA_dict hp ha)
      rcases hs with (h | ⟨o, h⟩) | h
      · exact .inl (.inl (by rw [upd_ne (ne_of h hp (by simp))]; exact h))
      · exact .inl (.inr ⟨o, by rw [upd_ne (ne_of h hp (by simp))]; exact h⟩)
      · exact .inr h
  | .tuple ds, _, h => by
    cases h with
    | tup hs ha =>
      refine .tup ?_ (dpA_dict hp ha)
      rcases hs with (h | ⟨o, h⟩) | h
      · exact .inl (.inl (by rw [upd_ne (ne_of h hp (by simp))]; exact h))
      · exact .inl (.inr ⟨o, by rw [upd_ne (ne_of h hp (by simp))]; exact h⟩)
      · exact .inr h
  | .dict _, _, h => by cases h
theorem dpA_dict (hp : H p = some (.dK kvs)) : ∀ {ds : List PyData} {vs : List V}, DpAll K H vs ds → DpAll K (upd H p o) vs ds
  | [], _, h => by cases h; exact .nil
  | d :: ds, _, h => by
    cases h with
    | cons h1 h2 => exact .cons (dp_dict hp h1) (dpA_dict hp h2)
end
end
theorem noL_pair (p : Nat × Int) : noL (pairD p) = true := rfl
theorem noL_lot : ∀ l : Lot, noLA (l.map pairD) = true
  | [] => rfl
  | p :: l => by
    show (noL (pairD p) && noLA (l.map pairD)) = true
    rw [noL_lot l]
    rfl
theorem noL_lots : ∀ ls : List Lot, noLA (ls.map lotD) = true
  | [] => rfl
  | l :: ls => by
    show (noLA (l.map pairD) && noLA (ls.map lotD)) = true
    rw [noL_lot, noL_lots ls]
    rfl
theorem noL_use : ∀ u : Use, noL (useD u) = true
  | .num _ => rfl
  | .fin => rfl
  | .con w ls => by
    show (true && (true && (noLA (ls.map lotD) && true))) = true
    rw [noL_lots]
    rfl
  | .fn a b => by
    show (true && (noLA (a.map pairD) && (noLA (b.map pairD) && true))) = true
    rw [noL_lot, noL_lot]
    rfl
theorem noL_lk : ∀ u : Use, noL (lkD u) = true
  | .num _ => rfl
  | .fin => rfl
  | .con w ls => by
    show (true && (true && (true && (noLA (ls.map lotD) && true)))) = true
    rw [noL_lots]
    rfl
  | .fn a b => by
    show (true && (noLA (a.map pairD) && (noLA (b.map pairD) && true))) = true
    rw [noL_lot, noL_lot]
    rfl
theorem noLA_map {α : Type} {f : α → PyData} (h : ∀ a, noL (f a) = true) : ∀ l : List α, noLA (l.map f) = true
  | [] => rfl
  | a :: l => by
    show (noL (f a) && noLA (l.map f)) = true
    rw [h, noLA_map h l]
    rfl
theorem noL_it (us : List Use) (os : List Nat) (k : Nat) : noL (itD us os k) = true := by
  show (noL (lkD _) && (true && (noL (useD _) && true))) = true
  rw [noL_lk, noL_use]
  rfl
section
variable {K : PySem.W.Frag} {σ : L2.St} {H : Hp} {ta te : TE} {Dn : Ends} {tz : TS} {d : PyData}
theorem s_appD {l : Addr} {xs : List V} (hl : H l = some (.lst xs)) (ha : Ev ta σ H (.ref l)) (h : Et K te σ H d) (hz : xs.length ≤ 100000) (k : ∀ v H1, Ex H H1 → Dp K H1 v d → Dn.nx σ (upd H1 l (.lst (xs ++ [v])))) :
    tDrop (tBM K "list" rAppend ta (tCons te tNil)) Dn σ H := ha H (Ex.refl H) _ fun H1 e1 => ⟨.inl ⟨rfl, _, sq_of (e1 _ _ hl)⟩, h H1 e1 _ fun v H2 e2 hv => ⟨l, xs, v, rfl, rfl, (e1.trans e2) _ _ hl, Nat.lt_of_le_of_lt hz (by decide), k v H2 (e1.trans e2) hv⟩⟩
end
theorem put_len (c : List (Key × V)) (k : Key) (x : V) : (putK c k x).length ≤ c.length + 1 := by
  unfold putK
  split <;> simp
/-- the making of a table, as it stands -/
structure TbS (K : PySem.W.Frag) (H0 H : Hp) (hp nw fd : Addr) (us : List Use) (os : List Nat) (F : List Use) : Prop where
  ex : Ex H0 H
  hh : H hp = some (.lst (natsV (hgts us)))
  nn : ∃ kvs : List (Key × V), H nw = some (.dK kvs) ∧ kvs.length ≤ os.length ∧ ∀ i, i ∈ os → valV kvs (.inl (i : Int)) = some (.int (pos os i : Int))
  ff : ∃ fs, H fd = some (.lst fs) ∧ DpAll K H fs (F.map useD)
section
variable {K : PySem.W.Frag} {H0 H H' : Hp} {hp nw fd lv : Addr} {us F : List Use} {os : List Nat}
theorem TbS.mono (s : TbS K H0 H hp nw fd us os F) (e : Ex H H') : TbS K H0 H' hp nw fd us os F :=
  ⟨s.ex.trans e, e _ _ s.hh, let ⟨k, a, b⟩ := s.nn; ⟨k, e _ _ a, b⟩, let ⟨fs, a, b⟩ := s.ff; ⟨fs, e _ _ a, dpA_mono e b⟩⟩
theorem TbS.lst {ws ws' : List V} (s : TbS K H0 H hp nw fd us os F) (h0 : H0 lv = none) (h1 : hp ≠ lv) (h2 : fd ≠ lv) (hl : H lv = some (.lst ws)) : TbS K H0 (upd H lv (.lst ws')) hp nw fd us os F := by
  obtain ⟨k, a, b⟩ := s.nn
  obtain ⟨fs, c, d⟩ := s.ff
  exact ⟨Ex.mut s.ex h0, by rw [upd_ne h1]; exact s.hh, ⟨k, by rw [upd_ne (ne_of a hl (by simp))]; exact a, b⟩, fs, by rw [upd_ne h2]; exact c, dpA_upd hl (noLA_map noL_use _) d⟩
theorem TbS.new (s : TbS K H0 H hp nw fd us os F) : NewAt H nw (pos os) (· ∈ os) := let ⟨k, a, _, b⟩ := s.nn; ⟨k, a, b⟩
/-- new[k] = len(found); found.append(use) -/
theorem TbS.add {k : Nat} {v : V} {u : Use} {kvs : List (Key × V)} {fs : List V} (s : TbS K H0 H hp nw fd us os F) (n0 : H0 nw = none) (f0 : H0 fd = none) (hf : hp ≠ fd) (hk : k ∉ os) (hlen : F.length = os.length) (hn : H nw = some (.dK kvs)) (hfd : H fd = some (.lst fs)) (hv : Dp K H v (useD u))
    (e : Ex (upd H nw (.dK (putK kvs (.inl (k : Int)) (.int (F.length : Int))))) H') : TbS K H0 (upd H' fd (.lst (fs ++ [v]))) hp nw fd us (os ++ [k]) (F ++ [u]) := by
  obtain ⟨kvs', a1, a2, a3⟩ := s.nn
  rw [hn] at a1
  cases a1
  obtain ⟨fs', c1, c2⟩ := s.ff
  rw [hfd] at c1
  cases c1
  have hne : hp ≠ nw := ne_of s.hh hn (by simp)
  have fne : fd ≠ nw := ne_of hfd hn (by simp)
  have eU : Ex H0 H' := (Ex.mut s.ex n0).trans e
  have hfd' : H' fd = some (.lst fs) := e _ _ (by rw [upd_ne fne]; exact hfd)
  refine ⟨Ex.mut eU f0, by rw [upd_ne hf]; exact e _ _ (by rw [upd_ne hne]; exact s.hh), ⟨_, by rw [upd_ne (Ne.symm fne)]; exact e _ _ upd_same, ?_, fun i hi => ?_⟩, _, upd_same, ?_⟩
  · rw [List.length_append]
    exact Nat.le_trans (put_len _ _ _) (Nat.succ_le_succ a2)
  · rw [valV_put]
    by_cases h : i = k
    · subst h
      rw [if_pos rfl, pos_new hk, hlen]
    · rw [if_neg (fun z => h (by have := Sum.inl.inj z; omega))]
      have hi' : i ∈ os := by
        rcases List.mem_append.mp hi with z | z
        · exact z
        · exact absurd (List.mem_singleton.mp z) h
      rw [a3 i hi', pos_old hi']
  · rw [List.map_append]
    have g : ∀ {d : PyData} {w : V}, noL d = true → Dp K H w d → Dp K (upd H' fd (.lst (fs ++ [v]))) w d := fun n q => dp_upd hfd' n (dp_mono e (dp_dict hn q))
    exact dpA_app (dpA_upd hfd' (noLA_map noL_use _) (dpA_mono e (dpA_dict hn c2))) (.cons (g (noL_use u) hv) .nil)
end
theorem lvl_succ (us : List Use) (h j : Nat) : lvl us h (j + 1) = lvl us h j ++ (if hAt us j = h then [j] else []) := by
  unfold lvl
  rw [List.range_succ, List.filter_append]
  by_cases e : hAt us j = h
  · rw [if_pos e, List.filter_cons, if_pos (decide_eq_true e)]
    rfl
  · rw [if_neg e, List.filter_cons, if_neg (by rw [decide_eq_false e]; decide)]
    rfl
theorem et_mvu {K : PySem.W.Frag} {σ : L2.St} {H : Hp} {ta tb : TE} {E : XK} {nw : Addr} {u : Use} {N : Nat → Nat} {S : Nat → Prop} {m : Nat} (h : Et K ta σ H (useD u)) (hb : Ev tb σ H (.ref nw)) (hn : NewAt H nw N S) (hN : Inj N S) (hS : Known S u) (hok : OkUse m u) (hm : m ≤ 1000) : Et K (tCa (spMvU K) E (tCons ta (tCons tb tNil))) σ H (useD (mvU N u)) := fun H1 e Q q =>
  h H1 e _ fun v H2 e2 hv => hb H2 (e.trans e2) _ fun H3 e3 => ⟨rfl, v, nw, u, N, S, m, rfl, dp_mono e3 hv, hn.mono ((e.trans e2).trans e3), hN, hS, hok, hm, fun w H4 e4 hw => q w H4 ((e2.trans e3).trans e4) hw⟩
theorem ev_max0 {K : PySem.W.Frag} {σ : L2.St} {H : Hp} {ns : List Nat} {q : Addr} {j : Nat} (hq : σ[j]? = some (some (.ref q))) (h : H q = some (.lst (natsV ns))) (hl : ns.length ≤ 4000) : Ev (tCB (rMax K) (tCons (tOp rCat (tLst (tCons (tC (.int 0)) tNil)) (tVar j)) tNil)) σ H (.int (mxN (0 :: ns) : Int)) := by
  refine ev_maxN (ns := 0 :: ns) ?_ (by simp)
  refine fun H1 e Q q' => el_lst (ea_cons (ev_c (v := .int 0)) ea_nil) (by decide) H1 e _ fun r H2 hr e2 h2 => ⟨.ref q, hq, ?_⟩
  refine ⟨r, q, _, _, rfl, rfl, h2, (e.trans e2) _ _ h, Nat.le_trans (m := 4001) ?_ (by decide), fun t ht => q' _ _ (e2.trans (Ex.new ht)) (.lst (sq_of upd_same) (dpA_nats (0 :: ns)))⟩
  unfold natsV
  rw [List.length_map]
  show 1 + _ ≤ 4001
  omega
theorem s_forSrt {K : PySem.W.Frag} {σ : L2.St} {H : Hp} {Dn : Ends} {g : TG} {tu : TS} {lv : Addr} {ls : List V} {ds : List PyData} {j : Nat} (tup : Bool) (hj : σ[j]? = some (some (.ref lv))) (hls : H lv = some (.lst ls)) (hall : DpAll K H ls ds) (h1 : ∀ d ∈ ds, plD d = true) (h2 : ∀ d ∈ ds, ∀ e ∈ ds, okC d e = true) (h3 : Begun tup ds) (h4 : ∀ d ∈ ds, d.depth ≤ 60)
    (k : ∀ ys fs r, fs.Perm ds → fs.Pairwise (fun x y => PySem.W.dataLt y x = false) → DpAll K H ys fs → H r = none → tFor (iList K (tC (.ref r))) g tu Dn σ (upd H r (.lst ys))) : tFor (iList K (tCB (rSortD K) (tCons (tVar j) tNil))) g tu Dn σ H :=
  ⟨.ref lv, hj, lv, ls, ds, tup, rfl, sq_of hls, hall, h1, h2, h3, h4, k⟩
theorem hAt_ix {us : List Use} {j : Nat} (h : j < us.length) : (natsV (hgts us))[j]? = some (.int (hAt us j : Int)) := by
  unfold natsV hAt
  rw [List.getElem?_map, List.getD_eq_getElem?_getD, List.getElem?_eq_getElem (by rw [hgts_len]; exact h)]
  rfl
def spTbl (K : PySem.W.Frag) : Sp := fun vs H Q _ => vs.length = 1 ∧ ∃ (a : Addr) (us : List Use), vs = [.ref a] ∧ Dp K H (.ref a) (.list (us.map useD)) ∧ (∀ i u, us[i]? = some u → OkUse i u) ∧ us.Nodup ∧ us.length ≤ 1000 ∧
  ∀ r t x (F : List Use) H2, Ex H H2 → H2 r = some (.tup [t, x]) → Dp K H2 t (.tuple (F.map useD)) → TabOk F → F.length ≤ us.length → Q (.ref r) H2
abbrev s__law_table : Stmt := top 41
abbrev N__law_table : List Str := ["uses", "heights", "new", "found", "height", "level", "k", "use", "key"]
theorem sc__law_table : FnScope N__law_table ["uses"] (defScope s__law_table) := ⟨rfl, rfl, rfl, by decide +kernel, rfl, by decide +kernel, by decide +kernel⟩
theorem c_l_table (T : Tx D aK cB cT fL) : Ca D false 4 "_law_table" 1 (spTbl D.K) := by
  have c_l_heights := c_l_heights T
  have c_l_moved_use := c_l_moved_use T
  have c_l_use_key := c_l_use_key T
  obtain ⟨f, fd, F, gm⟩ := T.f41
  refine ca_mk (st := s__law_table) (N := N__law_table) (ps := ["uses"]) false F gm sc__law_table (F.bindsN fun _ _ _ _ _ _ us hl => match us, hl with | [_], _ => rfl) (fun vs H Q E h => h.1) fun cdv A outer s H vs Q E hG hr h => ?_
  have nd := sc__law_table.nd
  have hu6 : (bodyCx D N__law_table "_law_table" (defScope s__law_table) f cdv A outer s H E).A.units + 66 < cLine := by have := hr.un; omega
  refine ⟨_, (pss_cons (ps_par3 (i := 1) (j := 2) (l := 3) (by rfl) nd rfl rfl rfl (by decide) (by decide) (by decide) rfl rfl rfl (pa_cons (pe_ca c_l_heights (fun z => nomatch z) hr (by decide) passL rfl (pa_cons (pv 0) pa_nil)) (pa_cons pe_dnewK (pa_cons (pe_lst pa_nil) pa_nil))) (by rfl))
    (pss_cons (ps_for (passes_of rfl) rfl (pi_range1 rfl T.n_range (pa_cons (pe_op op_add (pe_callB (cr_max rfl) (by rfl) T.n_max (by decide +kernel) (pa_cons (pe_op op_cat (pe_lst (pa_cons pe_int pa_nil)) (pv 1)) pa_nil)) pe_int) pa_nil)) (pg_name (i := 4) nd rfl (Or.inl rfl))
      (pss_cons (ps_set (i := 5) nd rfl (Or.inl rfl) (pe_lst pa_nil))
      (pss_cons (ps_for (passes_of rfl) rfl (pi_range1 rfl T.n_range (pa_cons (pe_callB call_lenL (by rfl) T.n_len (by decide +kernel) (pa_cons (pv 0) pa_nil)) pa_nil)) (pg_name (i := 6) nd rfl (Or.inl rfl))
        (pss_one (ps_if (pt_cmpR op_eq (pe_ix ix_list (pv 1) (pv 6) (fun _ _ => rfl)) (pv 4) (nomark _)) (pss_cons (ps_set (i := 7) nd rfl (Or.inl rfl) (pe_ca c_l_moved_use (fun z => nomatch z) hr (by decide) passL rfl (pa_cons (pe_ix ix_list (pv 0) (pv 6) (fun _ _ => rfl)) (pa_cons (pv 2) pa_nil))))
          (pss_one (ps_expr (pe_bm PySem.F.plainAttrs_list PySem.F.slot_list_append PySem.F.type_list_append mt_append (pv 5) (pa_cons (pe_tup (pa_cons (pe_ca c_l_use_key (fun z => nomatch z) hr (by decide) passL rfl (pa_cons (pv 7) pa_nil)) (pa_cons (pv 6) (pa_cons (pv 7) pa_nil)))) pa_nil))))) pss_nil)))
      (pss_one (ps_for (passes_of rfl) rfl (pi_list (pe_callB (cr_sortedD hu6) (by rfl) T.n_sorted (by decide +kernel) (pa_cons (pv 5) pa_nil))) (pg_tup rfl (pgs_cons (pg_name (i := 8) nd rfl (Or.inl rfl)) (pgs_cons (pg_name (i := 6) nd rfl (Or.inl rfl)) (pgs_cons (pg_name (i := 7) nd rfl (Or.inl rfl)) pgs_nil))))
        (pss_cons (ps_dput (hu_of hr) (pv 2) (pv 6) (pe_callB call_lenL (by rfl) T.n_len (by decide +kernel) (pa_cons (pv 3) pa_nil)) rfl)
        (pss_one (ps_expr (pe_bm PySem.F.plainAttrs_list PySem.F.slot_list_append PySem.F.type_list_append mt_append (pv 3) (pa_cons (pv 7) pa_nil))))))))))
    (pss_one (ps_ret (pe_tup (pa_cons (pe_callTy call_tupI (by rfl) T.n_tuple (by decide +kernel) (pa_cons (pv 3) pa_nil)) (pa_cons (pv 2) pa_nil))))))), ?_⟩
  obtain ⟨_, a, us, rfl, hv, hok, hnd, hlen, q⟩ := h
  have huse : UsesAt D.K H a us := by
    cases hv with
    | lst hs ha => exact ⟨_, .inl hs, ha⟩
  have hfr : ∀ {H' : Hp} {p : Addr}, Ex H H' → H' p = none → H p = none := fun e h => fresh_back e h
  refine ⟨.ref a, rfl, rfl, a, us, rfl, huse, hok, hlen, fun hp H1 hp0 e1 h1 => fun nw hn0 => ⟨sz_of (Nat.zero_le _), fun fd hf0 => ⟨_, _, _, rfl, ?_⟩⟩⟩
  have hnw : hp ≠ nw := ne_of_none h1 hn0
  have e2 : Ex H1 (upd H1 nw (.dK [])) := Ex.new hn0
  have hfd : hp ≠ fd := ne_of_none (e2 _ _ h1) hf0
  have hnf : nw ≠ fd := ne_of_none (show upd H1 nw (.dK []) nw = some (.dK []) from upd_same) hf0
  have e3 := (e1.trans e2).trans (Ex.new (o := .lst []) hf0)
  have n0 : H nw = none := hfr e1 hn0
  have f0 : H fd = none := hfr (e1.trans e2) hf0
  have t0 : TbS D.K H (upd (upd H1 nw (.dK [])) fd (.lst [])) hp nw fd us [] [] := ⟨e3, by rw [upd_ne hfd, upd_ne hnw]; exact h1, ⟨[], by rw [upd_ne hnf]; exact upd_same, Nat.le_refl _, fun i hi => by cases hi⟩, [], upd_same, .nil⟩
  generalize upd (upd H1 nw (.dK [])) fd (.lst []) = H3 at t0 e3 ⊢
  have hmx : mxN (0 :: hgts us) ≤ 1000 := by
    rcases List.mem_cons.mp (mxN_mem (l := 0 :: hgts us) (by simp)) with e | hm
    · rw [e]; omega
    · exact Nat.le_trans (hgts_le _ hm) hlen
  refine q_forR1 (n := (mxN (0 :: hgts us) : Int) + 1) (ea_cons (ev_op (ev_max0 rfl t0.hh (by rw [hgts_len]; omega)) ev_c rv_I0) ea_nil) (by omega) (fun i σ' H' => ∃ y4 y5 y6 y7 y8 os F, σ' = [some (.ref a), some (.ref hp), some (.ref nw), some (.ref fd), y4, y5, y6, y7, y8] ∧ TbS D.K H H' hp nw fd us os F ∧ Stage us i os F)
    (fun H2 e2 => ⟨_, _, _, _, _, [], [], rfl, t0.mono e2, stage0 us⟩) ?_ ?_
  · rintro i σ' H' hi ⟨y4, y5, y6, y7, y8, os, F, rfl, tb, st⟩
    refine q_asgL el_nil fun lv H2 hl0 e2 hlv => ?_
    have hvl : hp ≠ lv := ne_of_none tb.hh hl0
    have hfl : fd ≠ lv := by
      obtain ⟨fs, h, _⟩ := tb.ff
      exact ne_of_none h hl0
    have l0 : H lv = none := hfr tb.ex hl0
    have tb := tb.mono e2
    refine q_forR1 (n := (us.length : Int)) (ea_cons (ev_is (et_lenL (ds := us.map useD) (etv_var rfl (dp_mono tb.ex hv))) (by rw [List.length_map])) ea_nil) (by omega) (fun j σ'' H'' => ∃ y6 y7 ls, σ'' = [some (.ref a), some (.ref hp), some (.ref nw), some (.ref fd), some (.int (i : Int)), some (.ref lv), y6, y7, y8] ∧ TbS D.K H H'' hp nw fd us os F ∧ H'' lv = some (.lst ls) ∧ DpAll D.K H'' ls ((lvl us i j).map (itD us os)))
      (fun H4 e4 => ⟨_, _, [], rfl, tb.mono e4, e4 _ _ hlv, .nil⟩) ?_ ?_
    · rintro j σ'' H'' hj ⟨y6, y7, ls, rfl, tb, hls, hall⟩
      have hj : j < us.length := by omega
      have hlsl : ls.length ≤ 1000 := by
        rw [dpA_len hall, List.length_map]
        exact Nat.le_trans (List.length_filter_le _ _) (by rw [List.length_range]; omega)
      refine s_when (b := decide (hAt us j = i)) (et_is (et_test (ev_op (ev_op (ev_var rfl) (ev_var rfl) (rv_ixL (i := (j : Int)) (v := .int (hAt us j : Int)) (sq_of tb.hh) (atI_nat (hAt_ix hj)))) (ev_var rfl) (rv_eq rfl))) (dec_nat _ _)) (fun hb H4 e4 => ?_) fun hb H4 e4 => ?_
      · have hb := of_decide_eq_true hb
        have tb4 := tb.mono e4
        refine q_asgD (d := useD (mu us os j)) (et_mvu (u := uAt us j) (m := j) (et_ixL (i := j) (ds := us.map useD) (etv_var rfl (dp_mono tb4.ex hv)) (ev_var rfl) (by rw [List.getElem?_map, uAt_is hj]; rfl)) (ev_var rfl) tb4.new (pos_inj os) (st.known hok hj hb) (hok j _ (uAt_is hj)) (by omega)) fun w H5 e5 hw => ?_
        have h5 := (e4.trans e5) _ _ hls
        refine s_appD h5 (ev_var rfl) (et_tup (ds := [lkD (mu us os j), .int (j : Int), useD (mu us os j)]) (eta_cons (et_lk (etv_var rfl hw)) (eta_cons (etI (ev_var rfl)) (eta_cons (etv_var rfl hw) eta_nil))) (by show 3 ≤ 100000; decide)) (by omega) fun v H6 e6 hv6 => ?_
        have h6 := e6 _ _ h5
        refine ⟨_, _, ls ++ [v], rfl, (tb4.mono (e5.trans e6)).lst l0 hvl hfl h6, upd_same, ?_⟩
        rw [lvl_succ, if_pos hb, List.map_append]
        exact dpA_app (dpA_upd h6 (noLA_map (noL_it us os) _) (dpA_mono ((e4.trans e5).trans e6) hall)) (.cons (dp_upd h6 (noL_it us os j) hv6) .nil)
      · have hb := of_decide_eq_false hb
        refine ⟨_, _, ls, rfl, tb.mono e4, e4 _ _ hls, ?_⟩
        rw [lvl_succ, if_neg hb, List.append_nil]
        exact dpA_mono e4 hall
    · rintro σ'' H'' ⟨y6, y7, ls, rfl, tb, hls, hall⟩
      rw [show ((us.length : Int)).toNat = us.length by omega] at hall
      have back : ∀ d ∈ (lvl us i us.length).map (itD us os), ∃ k, k < us.length ∧ hAt us k = i ∧ d = itD us os k := fun d hd => by
        obtain ⟨k, hk, rfl⟩ := List.mem_map.mp hd
        obtain ⟨h1, h2⟩ := lvl_mem.mp hk
        exact ⟨k, h1, h2, rfl⟩
      have hF := st.small
      refine s_forSrt true rfl hls hall (fun d hd => ?_) (fun d hd e he => ?_) (fun d hd => ?_) (fun d hd => ?_) fun ys fs r hperm hpw hys hr => ?_
      · obtain ⟨k, h1, h2, rfl⟩ := back d hd
        show (plD (lkD _) && (true && (plD (useD _) && true))) = true
        rw [pl_lk (st.ok hok h1 h2), pl_use (st.ok hok h1 h2)]
        rfl
      · obtain ⟨k, h1, h2, rfl⟩ := back d hd
        obtain ⟨k', h1', h2', rfl⟩ := back e he
        exact ok_two _ _ _ _ (ok_lk _ _) (ok_two _ _ _ _ rfl (ok_two _ _ _ _ (ok_use _ _) rfl))
      · obtain ⟨k, h1, h2, rfl⟩ := back d hd
        exact ⟨_, _, rfl, _, rfl⟩
      · obtain ⟨k, h1, h2, rfl⟩ := back d hd
        rw [itD, PyData.depth]
        refine Nat.succ_le_succ (depth_all (n := 59) fun d hd => ?_)
        rcases List.mem_cons.mp hd with rfl | hd
        · exact Nat.le_trans (dep_lk _) (by decide)
        · rcases List.mem_cons.mp hd with rfl | hd
          · simp [PyData.depth]
          · rcases List.mem_cons.mp hd with rfl | hd
            · exact Nat.le_trans (dep_use (st.ok hok h1 h2) (by omega)) (by decide)
            · cases hd
      obtain ⟨ps, hp1, rfl, hp2⟩ := sorted_lvl st hok hnd hperm hpw
      have nx := st.next hok hnd hp1 hp2
      have hyl : ys.length = ps.length := by rw [dpA_len hys, List.length_map]
      have rn : r ≠ nw := by
        obtain ⟨k, h, _⟩ := tb.nn
        exact Ne.symm (ne_of_none h hr)
      have rf : r ≠ fd := by
        obtain ⟨k, h, _⟩ := tb.ff
        exact Ne.symm (ne_of_none h hr)
      exact s_forL (xs := ys) ev_c (sq_of upd_same) (fun m σ3 H3 => ∃ y6 y7 y8, σ3 = [some (.ref a), some (.ref hp), some (.ref nw), some (.ref fd), some (.int (i : Int)), some (.ref lv), y6, y7, y8] ∧ TbS D.K H H3 hp nw fd us (os ++ ps.take m) (F ++ (ps.take m).map (mu us os)) ∧ H3 r = some (.lst ys) ∧ DpAll D.K H3 ys (ps.map (itD us os)))
        (fun H4 e4 => ⟨_, _, _, rfl, by simpa using tb.mono ((Ex.new hr).trans e4), e4 _ _ upd_same, dpA_mono ((Ex.new hr).trans e4) hys⟩) (fun m σ3 H3 _ z => by
          obtain ⟨_, _, _, _, _, z, _⟩ := z
          exact sq_of z) (fun m x σ3 H3 hx z => by
          obtain ⟨z6, z7, z8, rfl, tb3, hr3, hys3⟩ := z
          obtain ⟨d, hd, hdp⟩ := dpA_getV hys3 hx
          rw [List.getElem?_map] at hd
          cases hk : ps[m]? with
          | none => rw [hk] at hd; cases hd
          | some k =>
            rw [hk] at hd
            cases hd
            have tk : ps.take (m + 1) = ps.take m ++ [k] := by rw [List.take_succ, hk]; rfl
            have hknot : k ∉ os ++ ps.take m := fun hm => by
              have nd2 := nx.nd
              rw [← List.take_append_drop (m + 1) ps, tk, List.append_assoc, ← List.append_assoc] at nd2
              exact (List.nodup_append.mp nd2).2.2 k hm k (by simp) rfl
            have hlenF : (F ++ (ps.take m).map (mu us os)).length = (os ++ ps.take m).length := by
              rw [List.length_append, List.length_append, List.length_map, st.len]
            have hml : (os ++ ps.take m).length ≤ us.length := by
              have := nx.small
              rw [List.length_append, List.length_map, st.len] at this
              rw [List.length_append, List.length_take]
              omega
            cases hdp with
            | @tup r2 zs _ hr2 hzs =>
              cases hzs with
              | cons c1 hzs =>
                cases hzs with
                | cons c2 hzs =>
                  cases hzs with
                  | cons c3 hzs =>
                    cases hzs
                    cases c2
                    refine ⟨r2, _, rfl, hr2, rfl, _, _, rfl, _, _, rfl, _, _, rfl, rfl, ?_⟩
                    obtain ⟨kvs, hkv, hkl, _⟩ := tb3.nn
                    obtain ⟨gs, hgs, hga⟩ := tb3.ff
                    have hgl : gs.length = (F ++ (ps.take m).map (mu us os)).length := by rw [dpA_len hga, List.length_map]
                    refine q_put (k := .inl (k : Int)) (v := .int ((F ++ (ps.take m).map (mu us os)).length : Int)) (ev_is (ev_len (ev_var rfl) (sq_of hgs)) (by rw [hgl])) (ev_var rfl) (ev_var rfl) hkv (by omega) fun H4 e4 => ?_
                    have tb4 := tb3.mono e4
                    have hgf := ne_of (e4 _ _ hgs) (e4 _ _ hkv) (by simp)
                    refine s_app (xs := gs) (by rw [upd_ne hgf]; exact e4 _ _ hgs) (ev_var rfl) (ev_var rfl) (by omega) fun H5 e5 => ?_
                    have hr5 : H5 r = some (.lst ys) := e5 _ _ (by rw [upd_ne rn]; exact e4 _ _ hr3)
                    refine ⟨_, _, _, rfl, ?_, by rw [upd_ne rf]; exact hr5, ?_⟩
                    · rw [tk, List.map_append, ← List.append_assoc, ← List.append_assoc]
                      exact tb4.add n0 f0 hfd hknot hlenF (e4 _ _ hkv) (e4 _ _ hgs) (dp_mono e4 c3) e5
                    · exact dpA_upd (e5 _ _ (by rw [upd_ne hgf]; exact e4 _ _ hgs)) (noLA_map (noL_it us os) _) (dpA_mono e5 (dpA_dict (e4 _ _ hkv) (dpA_mono e4 hys3)))) (fun σ3 H3 z => by
          obtain ⟨z6, z7, z8, rfl, tb3, hr3, hys3⟩ := z
          rw [hyl, List.take_length] at tb3
          exact ⟨_, _, _, _, _, _, _, rfl, tb3, nx⟩)
  · rintro σ' H' ⟨y4, y5, y6, y7, y8, os, F, rfl, tb, st⟩
    obtain ⟨fs, hfs, hall⟩ := tb.ff
    refine et_tupL (K := D.K) (ds := F.map useD) (etv_var rfl (.lst (sq_of hfs) hall)) H' (Ex.refl _) _ fun t H2 e2 ht => ⟨.ref nw, rfl, sz_of (by show 2 ≤ 100000; decide), fun p hp => q p t (.ref nw) F _ ((tb.ex.trans e2).trans (Ex.new hp)) upd_same (dp_mono (Ex.new hp) ht) st.tab st.small⟩
end Q
namespace Q
open PySem PySem.Spec PyProof.Rows L2 Evl
variable {D : Wd} {aK cB cT fL : Addr}
def rSortDI : List V → Hp → VK → Prop := fun xs H Q => ∃ (a : Addr) (kvs : List (Key × V)) (ks : List Int), xs = [.ref a] ∧ Rd H a (.dK kvs) ∧ kvs.map (·.1) = ks.map Sum.inl ∧ ks.length < 64 ∧ ∀ (ys : List Int) (p : Addr), ys.Perm ks → ys.Pairwise (· ≤ ·) → H p = none → Q (.ref p) (upd H p (.lst (ys.map V.int)))
theorem call_sortDI {X : Cx} (hc : X.calm = true) : CallR X (.builtin "sorted") rSortDI := call_sortedDI hc
theorem Dx.mut {B B0 : Int} {H H' : Hp} {d la p : Addr} {o : HO} (D0 : Dr B0 H d la) (D1 : Dx B d la H H') (hp : H p = none) : Dx B d la H (upd H' p o) := by
  obtain ⟨ca0, _, _, r0, t0, _, hd0, hla0, hca0, _⟩ := id D0
  have nd : d ≠ p := ne_of_none hd0 hp
  have nl : la ≠ p := ne_of_none hla0 hp
  have nc : ca0 ≠ p := ne_of_none hca0 hp
  obtain ⟨r1, t1, hd1⟩ := D1.ce ca0 r0 t0 hd0
  refine ⟨fun q o h1 h2 h3 => by rw [upd_ne (ne_of_none h1 hp)]; exact D1.keep _ _ h1 h2 h3, ?_, fun ca' r' t' h' => let ⟨r2, t2, h2⟩ := D1.ce ca' r' t' h'; ⟨r2, t2, by rw [upd_ne nd]; exact h2⟩⟩
  obtain ⟨ca, bs, cs, r, tt, nlc, hd, hla, hca, l⟩ := D1.dr
  rw [hd1] at hd
  obtain rfl := kv_ca (HO.dK.inj (Option.some.inj hd))
  exact ⟨_, bs, cs, _, _, nlc, by rw [upd_ne nd]; exact hd1, by rw [upd_ne nl]; exact hla, by rw [upd_ne nc]; exact hca, by
    have e := HO.dK.inj (Option.some.inj hd)
    have e2 := (List.cons.inj (List.cons.inj (List.cons.inj (List.cons.inj e).2).2).2).1
    have e3 := V.int.inj (Prod.mk.inj e2).2
    rw [e3]
    exact l⟩
/-! ### a dict of whole numbers -/
def KV (l : List (Nat × Int)) : List (Key × V) := l.map fun p => (.inl (p.1 : Int), .int p.2)
def putL (l : List (Nat × Int)) (n : Nat) (c : Int) : List (Nat × Int) := if (l.any fun p => decide (p.1 = n)) = true then l.map (fun p => if p.1 = n then (p.1, c) else p) else l ++ [(n, c)]
theorem key_eq (a b : Nat) : decide ((.inl (a : Int) : Key) = .inl (b : Int)) = decide (a = b) := decide_eq_decide.mpr ⟨fun h => by have := Sum.inl.inj h; omega, fun h => by rw [h]⟩
theorem put_KV (l : List (Nat × Int)) (n : Nat) (c : Int) : putK (KV l) (.inl (n : Int)) (.int c) = KV (putL l n c) := by
  have e : ((KV l).any fun kv => decide (kv.1 = (.inl (n : Int) : Key))) = l.any fun p => decide (p.1 = n) := by
    unfold KV
    rw [List.any_map]
    congr 1
    funext p
    exact key_eq p.1 n
  unfold putK putL
  rw [e]
  split
  · unfold KV
    rw [List.map_map, List.map_map]
    refine List.map_congr_left fun p _ => ?_
    show (if (.inl (p.1 : Int) : Key) = .inl (n : Int) then _ else _) = _
    by_cases h : p.1 = n
    · rw [if_pos (by rw [h])]
      show _ = ((.inl ((if p.1 = n then (p.1, c) else p).1 : Int) : Key), V.int (if p.1 = n then (p.1, c) else p).2)
      rw [if_pos h]
    · rw [if_neg (fun z => h (by have := Sum.inl.inj z; omega))]
      show _ = ((.inl ((if p.1 = n then (p.1, c) else p).1 : Int) : Key), V.int (if p.1 = n then (p.1, c) else p).2)
      rw [if_neg h]
  · unfold KV
    rw [List.map_append]
    rfl
structure OkKV (m : Nat) (l : List (Nat × Int)) : Prop where
  ok : ∀ p ∈ l, p.1 < m ∧ 1 ≤ p.2
  nd : l.Pairwise fun a b => a.1 ≠ b.1
theorem OkKV.put {m n : Nat} {c : Int} {l : List (Nat × Int)} (h : OkKV m l) (hn : n < m) (hc : 1 ≤ c) : OkKV m (putL l n c) ∧ (putL l n c).length ≤ l.length + 1 := by
  unfold putL
  split
  · refine ⟨⟨fun p hp => ?_, ?_⟩, by rw [List.length_map]; omega⟩
    · obtain ⟨q, hq, rfl⟩ := List.mem_map.mp hp
      have := h.ok q hq
      split
      · exact ⟨this.1, hc⟩
      · exact this
    · rw [List.pairwise_map]
      refine h.nd.imp fun {a b} z => ?_
      have e : ∀ p : Nat × Int, (if p.1 = n then (p.1, c) else p).1 = p.1 := fun p => by split <;> rfl
      rw [e, e]
      exact z
  · rename_i hany
    refine ⟨⟨fun p hp => ?_, ?_⟩, by simp⟩
    · rcases List.mem_append.mp hp with hp | hp
      · exact h.ok p hp
      · rw [List.mem_singleton.mp hp]
        exact ⟨hn, hc⟩
    · refine List.pairwise_append.mpr ⟨h.nd, List.pairwise_singleton _ _, fun a ha b hb e => hany ?_⟩
      rw [List.mem_singleton.mp hb] at e
      exact List.any_eq_true.mpr ⟨a, ha, decide_eq_true e⟩
theorem KV_get {l : List (Nat × Int)} (h : l.Pairwise fun a b => a.1 ≠ b.1) : ∀ p ∈ l, valV (KV l) (.inl (p.1 : Int)) = some (.int p.2) := by
  induction l with
  | nil => intro p hp; cases hp
  | cons q l ih =>
    obtain ⟨h1, h2⟩ := List.pairwise_cons.mp h
    intro p hp
    show valV ((.inl (q.1 : Int), .int q.2) :: KV l) _ = _
    rcases List.mem_cons.mp hp with rfl | hp
    · exact valV_pos rfl
    · rw [valV_neg (fun z => h1 p hp (by have := Sum.inl.inj z; omega))]
      exact ih h2 p hp
def srtL (l : Lot) : Lot := l.mergeSort leN
theorem srtL_perm (l : Lot) : (srtL l).Perm l := List.mergeSort_perm _ _
theorem srtL_asc {l : Lot} (h : l.Pairwise fun a b => a.1 ≠ b.1) : Asc (srtL l) := by
  have le : (srtL l).Pairwise fun a b => leN a b = true := List.pairwise_mergeSort (fun a b c h1 h2 => by
      have := of_decide_eq_true h1
      have := of_decide_eq_true h2
      exact decide_eq_true (by omega)) (fun a b => by
      unfold leN
      rcases Nat.le_total a.1 b.1 with z | z
      · rw [decide_eq_true z]; rfl
      · rw [decide_eq_true z, Bool.or_true]) _
  have nd2 : (srtL l).Pairwise fun a b => a.1 ≠ b.1 := ((srtL_perm l).pairwise_iff (fun {a b} h => Ne.symm h)).mpr h
  exact List.Pairwise.imp₂ (fun a b h1 h2 => by have := of_decide_eq_true h1; omega) le nd2
theorem srtL_ok {m : Nat} {l : Lot} (h : OkKV m l) : OkLot m (srtL l) := ⟨fun p hp => h.ok p ((srtL_perm l).mem_iff.mp hp), srtL_asc h.nd⟩
theorem srt_keys {l : Lot} (h : l.Pairwise fun a b => a.1 ≠ b.1) {ys : List Int} (hp : ys.Perm (l.map fun p => (p.1 : Int))) (hw : ys.Pairwise (· ≤ ·)) : ys = (srtL l).map fun p => (p.1 : Int) := by
  have nn : ∀ y ∈ ys, ((y.toNat : Nat) : Int) = y := fun y hy => by
    obtain ⟨p, _, rfl⟩ := List.mem_map.mp (hp.mem_iff.mp hy)
    rfl
  let c : Int → Nat × Int := fun y => (y.toNat, 0)
  have e1 : (ys.map c).Perm ((srtL l).map fun p => (p.1, (0 : Int))) := by
    have z := (hp.trans ((srtL_perm l).map fun p => (p.1 : Int)).symm).map c
    rw [List.map_map] at z
    exact z
  have a2 : Asc ((srtL l).map fun p => (p.1, (0 : Int))) := List.pairwise_map.mpr (srtL_asc h)
  have ne : ((srtL l).map fun p => (p.1, (0 : Int))).Pairwise fun a b => a.1 ≠ b.1 := a2.imp fun h e => by omega
  have a1 : Asc (ys.map c) := by
    have le : (ys.map c).Pairwise fun a b => a.1 ≤ b.1 := List.pairwise_map.mpr (hw.imp fun {a b} h => by show a.toNat ≤ b.toNat; omega)
    have ne1 : (ys.map c).Pairwise fun a b => a.1 ≠ b.1 := (e1.pairwise_iff (fun {a b} h => Ne.symm h)).mpr ne
    exact List.Pairwise.imp₂ (fun a b h1 h2 => by omega) le ne1
  have e2 := asc_uniq a1 a2 e1
  have e3 := congrArg (List.map fun p : Nat × Int => (p.1 : Int)) e2
  rw [List.map_map, List.map_map] at e3
  rw [show ys.map ((fun p : Nat × Int => (p.1 : Int)) ∘ c) = ys by
    conv => rhs; rw [← List.map_id ys]
    exact List.map_congr_left fun y hy => nn y hy] at e3
  exact e3
section
variable {K : PySem.W.Frag} {σ : L2.St} {H : Hp} {te ts tl : TE} {t : TT} {g : TG} {tu tz : TS} {Dn : Ends} {d la : Addr} {B : Int} {E : XK} {j0 : Nat}
theorem etl_La {α : Type} {as : List α} {c : α → PyData} {j : Nat} {vs : List Nat} (g : α → PyData) (h : Et K ts σ H (.list (as.map c))) (hz : as.length ≤ 1000000)
    (hs : ∀ a x H1 H3, a ∈ as → Ex H H1 → Ex H1 H3 → Dp K H1 x (c a) → Turn1 K H1 σ vs t te true (g a) ((wipe σ vs).set j (some x)) H3) : EtL K (tLc (iList K ts) (gName j) t te vs) σ H (as.map g) := fun H0 e Q q => h H0 e _ fun v H1 e1 hv => by
  cases hv with
  | @lst a xs _ hs1 ha =>
    have hl : xs.length = as.length := by rw [dpA_len ha, List.length_map]
    refine ⟨a, rfl, ⟨xs, hs1⟩, fun Dl hD => ?_⟩
    refine lc_dat (K := K) (Y := YAt xs) (G := fun H => SqL K H a xs) (as := as) (by rw [← hl]; exact walk_list) (fun _ => true) g (fun H' e' => ex_l e' hs1) hz (fun i d H2 x H3 hd e2 hY => ?_) hD fun ys H' e' h' hy => q Dl ys H' (fresh_back e1 hD) (e1.trans e') h' (by rw [filter_yes] at hy; exact hy)
    obtain ⟨rfl, hx⟩ := hY
    obtain ⟨d', hd', hdp⟩ := dpA_getV ha hx
    rw [List.getElem?_map, hd] at hd'
    cases hd'
    exact ⟨Ex.refl _, fun Qg qg => qg _ (hs d x H1 _ (List.mem_of_getElem? hd) (e.trans e1) e2 hdp)⟩
theorem q_forTk {n : Int} (h0 : σ[j0]? = some (some (.ref d))) (hn : Ev te σ H (.int n)) (hb : 0 < n ∧ n < 1073741824) (D0 : Dr B H d la) (hB : B < lim) (k : ∀ (i : Nat) H1, (i : Int) < n → Dx (B + 1) d la H H1 → tSeq (tFor (iRng1 (tCons (tC (.int (i : Int))) tNil)) g tu) tz Dn σ H1) : tSeq (tFor (iRng1 (tCons (tCa spTake E (tCons (tVar j0) (tCons te tNil))) tNil)) g tu) tz Dn σ H :=
  takeC (E := E) h0 hn hb D0 hB fun i H2 hi D2 => by
    obtain ⟨k', rfl, _⟩ := int_nat (n := n.toNat) ⟨hi.1, by omega⟩
    exact k k' H2 hi.2 D2
end
section
variable {σ : L2.St} {H : Hp} {tl : TE} {d la : Addr} {B : Int} {E : XK} {j0 : Nat} {Q : VK}
/-- from a new list of plain values -/
theorem pickE {xs : List V} {P : V → Prop} (h0 : σ[j0]? = some (some (.ref d))) (h : EvL tl σ H xs) (hne : xs ≠ []) (hl : xs.length ≤ 1000) (hP : ∀ y ∈ xs, P y) (D0 : Dr B H d la) (hB : B < lim) (q : ∀ v H2, P v → Dx (B + 1) d la H H2 → Q v H2) : tCa spPick E (tCons (tVar j0) (tCons tl tNil)) σ H Q :=
  pickN (xs := []) (PP := fun _ => P) h0 (fun H1 e Q q' => h H1 e Q fun p H2 hp e2 h2 => q' p xs H2 hp e2 h2 hne hl hP) (fun _ _ _ _ h => h) D0 hB q
end
def spDLot (K : PySem.W.Frag) : Sp := fun vs H Q _ => vs.length = 3 ∧ ∃ d la B m n, vs = [.ref d, .int ((m : Nat) : Int), .int ((n : Nat) : Int)] ∧ Dr B H d la ∧ B + 9 ≤ lim ∧ m ≤ 1000 ∧ n ≤ 4 ∧ ∀ w l H2, Dp K H2 w (lotD l) → OkLot m l → l.length ≤ 4 → Dx (B + 9) d la H H2 → Q w H2
def PInt1 : V → Prop := fun v => ∃ c : Int, v = .int c ∧ 1 ≤ c
abbrev s__law_drawn_lot : Stmt := top 46
abbrev N__law_drawn_lot : List Str := ["draw", "many", "most", "found", "lap", "number"]
theorem sc__law_drawn_lot : FnScope N__law_drawn_lot ["draw", "many", "most"] (defScope s__law_drawn_lot) := ⟨rfl, rfl, rfl, by decide +kernel, rfl, by decide +kernel, by decide +kernel⟩
theorem c_l_drawn_lot (T : Tx D aK cB cT fL) : Ca D false 4 "_law_drawn_lot" 3 (spDLot D.K) := by
  have c_l_take := c_l_take T
  have c_l_pick := c_l_pick T
  obtain ⟨f, fd, F, gm⟩ := T.f46
  refine ca_mk (st := s__law_drawn_lot) (N := N__law_drawn_lot) (ps := ["draw", "many", "most"]) false F gm sc__law_drawn_lot (F.bindsN fun _ _ _ _ _ _ us hl => match us, hl with | [_, _, _], _ => rfl) (fun vs H Q E h => h.1) fun cdv A outer s H vs Q E hG hr h => ?_
  have nd := sc__law_drawn_lot.nd
  have hu6 : (bodyCx D N__law_drawn_lot "_law_drawn_lot" (defScope s__law_drawn_lot) f cdv A outer s H E).A.units + 66 < cLine := by have := hr.un; omega
  refine ⟨_, (pss_cons (ps_set (i := 3) nd rfl (Or.inr rfl) pe_dnewK)
    (pss_cons (ps_for (passes_of rfl) rfl (pi_range1 rfl T.n_range (pa_cons (pe_ca c_l_take (fun z => nomatch z) hr (by decide) passL rfl (pa_cons (pv 0) (pa_cons (pe_op op_add (pv 2) pe_int) pa_nil))) pa_nil)) (pg_name (i := 4) nd rfl (Or.inl rfl))
      (pss_one (ps_if (pt_cmpR op_gt (pv 1) pe_int (nomark _)) (pss_one (ps_dput (hu_of hr) (pv 3) (pe_ca c_l_take (fun z => nomatch z) hr (by decide) passL rfl (pa_cons (pv 0) (pa_cons (pv 1) pa_nil))) (pe_ca c_l_pick (fun z => nomatch z) hr (by decide) passL rfl (pa_cons (pv 0) (pa_cons (pe_lst (pa_cons pe_int (pa_cons pe_int (pa_cons pe_int (pa_cons pe_int (pa_cons pe_int (pa_cons (pe_op op_pow pe_int pe_int) pa_nil))))))) pa_nil))) rfl)) pss_nil)))
    (pss_one (ps_ret (pe_callTy call_tupI (by rfl) T.n_tuple (by decide +kernel) (pa_cons (pe_lc (own := [("number", 5)]) (g := gName 5) rfl nd (pi_list (pe_callB (call_sortDI rfl) (by rfl) T.n_sorted (by decide +kernel) (pa_cons (pv 3) pa_nil))) (blkOk_by (own := [("number", 5)]) (N := N__law_drawn_lot) (sc := defScope s__law_drawn_lot) (by decide +kernel)) (fun _ _ _ _ _ => pg_name (i := 5) nd rfl (Or.inl rfl)) (fun _ _ _ _ _ => pts_nil) (fun _ _ _ _ _ => (pe_tup (pa_cons (pv 5) (pa_cons (pe_dget (hu_of hr) (pv 3) (pv 5) (fun _ _ => rfl)) pa_nil))))) pa_nil)))))), ?_⟩
  obtain ⟨_, d, la, B, m, n, rfl, D0, hB, hm, hn, q⟩ := h
  intro dn hdn
  have nd : dn ≠ d := D0.d_ne dn hdn
  have nl : dn ≠ la := D0.lst_ne dn hdn
  have D1 : Dr B (upd H dn (.dK [])) d la := D0.ex (Ex.new hdn)
  refine q_forTk (j0 := 0) (n := (n : Int) + 1) rfl (ev_op (ev_var rfl) ev_c rv_I0) (by omega) D1 (by omega) fun i H1 hi D2 => ?_
  have D02 : Dx (B + 1) d la H H1 := (Dx.of D0 (Ex.new hdn)).trans D2
  have h1 : H1 dn = some (.dK (KV [])) := D2.keep _ _ upd_same nd nl
  refine q_forR1 (n := (i : Int)) (ea_cons ev_c ea_nil) (by omega) (fun j σ' H' => ∃ y4 l, σ' = [some (.ref d), some (.int (m : Int)), some (.int (n : Int)), some (.ref dn), y4, none] ∧ Dx (B + 1 + 2 * j) d la H H' ∧ H' dn = some (.dK (KV l)) ∧ OkKV m l ∧ l.length ≤ j)
    (fun H2 e2 => ⟨_, [], rfl, (D02.ext e2).up (by omega), e2 _ _ h1, ⟨fun p hp => (by cases hp), .nil⟩, Nat.le_refl _⟩) ?_ ?_
  · rintro j σ' H' hj ⟨y4, l, rfl, Dj, hdj, okl, ll⟩
    refine s_when (b := decide ((0 : Int) < (m : Int))) (et_test (ev_op (ev_var rfl) ev_c rv_I0)) (fun hb H2 e2 => ?_) fun hb H2 e2 => ⟨_, l, rfl, (Dj.ext e2).up (by omega), e2 _ _ hdj, okl, by omega⟩
    have hm0 : 0 < (m : Int) := of_decide_eq_true hb
    have Dj2 := Dj.ext e2
    refine pickE (j0 := 0) (P := PInt1) (xs := [.int 1, .int 1, .int 1, .int 2, .int 3, .int ((10 : Int) ^ (20 : Int).toNat)]) rfl (el_lst (ea_cons ev_c (ea_cons ev_c (ea_cons ev_c (ea_cons ev_c (ea_cons ev_c (ea_cons (ev_op ev_c ev_c (rv_I (by unfold CPow; decide))) ea_nil)))))) (by show 6 ≤ 100000; decide)) (by simp) (by show 6 ≤ 1000; decide) (fun y hy => ?_) Dj2.dr (by omega) fun v H3 hv D3 => ?_
    · simp only [List.mem_cons, List.not_mem_nil, or_false] at hy
      rcases hy with rfl | rfl | rfl | rfl | rfl | rfl <;> exact ⟨_, rfl, by decide⟩
    obtain ⟨c, rfl, hc⟩ := hv
    refine ⟨.ref dn, rfl, ?_⟩
    refine takeC (j0 := 0) (n := (m : Int)) rfl (ev_var rfl) (by omega) D3.dr (by omega) fun x H4 hx D4 => ?_
    obtain ⟨k, rfl, hk⟩ := int_nat hx
    have D24 := D3.trans D4
    have hd4 : H4 dn = some (.dK (KV l)) := D24.keep _ _ (e2 _ _ hdj) nd nl
    obtain ⟨o1, o2⟩ := okl.put hk hc
    refine ⟨dn, _, rfl, DPut.k (k := .inl (k : Int)) hd4 (Nat.lt_of_le_of_lt (show _ ≤ 1000 by unfold KV; rw [List.length_map]; omega) (by decide)), _, putL l k c, rfl, ((Dj2.trans D24).mut D0 hdn).up (by omega), by rw [upd_same, put_KV], o1, by omega⟩
  · rintro σ' H' ⟨y4, l, rfl, Dj, hdj, okl, ll⟩
    have hl : l.length ≤ 4 := by omega
    have hs := srtL_ok okl
    refine s_retD (K := D.K) (d := lotD (srtL l)) (et_tupL (et_list (etl_La (as := srtL l) (c := fun p => .int (p.1 : Int)) pairD (fun H2 e2 Q2 q2 => ?_) (by rw [(srtL_perm l).length_eq]; omega) fun p x H2 H3 hp e2 e3 hx => ⟨rfl, et_yes, fun _ => .inl ⟨rfl, ?_⟩⟩))) fun w H2 e2 hw => q w _ H2 hw hs (by rw [(srtL_perm l).length_eq]; omega) ((Dj.ext e2).up (by omega))
    · refine ⟨.ref dn, rfl, dn, KV l, l.map fun p => (p.1 : Int), rfl, .inl (e2 _ _ hdj), ?_, by rw [List.length_map]; omega, fun ys p hperm hw hp => q2 _ _ (Ex.new hp) (.lst (sq_of upd_same) ?_)⟩
      · unfold KV
        rw [List.map_map, List.map_map]
        rfl
      · rw [srt_keys okl.nd hperm hw, List.map_map]
        exact dpA_of fun p _ => .int _
    · cases hx
      exact et_tup (eta_cons (etI (ev_var rfl)) (eta_cons (etI (ev_dget (k := .inl (p.1 : Int)) (ev_var rfl) (ev_var rfl) (e3 _ _ (e2 _ _ hdj)) (KV_get okl.nd p ((srtL_perm l).mem_iff.mp hp)))) eta_nil)) (by show 2 ≤ 100000; decide)
end Q
namespace Q
open PySem PySem.Spec PyProof.Rows L2 Evl
variable {D : Wd} {aK cB cT fL : Addr}
theorem wd_drawn : ∀ y ∈ [V.str "A", V.str "B", V.str "Ab", V.str "Pair", V.str "Zzzzzzzz"], ∃ w, y = V.str (SL w) ∧ wd w = true := by
  intro y hy
  simp only [List.mem_cons, List.not_mem_nil, or_false] at hy
  rcases hy with rfl | rfl | rfl | rfl | rfl
  · exact ⟨[65], by rw [show ("A" : Str) = SL [65] by decide +kernel], by decide⟩
  · exact ⟨[66], by rw [show ("B" : Str) = SL [66] by decide +kernel], by decide⟩
  · exact ⟨[65, 98], by rw [show ("Ab" : Str) = SL [65, 98] by decide +kernel], by decide⟩
  · exact ⟨[80, 97, 105, 114], by rw [show ("Pair" : Str) = SL [80, 97, 105, 114] by decide +kernel], by decide⟩
  · exact ⟨[90, 122, 122, 122, 122, 122, 122, 122], by rw [show ("Zzzzzzzz" : Str) = SL [90, 122, 122, 122, 122, 122, 122, 122] by decide +kernel], by decide⟩
theorem dom_usesL {us : List Use} (ok : ∀ i u, us[i]? = some u → OkUse i u) (hl : us.length ≤ 1000) : domD 1000 5 (.list (us.map useD)) = true := by
  refine domD_mkL (by rw [List.length_map]; exact hl) fun d hd => ?_
  obtain ⟨u, hu, rfl⟩ := List.mem_map.mp hd
  obtain ⟨i, hi⟩ := List.getElem?_of_mem hu
  have hlt := (List.getElem?_eq_some_iff.mp hi).1
  exact dom_use (ok i u hi) (by omega)
theorem any_use {us : List Use} {u : Use} {m : Nat} (ok : ∀ i u, us[i]? = some u → OkUse i u) (hu : OkUse m u) : ((us.map useD).any fun z => PyData.eqv z (useD u)) = true ↔ u ∈ us := by
  rw [List.any_map, List.any_eq_true]
  constructor
  · rintro ⟨w, hw, e⟩
    obtain ⟨i, hi⟩ := List.getElem?_of_mem hw
    have := useD_inj ((eqv_pl _ _ (pl_use (ok i w hi)) (pl_use hu)).mp e)
    rw [← this]
    exact hw
  · intro h
    exact ⟨u, h, (eqv_pl _ _ (pl_use hu) (pl_use hu)).mpr rfl⟩
section
variable {K : PySem.W.Frag} {σ : L2.St} {H : Hp} {d la : Addr} {B : Int} {E : XK} {Q : VK} {tb tc : TE} {m n : Nat}
theorem dlotC (h0 : σ[0]? = some (some (.ref d))) (hb : Ev tb σ H (.int (m : Int))) (hc : Ev tc σ H (.int (n : Int))) (D0 : Dr B H d la) (hB : B + 9 ≤ lim) (hm : m ≤ 1000) (hn : n ≤ 4) (q : ∀ w l H2, Dp K H2 w (lotD l) → OkLot m l → l.length ≤ 4 → Dx (B + 9) d la H H2 → Q w H2) : tCa (spDLot K) E (tCons (tVar 0) (tCons tb (tCons tc tNil))) σ H Q :=
  (show EvA (tCons (tVar 0) (tCons tb (tCons tc tNil))) σ H [.ref d, .int (m : Int), .int (n : Int)] from ea_cons (ev_var h0) (ea_cons hb (ea_cons hc ea_nil))) H (Ex.refl H) _ fun H2 e2 => ⟨rfl, d, la, B, m, n, rfl, D0.ex e2, hB, hm, hn, fun w l H3 hw hl h4 D3 => q w l H3 hw hl h4 ((Dx.of D0 e2).trans D3)⟩
theorem Dx.drop {B B' : Int} {H H' : Hp} (h : Dx B d la H H') (e : B ≤ B') : Dx B' d la H H' := h.up e
/-- a list of listless data outside the draws', one more behind -/
theorem rsA_app {p : Addr} {xs : List V} {v : V} {ds : List PyData} {x : PyData} (D0 : Dr B H d la) (h1 : p ≠ d) (h2 : p ≠ la) (hp : H p = some (.lst xs)) (hn : noLA ds = true) (hx : noL x = true) (ha : DpAll K (rs d la H) xs ds) (hv : Dp K H v x) : DpAll K (rs d la (upd H p (.lst (xs ++ [v])))) (xs ++ [v]) (ds ++ [x]) := by
  rw [rs_new h1 h2]
  have hp' : rs d la H p = some (.lst xs) := by rw [rs_get h1 h2]; exact hp
  exact dpA_app (dpA_upd hp' hn ha) (.cons (dp_upd hp' hx (dl_of D0 hx hv)) .nil)
/-- [drawn lots, one for each turn] -/
theorem lc_lots {fd : Addr} {Qd : Hp → Prop} {sl : L2.St} {H0 : Hp} {Dl : Addr} {B0 : Int} (hf : wipe σ [7] = sl) (hs0 : sl[0]? = some (some (.ref d))) (hs2 : sl[2]? = some (some (.ref fd))) (hset : ∀ x, wipe (sl.set 7 (some x)) [7] = sl) (hs0' : ∀ x, (sl.set 7 (some x))[0]? = some (some (.ref d))) (hs2' : ∀ x, (sl.set 7 (some x))[2]? = some (some (.ref fd)))
    (D0 : Dr B0 H0 d la) (D1 : Dx B d la H0 H) (hD : H Dl = none) {xs : List V} (hfd : H fd = some (.lst xs)) (nf1 : fd ≠ d) (nf2 : fd ≠ la) (hxl : xs.length = m) (hm : m ≤ 1000) (hn : n ≤ 4) (hB : B + 9 * n ≤ lim)
    (q : ∀ ys (ls : List Lot) H', Dx (B + 9 * n) d la H0 H' → H' fd = some (.lst xs) → H' Dl = some (.lst ys) → DpAll K (rs d la H') ys (ls.map lotD) → ls.length ≤ n → (∀ l ∈ ls, OkLot m l) → Qd H') :
    ∃ W : Nat → Nat → Hp → Prop, (∃ m, W 0 m (upd H Dl (.lst []))) ∧ ∀ i m H, W i m H →
      ((Itr 0 n).stop i H ∧ Qd H) ∨ ((Itr 0 n).go i H ∧ ∃ Nx : Hp → Prop, (∀ H', Nx H' → ∃ m', m' < m ∧ W (i + 1) m' H') ∧ ∀ x H', (Itr 0 n).yld i H x H' → gName 7 x (wipe σ [7]) H' fun σ2 H2 => wipe σ2 [7] = wipe σ [7] ∧ tYes σ2 H2 fun b H3 =>
        if b = true then tCa (spDLot K) E (tCons (tVar 0) (tCons (tCB (rLenS K) (tCons (tVar 2) tNil)) (tCons (tC (.int 3)) tNil))) σ2 H3 fun y H4 => ∃ acc, H4 Dl = some (.lst acc) ∧ acc.length < sizeLine ∧ Nx (upd H4 Dl (.lst (acc ++ [y]))) else Nx H3) := by
  have hD0 : H0 Dl = none := D1.back hD
  have nd : Dl ≠ d := D0.d_ne Dl hD0
  have nl : Dl ≠ la := D0.lst_ne Dl hD0
  have nfl : fd ≠ Dl := ne_of_none hfd hD
  refine lc_in (walk_range (lo := 0) (n := n)) (D := Dl) (fun i H' => Dx (B + 9 * i) d la H0 H' ∧ H' fd = some (.lst xs) ∧ ∃ ys, ∃ ls : List Lot, H' Dl = some (.lst ys) ∧ DpAll K (rs d la H') ys (ls.map lotD) ∧ ls.length = i ∧ ∀ l ∈ ls, OkLot m l) ⟨(D1.mut D0 hD0).up (by omega), by rw [upd_ne nfl]; exact hfd, [], [], upd_same, .nil, rfl, fun l hl => by cases hl⟩ (fun _ _ _ _ => trivial) ?_ ?_
  · rintro i x H1 H2 hi ⟨Di, hf1, ys, ls, hys, hall, hls, hok⟩ ⟨rfl, rfl⟩
    rw [hf]
    refine ⟨hset _, ?_⟩
    dsimp only [tYes]
    rw [if_pos rfl]
    refine dlotC (m := m) (n := 3) (hs0' _) (ev_is (ev_len (ev_var (hs2' _)) (sq_of hf1)) (by rw [hxl])) ev_c Di.dr (by omega) hm (by decide) fun w l H3 hw hl _ D3 => ?_
    have hys3 := D3.keep _ _ hys nd nl
    have hf3 := D3.keep _ _ hf1 nf1 nf2
    refine ⟨ys, hys3, Nat.lt_of_le_of_lt (show _ ≤ 1000 by rw [dpA_len hall, List.length_map]; omega) (by decide), ((Di.trans D3).mut D0 hD0).up (by omega), by rw [upd_ne nfl]; exact hf3, ys ++ [w], ls ++ [l], upd_same, ?_, by simp [hls], fun l' hl' => ?_⟩
    · rw [List.map_append]
      exact rsA_app D3.dr nd nl hys3 (noL_lots ls) (noL_lot l) (dpA_mono D3.kp.rs hall) hw
    · rcases List.mem_append.mp hl' with h | h
      · exact hok l' h
      · rw [List.mem_singleton.mp h]
        exact hl
  · rintro H1 ⟨Di, hf1, ys, ls, hys, hall, hls, hok⟩
    exact q ys ls H1 Di hf1 hys hall (by omega) hok
end
def spDUs (K : PySem.W.Frag) : Sp := fun vs H Q _ => vs.length = 2 ∧ ∃ d la B n, vs = [.ref d, .int ((n : Nat) : Int)] ∧ Dr B H d la ∧ B + 40 * n ≤ lim ∧ n ≤ 20 ∧
  ∀ p xs (us : List Use) H2, H p = none → H2 p = some (.lst xs) → DpAll K (rs d la H2) xs (us.map useD) → (∀ i u, us[i]? = some u → OkUse i u) → us.Nodup → us.length ≤ n → Dx (B + 40 * n) d la H H2 → Q (.ref p) H2
end Q
namespace Q
open PySem PySem.Spec PyProof.Rows L2 Evl
variable {D : Wd} {aK cB cT fL : Addr}
theorem et_niD {K : PySem.W.Frag} {σ : L2.St} {H : Hp} {ta tb : TE} {d : PyData} {ds : List PyData} (h1 : Et K ta σ H d) (h2 : Et K tb σ H (.list ds)) (s1 : SeqAt.shaped d = true) (s2 : SeqAt.shaped (.list ds) = true) : Ev (tOp (rNotInD K) ta tb) σ H (.bl (!ds.any fun z => PyData.eqv z d)) := fun H1 x Q q =>
  h1 H1 x _ fun v H2 e2 hv => h2 H2 (x.trans e2) _ fun w H3 e3 hw => ⟨d, ds, dp_mono e3 hv, hw, s1, s2, q H3 (e2.trans e3)⟩
abbrev s__law_drawn_uses : Stmt := top 47
abbrev N__law_drawn_uses : List Str := ["draw", "many", "found", "lap", "way", "use", "lots", "k"]
theorem sc__law_drawn_uses : FnScope N__law_drawn_uses ["draw", "many"] (defScope s__law_drawn_uses) := ⟨rfl, rfl, rfl, by decide +kernel, rfl, by decide +kernel, by decide +kernel⟩
theorem c_l_drawn_uses (T : Tx D aK cB cT fL) : Ca D false 5 "_law_drawn_uses" 2 (spDUs D.K) := by
  have c_l_take := c_l_take T
  have c_l_pick := c_l_pick T
  have c_l_drawn_lot := c_l_drawn_lot T
  obtain ⟨f, fdd, F, gm⟩ := T.f47
  refine ca_mk (st := s__law_drawn_uses) (N := N__law_drawn_uses) (ps := ["draw", "many"]) false F gm sc__law_drawn_uses (F.bindsN fun _ _ _ _ _ _ us hl => match us, hl with | [_, _], _ => rfl) (fun vs H Q E h => h.1) fun cdv A outer s H vs Q E hG hr h => ?_
  have nd := sc__law_drawn_uses.nd
  have hu5 : (bodyCx D N__law_drawn_uses "_law_drawn_uses" (defScope s__law_drawn_uses) f cdv A outer s H E).A.units + 65 < cLine := by have := hr.un; omega
  refine ⟨_, (pss_cons (ps_set (i := 2) nd rfl (Or.inr rfl) (pe_lst pa_nil))
    (pss_cons (ps_for (passes_of rfl) rfl (pi_range1 rfl T.n_range (pa_cons (pv 1) pa_nil)) (pg_name (i := 3) nd rfl (Or.inl rfl))
      (pss_cons (ps_set (i := 4) nd rfl (Or.inl rfl) (pe_ca c_l_take (fun z => nomatch z) hr (by decide) passL rfl (pa_cons (pv 0) (pa_cons pe_int pa_nil))))
      (Evl.pss_cut (ps_if (pt_cmpR op_lt (pv 4) pe_int (nomark _)) (pss_one (ps_set (i := 5) nd rfl (Or.inl rfl) (pe_tup (pa_cons pe_str (pa_cons (pe_ca c_l_pick (fun z => nomatch z) hr (by decide) passL rfl (pa_cons (pv 0) (pa_cons (pe_lst (pa_cons pe_int (pa_cons pe_int (pa_cons (pe_un un_neg pe_int) (pa_cons pe_int (pa_cons pe_int (pa_cons (pe_op op_pow pe_int pe_int) (pa_cons (pe_ca c_l_take (fun z => nomatch z) hr (by decide) passL rfl (pa_cons (pv 0) (pa_cons pe_int pa_nil))) (pa_cons (pe_un un_neg (pe_ca c_l_take (fun z => nomatch z) hr (by decide) passL rfl (pa_cons (pv 0) (pa_cons pe_int pa_nil)))) pa_nil))))))))) pa_nil))) pa_nil))))) (pss_one (ps_if (pt_cmpR op_lt (pv 4) pe_int (nomark _)) (pss_one (ps_set (i := 5) nd rfl (Or.inl rfl) (pe_tup (pa_cons pe_str pa_nil)))) (pss_one (ps_if (pt_cmpR op_lt (pv 4) pe_int (nomark _)) (pss_cons (ps_setLc (i := 6) (own := [("k", 7)]) (g := gName 7) rfl nd rfl rfl (sw_true rfl rfl rfl (by decide +kernel)) (pi_range1 rfl T.n_range (pa_cons (pe_ca c_l_take (fun z => nomatch z) hr (by decide) passL rfl (pa_cons (pv 0) (pa_cons pe_int pa_nil))) pa_nil)) (blkOk_by (own := [("k", 7)]) (N := N__law_drawn_uses) (sc := defScope s__law_drawn_uses) (by decide +kernel)) (fun _ _ _ _ _ => pg_name (i := 7) nd rfl (Or.inl rfl)) (fun _ _ _ _ _ => pts_nil) (fun _ _ _ _ _ => (pe_ca c_l_drawn_lot (fun z => nomatch z) hr (by decide) passL rfl (pa_cons (pv 0) (pa_cons (pe_callB (lenK (K := D.K) rfl) (by rfl) T.n_len (by decide +kernel) (pa_cons (pv 2) pa_nil)) (pa_cons pe_int pa_nil))))))
            (pss_one (ps_set (i := 5) nd rfl (Or.inl rfl) (pe_tup (pa_cons pe_str (pa_cons (pe_ca c_l_pick (fun z => nomatch z) hr (by decide) passL rfl (pa_cons (pv 0) (pa_cons (pe_lst (pa_cons pe_str (pa_cons pe_str (pa_cons pe_str (pa_cons pe_str (pa_cons pe_str pa_nil)))))) pa_nil))) (pa_cons (pe_callTy call_tupI (by rfl) T.n_tuple (by decide +kernel) (pa_cons (pv 6) pa_nil)) pa_nil))))))) (pss_one (ps_set (i := 5) nd rfl (Or.inl rfl) (pe_tup (pa_cons pe_str (pa_cons (pe_ca c_l_drawn_lot (fun z => nomatch z) hr (by decide) passL rfl (pa_cons (pv 0) (pa_cons (pe_callB call_lenL (by rfl) T.n_len (by decide +kernel) (pa_cons (pv 2) pa_nil)) (pa_cons pe_int pa_nil)))) (pa_cons (pe_ca c_l_drawn_lot (fun z => nomatch z) hr (by decide) passL rfl (pa_cons (pv 0) (pa_cons (pe_callB call_lenL (by rfl) T.n_len (by decide +kernel) (pa_cons (pv 2) pa_nil)) (pa_cons pe_int pa_nil)))) pa_nil)))))))))))
      (pss_one (ps_if (pt_cmpR (op_notInD hu5) (pv 5) (pv 2) (by rfl)) (pss_one (ps_expr (pe_bm PySem.F.plainAttrs_list PySem.F.slot_list_append PySem.F.type_list_append mt_append (pv 2) (pa_cons (pv 5) pa_nil)))) pss_nil)))))
    (pss_one (ps_ret (pv 2))))), ?_⟩
  obtain ⟨_, d, la, B, n, rfl, D0, hB, hn, q⟩ := h
  refine q_asgL el_nil fun fd H1 hfd0 e1 h1 => ?_
  have nfd := D0.d_ne fd hfd0
  have nfl := D0.lst_ne fd hfd0
  refine q_forR1 (n := (n : Int)) (ea_cons (ev_var rfl) ea_nil) (by omega) (fun j σ' H' => ∃ y3 y4 y5 y6 y7 xs us, σ' = [some (.ref d), some (.int (n : Int)), some (.ref fd), y3, y4, y5, y6, y7] ∧ Dx (B + 40 * j) d la H H' ∧ H' fd = some (.lst xs) ∧ DpAll D.K (rs d la H') xs (List.map useD us) ∧ (∀ i u, us[i]? = some u → OkUse i u) ∧ us.Nodup ∧ us.length ≤ j)
    (fun H2 e2 => ⟨_, _, _, _, _, [], [], rfl, (Dx.of D0 (e1.trans e2)).up (by omega), e2 _ _ h1, .nil, fun i u h => by simp at h, .nil, Nat.le_refl _⟩) ?_ ?_
  · rintro j σ' H' hj ⟨y3, y4, y5, y6, y7, xs, us, rfl, Dj, hf, hall, ok, hnd, hl⟩
    refine takeC (j0 := 0) (n := 7) rfl ev_c (by omega) Dj.dr (by omega) fun x H2 hx D2 => ?_
    have Dj2 := Dj.trans D2
    have hf2 := D2.keep _ _ hf nfd nfl
    have hall2 := dpA_mono D2.kp.rs hall
    have hxl : xs.length = us.length := by rw [dpA_len hall, List.length_map]
    have mid : ∀ {v : V} {u : Use} {z6 z7 : Option V} {c : Int} {H3 : Hp}, Dx c d la H2 H3 → c ≤ B + 40 * j + 40 → Dp D.K H3 v (useD u) → OkUse us.length u → ∃ v' u' z6' z7', [some (V.ref d), some (.int (n : Int)), some (.ref fd), some (.int (j : Int)), some (.int x), some v, z6, z7] = [some (V.ref d), some (.int (n : Int)), some (.ref fd), some (.int (j : Int)), some (.int x), some v', z6', z7'] ∧ Dx (B + 40 * j + 40) d la H H3 ∧ H3 fd = some (.lst xs) ∧ DpAll D.K (rs d la H3) xs (List.map useD us) ∧ Dp D.K H3 v' (useD u') ∧ OkUse us.length u' := fun {v u z6 z7 c H3} D3 hc hv hu => ⟨v, u, z6, z7, rfl, (Dj2.trans D3).up hc, D3.keep _ _ hf2 nfd nfl, dpA_mono D3.kp.rs hall2, hv, hu⟩
    refine q_cut (M := fun σ3 H3 => ∃ v u z6 z7, σ3 = [some (.ref d), some (.int (n : Int)), some (.ref fd), some (.int (j : Int)), some (.int x), some v, z6, z7] ∧ Dx (B + 40 * j + 40) d la H H3 ∧ H3 fd = some (.lst xs) ∧ DpAll D.K (rs d la H3) xs (List.map useD us) ∧ Dp D.K H3 v (useD u) ∧ OkUse us.length u) ?_ ?_
    · refine s_if (b := decide (x < 2)) (et_test (ev_op (ev_var rfl) ev_c rv_I0)) (fun _ H3 e3 => ?_) fun _ H3 e3 => s_if (b := decide (x < 3)) (et_test (ev_op (ev_var rfl) ev_c rv_I0)) (fun _ H4 e4 => ?_) fun _ H4 e4 => s_if (b := decide (x < 5)) (et_test (ev_op (ev_var rfl) ev_c rv_I0)) (fun _ H5 e5 => ?_) fun _ H5 e5 => ?_
      · have D3 := Dx.of D2.dr e3
        refine ⟨_, rfl, 1, rfl, 10, 60, rfl, rfl, (by unfold CPow; decide), ?_⟩
        refine takeC (j0 := 0) (n := 100) rfl ev_c (by omega) D3.dr (by omega) fun a H4 ha D4 => ?_
        refine takeC (j0 := 0) (n := 100) rfl ev_c (by omega) D4.dr (by omega) fun b H5 hb D5 => ⟨b, rfl, sz_of (by show 8 ≤ 100000; decide), fun p hp => ?_⟩
        refine ⟨rfl, d, la, _, p, _, (fun _ v => ∃ i : Int, v = .int i), rfl, D5.dr.ex (Ex.new hp), by omega, D5.dr.lst_ne p hp, upd_same, by simp, by show 8 ≤ 1000; decide, fun y hy => ?_, fun _ _ _ _ h => h, fun v H6 hv D6 => ?_⟩
        · simp only [List.mem_cons, List.not_mem_nil, or_false] at hy
          rcases hy with rfl | rfl | rfl | rfl | rfl | rfl | rfl | rfl <;> exact ⟨_, rfl⟩
        · obtain ⟨i, rfl⟩ := hv
          refine ⟨sz_of (by show 2 ≤ 100000; decide), fun r hr => mid (u := .num i) ((((D3.trans D4).trans D5).ext (Ex.new hp) |>.trans D6).ext (Ex.new hr)) (by omega) (.tup (st_of upd_same) (.cons (.str _) (.cons (.int i) .nil))) trivial⟩
      · have D4 := Dx.of D2.dr (e3.trans e4)
        exact s_asgD (K := D.K) (d := useD .fin) (et_tup (eta_cons (etS ev_c) eta_nil) (by show 1 ≤ 100000; decide)) fun v H5 e5 hv => mid (u := .fin) (D4.ext e5) (by omega) hv trivial
      · have D5 := Dx.of D2.dr ((e3.trans e4).trans e5)
        refine takeC (j0 := 0) (n := 5) rfl ev_c (by omega) D5.dr (by omega) fun y H6 hy D6 => ?_
        obtain ⟨k, rfl, hk⟩ := int_nat (n := 5) hy
        have D56 := D5.trans D6
        refine ⟨_, rfl, by omega, by omega, fun Dl hD => ?_⟩
        refine lc_lots (m := us.length) (n := k) (fd := fd) (xs := xs) rfl rfl rfl (fun _ => rfl) (fun _ => rfl) (fun _ => rfl) D2.dr D56 hD (D56.keep _ _ hf2 nfd nfl) nfd nfl hxl (by omega) (by omega) (by omega) fun ys ls H7 D7 hf7 hys hls hlen hok => ?_
        have hD2 : H2 Dl = none := D56.back hD
        have nd1 := D2.dr.d_ne Dl hD2
        have nl1 := D2.dr.lst_ne Dl hD2
        refine pickE (j0 := 0) (xs := [V.str "A", V.str "B", V.str "Ab", V.str "Pair", V.str "Zzzzzzzz"]) (P := fun y => ∃ w, y = V.str (SL w) ∧ wd w = true) rfl (el_lst (ea_cons ev_c (ea_cons ev_c (ea_cons ev_c (ea_cons ev_c (ea_cons ev_c ea_nil))))) (by show 5 ≤ 100000; decide)) (by simp) (by show 5 ≤ 1000; decide) wd_drawn D7.dr (by omega) fun v H8 hv D8 => ?_
        obtain ⟨w, rfl, hw⟩ := hv
        have hys8 := D8.keep _ _ hys nd1 nl1
        have hls8 := dpA_mono (rs_ex) (dpA_mono D8.kp.rs hls)
        refine et_tupL (K := D.K) (ds := ls.map lotD) (etv_var rfl (.lst (sq_of hys8) hls8)) H8 (Ex.refl _) _ fun t H9 e9 ht => ⟨sz_of (by show 3 ≤ 100000; decide), fun r hr => mid (u := .con w ls) ((((D7.trans D8).ext e9).ext (Ex.new hr))) (by omega) (.tup (st_of upd_same) (.cons (.str _) (.cons (.str _) (.cons (dp_mono (Ex.new hr) ht) .nil)))) ⟨hw, by omega, hok⟩⟩
      · have D5 := Dx.of D2.dr ((e3.trans e4).trans e5)
        refine dlotC (m := us.length) (n := 3) rfl (ev_is (ev_len (ev_var rfl) (sq_of (D5.keep _ _ hf2 nfd nfl))) (by rw [hxl])) ev_c D5.dr (by omega) (by omega) (by decide) fun v1 l1 H6 hv1 hl1 _ D6 => ?_
        have D56 := D5.trans D6
        refine dlotC (m := us.length) (n := 2) rfl (ev_is (ev_len (ev_var rfl) (sq_of (D56.keep _ _ hf2 nfd nfl))) (by rw [hxl])) ev_c D56.dr (by omega) (by omega) (by decide) fun v2 l2 H7 hv2 hl2 _ D7 => ?_
        have hv1' := (dl_of (x := lotD l1) D6.dr (noL_lot l1) hv1).kp D7.kp
        refine ⟨sz_of (by show 3 ≤ 100000; decide), fun r hr => mid (u := .fn l1 l2) ((D56.trans D7).ext (Ex.new hr)) (by omega) (.tup (st_of upd_same) (.cons (.str _) (.cons (dp_mono (Ex.new hr) hv1'.dp) (.cons (dp_mono (Ex.new hr) hv2) .nil)))) ⟨hl1, hl2⟩⟩
    · rintro σ3 H3 ⟨v, u, z6, z7, rfl, D3, hf3, hall3, hv, hu⟩
      refine s_when (b := !((us.map useD).any fun z => PyData.eqv z (useD u))) (et_test (et_niD (K := D.K) (etv_var rfl hv) (etv_var rfl (.lst (sq_of hf3) (dpA_mono rs_ex hall3))) (dom_shaped (dom_use hu (by omega)) (by decide)) (dom_shaped (dom_usesL ok (by omega)) (by decide)))) (fun hb H4 e4 => ?_) fun hb H4 e4 => ⟨_, _, _, _, _, xs, us, rfl, (D3.ext e4).up (by omega), e4 _ _ hf3, dpA_mono (Kp.of e4).rs hall3, ok, hnd, by omega⟩
      have hnot : u ∉ us := fun hm => by
        rw [(any_use ok hu).mpr hm] at hb
        cases hb
      refine s_app (e4 _ _ hf3) (ev_var rfl) (ev_var rfl) (by omega) fun H5 e5 => ?_
      have D5 := (D3.ext e4).ext e5
      refine ⟨_, _, _, _, _, xs ++ [v], us ++ [u], rfl, (D5.mut D0 hfd0).up (by omega), upd_same, ?_, fun i w hi => ?_, ?_, by simp; omega⟩
      · rw [List.map_append]
        exact rsA_app D5.dr nfd nfl (e5 _ _ (e4 _ _ hf3)) (noLA_map noL_use us) (noL_use u) (dpA_mono (Kp.of (e4.trans e5)).rs hall3) (dp_mono (e4.trans e5) hv)
      · rcases Nat.lt_or_ge i us.length with z | z
        · rw [List.getElem?_append_left z] at hi
          exact ok i w hi
        · rw [List.getElem?_append_right z] at hi
          have h0 : i - us.length = 0 := by
            have := (List.getElem?_eq_some_iff.mp hi).1
            simpa using this
          rw [h0] at hi
          cases hi
          exact hu.mono z
      · exact List.nodup_append.mpr ⟨hnd, (List.pairwise_singleton _ _), fun a ha b hb' e => hnot (by rw [← List.mem_singleton.mp hb', ← e]; exact ha)⟩
  · rintro σ' H' ⟨y3, y4, y5, y6, y7, xs, us, rfl, Dj, hf, hall, ok, hnd, hl⟩
    refine s_ret (ev_var rfl) fun H2 e2 => q fd xs us H2 hfd0 (e2 _ _ hf) (dpA_mono (Kp.of e2).rs hall) ok hnd (by omega) ((Dj.ext e2).up (by omega))
end Q
namespace Q
open PySem PySem.Spec PyProof.Rows L2 Evl
variable {D : Wd} {aK cB cT fL : Addr}
/-! ### displays of plain data -/
mutual
inductive TeD : Nat → TE → PyData → Prop
  | non {n : Nat} : TeD n (tC .non) .none
  | bl {n : Nat} {b : Bool} : TeD n (tC (.bl b)) (.bool b)
  | int {n : Nat} {i : Int} : TeD n (tC (.int i)) (.int i)
  | neg {n : Nat} {i : Int} : TeD n (tUn (rU fun i => .int (-i)) (tC (.int i))) (.int (-i))
  | str {n : Nat} {x : Str} (h : (PyData.strOk x && decide (x.length ≤ 1000)) = true) : TeD n (tC (.str x)) (.str x)
  | tup {n : Nat} {ta : TA} {ds : List PyData} (h : TaD n ta ds) (hl : ds.length ≤ 100) : TeD (n + 1) (tTup ta) (.tuple ds)
  | nil {n : Nat} : TeD (n + 1) (tLst tNil) (.list [])
inductive TaD : Nat → TA → List PyData → Prop
  | nil {n : Nat} : TaD n tNil []
  | cons {n : Nat} {te : TE} {ta : TA} {d : PyData} {ds : List PyData} (h : TeD n te d) (h2 : TaD n ta ds) : TaD n (tCons te ta) (d :: ds)
end
section
variable {K : PySem.W.Frag} {σ : L2.St} {d la : Addr} {B : Int}
mutual
theorem TeD.ev {n : Nat} {te : TE} {x : PyData} : TeD n te x → ∀ {H : Hp}, Dr B H d la → ∀ Q : VK, (∀ v H2, Ex H H2 → Dl K d la H2 v x → Q v H2) → te σ H Q
  | .non, H, _, Q, q => q _ H (Ex.refl H) .non
  | .bl, H, _, Q, q => q _ H (Ex.refl H) (.bl _)
  | .int, H, _, Q, q => q _ H (Ex.refl H) (.int _)
  | .neg, H, _, Q, q => ⟨_, rfl, q _ H (Ex.refl H) (.int _)⟩
  | .str _, H, _, Q, q => q _ H (Ex.refl H) (.str _)
  | .tup h hl, H, D0, Q, q => TaD.ev h D0 _ fun vs H2 e2 hvs => ⟨sz_of (by rw [dpA_len hvs]; omega), fun p hp => q _ _ (e2.trans (Ex.new hp)) (by
      have D2 := D0.ex e2
      show Dp K (rs d la _) _ _
      rw [rs_new (D2.d_ne p hp) (D2.lst_ne p hp)]
      have hp' : rs d la H2 p = none := by rw [rs_get (D2.d_ne p hp) (D2.lst_ne p hp)]; exact hp
      exact .tup (st_of upd_same) (dpA_mono (Ex.new hp') hvs))⟩
  | .nil, H, D0, Q, q => ⟨sz_of (Nat.zero_le _), fun p hp => q _ _ (Ex.new hp) (by
      show Dp K (rs d la _) _ _
      rw [rs_new (D0.d_ne p hp) (D0.lst_ne p hp)]
      exact .lst (sq_of upd_same) .nil)⟩
theorem TaD.ev {n : Nat} {ta : TA} {xs : List PyData} : TaD n ta xs → ∀ {H : Hp}, Dr B H d la → ∀ Q : List V → Hp → Prop, (∀ vs H2, Ex H H2 → DpAll K (rs d la H2) vs xs → Q vs H2) → ta σ H Q
  | .nil, H, _, Q, q => q [] H (Ex.refl H) .nil
  | .cons h h2, H, D0, Q, q => TeD.ev h D0 _ fun v H2 e2 hv => TaD.ev h2 (D0.ex e2) _ fun vs H3 e3 hvs => q (v :: vs) H3 (e2.trans e3) (.cons (dp_mono (Kp.of e3).rs hv) hvs)
end
theorem TaD.lst {n : Nat} {ta : TA} {xs : List PyData} {H : Hp} {Q : VK} (h : TaD n ta xs) (D0 : Dr B H d la) (hl : xs.length ≤ 100) (q : ∀ p vs H2, H p = none → Ex H H2 → H2 p = some (.lst vs) → DpAll K (rs d la H2) vs xs → Q (.ref p) H2) : tLst ta σ H Q :=
  TaD.ev (K := K) h D0 _ fun vs H2 e2 hvs => ⟨sz_of (by rw [dpA_len hvs]; omega), fun p hp => q p vs _ (fresh_back e2 hp) (e2.trans (Ex.new hp)) upd_same (dpA_mono (Kp.of (Ex.new hp)).rs hvs)⟩
theorem TaD.q_lst {n i : Nat} {ta : TA} {xs : List PyData} {H : Hp} {tz : TS} {Dn : Ends} (h : TaD n ta xs) (D0 : Dr B H d la) (hl : xs.length ≤ 100) (q : ∀ p vs H2, H p = none → Ex H H2 → H2 p = some (.lst vs) → DpAll K (rs d la H2) vs xs → tz Dn (σ.set i (some (.ref p))) H2) : tSeq (tAsg (tLst ta) (gName i)) tz Dn σ H := (show tLst ta σ H (fun x H1 => gName i x σ H1 (tz Dn)) from TaD.lst (K := K) h D0 hl q)
end
/-- a datum apart from the draws, of these sizes -/
def DL (K : PySem.W.Frag) (d la : Addr) (s n : Nat) (H : Hp) (v : V) : Prop := ∃ x, Dl K d la H v x ∧ domD s n x = true
theorem DL.kp {K : PySem.W.Frag} {d la : Addr} {s n : Nat} {H H' : Hp} {v : V} (h : DL K d la s n H v) (k : Kp d la H H') : DL K d la s n H' v := let ⟨x, a, b⟩ := h; ⟨x, a.kp k, b⟩
theorem dpA_all {K : PySem.W.Frag} {H : Hp} {s n : Nat} : ∀ {vs : List V} {ds : List PyData}, DpAll K H vs ds → (∀ d ∈ ds, domD s n d = true) → ∀ v ∈ vs, ∃ x, Dp K H v x ∧ domD s n x = true
  | _, _, .nil, _, v, hv => by cases hv
  | _, _, .cons h1 h2, hd, v, hv => by
    rcases List.mem_cons.mp hv with rfl | hv
    · exact ⟨_, h1, hd _ (List.mem_cons_self ..)⟩
    · exact dpA_all h2 (fun d hd' => hd d (List.mem_cons_of_mem _ hd')) v hv
def spOdd (K : PySem.W.Frag) : Sp := fun vs H Q _ => vs.length = 1 ∧ ∃ d la B, vs = [.ref d] ∧ Dr B H d la ∧ B < lim ∧ ∀ v H2, DL K d la 100 6 H2 v → Dx (B + 1) d la H H2 → Q v H2
def odds1 : List PyData := [.none, .bool true, .int 0, .int 1, .int 2, .int (-1), .int 5, .str "num", .str "end", .str "A", .str "ab", .tuple [], .list [], .tuple [.tuple [.int 0, .int 1]], .tuple [.tuple [.int 1, .int 1]], .tuple [.tuple [.int 0, .int 2], .tuple [.int 1, .int 1]], .tuple [.tuple [.int 1, .int 1], .tuple [.int 0, .int 1]], .tuple [.tuple [.int 0, .int 0]], .tuple [.int 0, .int 1], .tuple [.str "num", .int 1]]
def odds2 : List PyData := [.tuple [.str "num", .bool true], .tuple [.str "end"], .tuple [.str "con", .str "A", .tuple []], .tuple [.str "con", .str "a", .tuple []], .tuple [.str "fun", .tuple [], .tuple []], .tuple [.str "con", .str "A", .tuple [.tuple [], .tuple [], .tuple [], .tuple [], .tuple []]], .tuple [.str "fun", .tuple []], .tuple [.str "fun", .tuple [.tuple [.int 9, .int 1]], .tuple []]]
abbrev s__law_odd : Stmt := top 49
abbrev N__law_odd : List Str := ["draw", "some"]
theorem sc__law_odd : FnScope N__law_odd ["draw"] (defScope s__law_odd) := ⟨rfl, rfl, rfl, by decide +kernel, rfl, by decide +kernel, by decide +kernel⟩
theorem c_l_odd (T : Tx D aK cB cT fL) : Ca D false 4 "_law_odd" 1 (spOdd D.K) := by
  have c_l_pick := c_l_pick T
  obtain ⟨f, fdd, F, gm⟩ := T.f49
  refine ca_mk (st := s__law_odd) (N := N__law_odd) (ps := ["draw"]) false F gm sc__law_odd (F.bindsN fun _ _ _ _ _ _ us hl => match us, hl with | [_], _ => rfl) (fun vs H Q E h => h.1) fun cdv A outer s H vs Q E hG hr h => ?_
  have nd := sc__law_odd.nd
  refine ⟨_, (pss_cons (ps_set (i := 1) nd rfl (Or.inl rfl) (pe_lst (pa_cons pe_non (pa_cons pe_bl (pa_cons pe_int (pa_cons pe_int (pa_cons pe_int (pa_cons (pe_un un_neg pe_int) (pa_cons pe_int (pa_cons pe_str (pa_cons pe_str (pa_cons pe_str (pa_cons pe_str (pa_cons (pe_tup pa_nil) (pa_cons (pe_lst pa_nil) (pa_cons (pe_tup (pa_cons (pe_tup (pa_cons pe_int (pa_cons pe_int pa_nil))) pa_nil)) (pa_cons (pe_tup (pa_cons (pe_tup (pa_cons pe_int (pa_cons pe_int pa_nil))) pa_nil)) (pa_cons (pe_tup (pa_cons (pe_tup (pa_cons pe_int (pa_cons pe_int pa_nil))) (pa_cons (pe_tup (pa_cons pe_int (pa_cons pe_int pa_nil))) pa_nil))) (pa_cons (pe_tup (pa_cons (pe_tup (pa_cons pe_int (pa_cons pe_int pa_nil))) (pa_cons (pe_tup (pa_cons pe_int (pa_cons pe_int pa_nil))) pa_nil))) (pa_cons (pe_tup (pa_cons (pe_tup (pa_cons pe_int (pa_cons pe_int pa_nil))) pa_nil)) (pa_cons (pe_tup (pa_cons pe_int (pa_cons pe_int pa_nil))) (pa_cons (pe_tup (pa_cons pe_str (pa_cons pe_int pa_nil))) pa_nil))))))))))))))))))))))
    (pss_one (ps_ret (pe_ca c_l_pick (fun z => nomatch z) hr (by decide) passL rfl (pa_cons (pv 0) (pa_cons (pe_op op_cat (pv 1) (pe_lst (pa_cons (pe_tup (pa_cons pe_str (pa_cons pe_bl pa_nil))) (pa_cons (pe_tup (pa_cons pe_str pa_nil)) (pa_cons (pe_tup (pa_cons pe_str (pa_cons pe_str (pa_cons (pe_tup pa_nil) pa_nil)))) (pa_cons (pe_tup (pa_cons pe_str (pa_cons pe_str (pa_cons (pe_tup pa_nil) pa_nil)))) (pa_cons (pe_tup (pa_cons pe_str (pa_cons (pe_tup pa_nil) (pa_cons (pe_tup pa_nil) pa_nil)))) (pa_cons (pe_tup (pa_cons pe_str (pa_cons pe_str (pa_cons (pe_tup (pa_cons (pe_tup pa_nil) (pa_cons (pe_tup pa_nil) (pa_cons (pe_tup pa_nil) (pa_cons (pe_tup pa_nil) (pa_cons (pe_tup pa_nil) pa_nil)))))) pa_nil)))) (pa_cons (pe_tup (pa_cons pe_str (pa_cons (pe_tup pa_nil) pa_nil))) (pa_cons (pe_tup (pa_cons pe_str (pa_cons (pe_tup (pa_cons (pe_tup (pa_cons pe_int (pa_cons pe_int pa_nil))) pa_nil)) (pa_cons (pe_tup pa_nil) pa_nil)))) pa_nil)))))))))) pa_nil)))))), ?_⟩
  obtain ⟨_, d, la, B, rfl, D0, hB, q⟩ := h
  refine TaD.q_lst (K := D.K) (n := 6) (xs := odds1) ?_ D0 (by decide) fun p xs H1 hp e1 h1 hall => ?_
  · repeat (first | exact TaD.nil | refine TaD.cons ?_ ?_ | exact TeD.non | exact TeD.bl | exact TeD.int | exact TeD.neg | exact TeD.str (by decide +kernel) | exact TeD.nil | refine TeD.tup ?_ (by simp))
  have D1 := D0.ex e1
  have npd := D0.d_ne p hp
  have npl := D0.lst_ne p hp
  refine ⟨_, rfl, ⟨_, rfl, ?_⟩⟩
  refine TaD.lst (K := D.K) (n := 6) (xs := odds2) ?_ D1 (by decide) fun r ys H2 hr e2 h2 hall2 => ?_
  · repeat (first | exact TaD.nil | refine TaD.cons ?_ ?_ | exact TeD.non | exact TeD.bl | exact TeD.int | exact TeD.neg | exact TeD.str (by decide +kernel) | exact TeD.nil | refine TeD.tup ?_ (by simp))
  have D2 := D1.ex e2
  have l1 : xs.length = 20 := dpA_len hall
  have l2 : ys.length = 8 := dpA_len hall2
  refine ⟨p, r, xs, ys, rfl, rfl, e2 _ _ h1, h2, Nat.le_trans (m := 28) (by omega) (by decide), fun t ht => ?_⟩
  have e3 : Ex H2 (upd H2 t (.lst (xs ++ ys))) := Ex.new ht
  refine ⟨rfl, d, la, B, t, xs ++ ys, DL D.K d la 100 6, rfl, D2.ex e3, hB, D2.lst_ne t ht, upd_same, fun z => ?_, by rw [List.length_append]; omega, fun y hy => ?_, fun _ _ _ k h => h.kp k, fun v H3 hv D3 => q v H3 hv ((Dx.of D0 ((e1.trans e2).trans e3)).trans D3)⟩
  · have hx := (List.append_eq_nil_iff.mp z).1
    rw [hx] at l1
    cases l1
  · have h1 : ∀ o ∈ odds1, domD 100 6 o = true := by decide +kernel
    have h2 : ∀ o ∈ odds2, domD 100 6 o = true := by decide +kernel
    rcases List.mem_append.mp hy with hy | hy
    · exact dpA_all (dpA_mono (Kp.of (e2.trans e3)).rs hall) h1 y hy
    · exact dpA_all (dpA_mono (Kp.of e3).rs hall2) h2 y hy
end Q
namespace Q
open PySem PySem.Spec PyProof.Rows L2 Evl
variable {D : Wd} {aK cB cT fL : Addr}
section
variable {K : PySem.W.Frag} {σ : L2.St} {H : Hp} {ta tb te : TE} {t u : TT} {tu tz : TS} {Dn : Ends} {ds es : List PyData} {d la : Addr} {B : Int} {Q : VK} {x y : V}
theorem q_whenO (h : EvT t σ H false) (k : ∀ H1, Ex H H1 → tSeq (tIfS u tu tNext) tz Dn σ H1) : tSeq (tIfS (tOr t u) tu tNext) tz Dn σ H := h H (Ex.refl H) _ fun H1 e1 => k H1 e1
theorem q_tk {n : Int} {j0 : Nat} {E : XK} (h0 : σ[j0]? = some (some (.ref d))) (hn : Ev te σ H (.int n)) (hb : 0 < n ∧ n < 1073741824) (D0 : Dr B H d la) (hB : B < lim) (k1 : ∀ H1, Dx (B + 1) d la H H1 → tu { Dn with nx := tz Dn } σ H1) (k2 : ∀ H1, Dx (B + 1) d la H H1 → tz Dn σ H1) :
    tSeq (tIfS (tTest (tOp rEq (tCa spTake E (tCons (tVar j0) (tCons te tNil))) (tC (.int 0)))) tu tNext) tz Dn σ H := takeC (E := E) h0 hn hb D0 hB fun y H1 hy D1 => ⟨rfl, decide (V.int y = V.int 0), rfl, by
  show if decide (V.int y = V.int 0) = true then tu { Dn with nx := tz Dn } σ H1 else tz Dn σ H1
  split
  · exact k1 H1 D1
  · exact k2 H1 D1⟩
theorem et_catA (h1 : Et K ta σ H (.tuple ds)) (h2 : Et K tb σ H (.tuple es)) (hl : ds.length + es.length ≤ 100000) : Et K (tOp (rCatA K) ta tb) σ H (.tuple (ds ++ es)) := fun H1 e Q q => h1 H1 e _ fun v H2 e2 hv => h2 H2 (e.trans e2) _ fun w H3 e3 hw => by
  have hv := dp_mono e3 hv
  cases hv with
  | @tup a xs _ hs ha =>
    cases hw with
    | @tup b ys _ hs2 hb =>
      have l1 := dpA_len ha
      have l2 := dpA_len hb
      refine ⟨a, b, xs, ys, rfl, rfl, hs, hs2, sz_of (by omega), fun z => ?_, fun z1 z2 => ?_, fun z1 z2 p hp => ?_⟩
      · have : ds = [] := by rw [z] at ha; cases ha; rfl
        rw [this] at q
        exact q _ _ (e2.trans e3) (.tup hs2 hb)
      · have : es = [] := by rw [z2] at hb; cases hb; rfl
        rw [this, List.append_nil] at q
        exact q _ _ (e2.trans e3) (.tup hs ha)
      · exact q _ _ ((e2.trans e3).trans (Ex.new hp)) (.tup (st_of upd_same) (dpA_app (dpA_mono (Ex.new hp) ha) (dpA_mono (Ex.new hp) hb)))
theorem cat_dl (D0 : Dr B H d la) (hx : Dl K d la H x (.tuple ds)) (hy : Dl K d la H y (.tuple es)) (hl : ds.length + es.length ≤ 100000) (q : ∀ v H2, Ex H H2 → Dl K d la H2 v (.tuple (ds ++ es)) → Q v H2) : rCatA K x y H Q := by
  unfold Dl at hx hy
  cases hx with
  | @tup a xs _ hs ha =>
    cases hy with
    | @tup b ys _ hs2 hb =>
      have l1 := dpA_len ha
      have l2 := dpA_len hb
      refine ⟨a, b, xs, ys, rfl, rfl, ex_t rs_ex hs, ex_t rs_ex hs2, sz_of (by omega), fun z => ?_, fun z1 z2 => ?_, fun z1 z2 p hp => ?_⟩
      · have : ds = [] := by rw [z] at ha; cases ha; rfl
        rw [this] at q
        exact q _ _ (Ex.refl H) (.tup hs2 hb)
      · have : es = [] := by rw [z2] at hb; cases hb; rfl
        rw [this, List.append_nil] at q
        exact q _ _ (Ex.refl H) (.tup hs ha)
      · refine q _ _ (Ex.new hp) ?_
        have n1 := D0.d_ne p hp
        have n2 := D0.lst_ne p hp
        have e := (Kp.of (d := d) (la := la) (Ex.new (o := .tup (xs ++ ys)) hp)).rs
        refine .tup ?_ (dpA_app (dpA_mono e ha) (dpA_mono e hb))
        rw [rs_new n1 n2]
        exact st_of upd_same
theorem noLA_mem : ∀ {ds : List PyData}, noLA ds = true → ∀ e ∈ ds, noL e = true
  | [], _, e, he => by cases he
  | d :: ds, h, e, he => by
    have h' : (noL d && noLA ds) = true := h
    obtain ⟨a, b⟩ := Bool.and_eq_true_iff.mp h'
    rcases List.mem_cons.mp he with rfl | he
    · exact a
    · exact noLA_mem b e he
theorem noLA_of : ∀ {ds : List PyData}, (∀ e ∈ ds, noL e = true) → noLA ds = true
  | [], _ => rfl
  | d :: ds, h => by
    show (noL d && noLA ds) = true
    rw [h d (List.mem_cons_self ..), noLA_of fun e he => h e (List.mem_cons_of_mem _ he)]
    rfl
theorem cut_mem {a b : Nat} {e : PyData} (h : e ∈ (ds.drop a).take b) : e ∈ ds := List.mem_of_mem_drop (List.mem_of_mem_take h)
theorem cut_len (ds : List PyData) (a b : Nat) : ((ds.drop a).take b).length ≤ ds.length := by
  rw [List.length_take, List.length_drop]
  omega
end
theorem DL.up {K : PySem.W.Frag} {d la : Addr} {s n s' n' : Nat} {H : Hp} {v : V} (h : DL K d la s n H v) (h1 : s ≤ s') (h2 : n ≤ n') : DL K d la s' n' H v := let ⟨x, a, b⟩ := h; ⟨x, a, domD_mono h1 h2 b⟩
def spC (K : PySem.W.Frag) : Nat → Sp
  | 0 => fun _ _ _ _ => False
  | n + 1 => fun vs H Q _ => vs.length = 4 ∧ ∃ (d la : Addr) (B : Int) (t o : V) (m j : Nat) (x : PyData), vs = [.ref d, t, o, .int (j : Int)] ∧ Dr B H d la ∧ B + 4 * (n + 1) ≤ lim ∧ j ≤ n ∧ m + n ≤ 20 ∧ Dl K d la H t x ∧ domD 100 m x = true ∧ noL x = true ∧ DL K d la 100 6 H o ∧
    ∀ v H2, DL K d la 400 (m + 6 + n) H2 v → Dx (B + 4 * (n + 1)) d la H H2 → Q v H2
abbrev s__law_changed : Stmt := top 48
abbrev N__law_changed : List Str := ["draw", "thing", "odd", "deep", "at", "way"]
theorem sc__law_changed : FnScope N__law_changed ["draw", "thing", "odd", "deep"] (defScope s__law_changed) := ⟨rfl, rfl, rfl, by decide +kernel, rfl, by decide +kernel, by decide +kernel⟩
theorem chg_step (T : Tx D aK cB cT fL) {k n : Nat} (hk : 3 ≤ k) (c_l_changed : Ca D false k "_law_changed" 4 (spC D.K n)) : Ca D false (k + 1) "_law_changed" 4 (spC D.K (n + 1)) := by
  have c_l_take := c_l_take T
  obtain ⟨f, fdd, F, gm⟩ := T.f48
  refine ca_mk (st := s__law_changed) (N := N__law_changed) (ps := ["draw", "thing", "odd", "deep"]) false F gm sc__law_changed (F.bindsN fun _ _ _ _ _ _ us hl => match us, hl with | [_, _, _, _], _ => rfl) (fun vs H Q E h => h.1) fun cdv A outer s H vs Q E hG hr h => ?_
  have nd := sc__law_changed.nd
  have hu := hr.units
  refine ⟨_, (pss_cons (ps_if (PW.pt (pw_or (pt_not (pt_val (pe_callB call_isi (by rfl) T.n_isinstance (by decide +kernel) (pa_cons (pv 1) (pa_cons (pe_bltn (v := .ty "tuple") rfl T.n_tuple (by decide +kernel) rfl) pa_nil))))) (pw_or (pt_cmpR (op_eqD hu) (pv 1) (pe_tup pa_nil) (nomark _)) (pw_or (pt_cmpR op_eq (pv 3) pe_int (nomark _)) (pw_or1 (pt_cmpR op_eq (pe_ca c_l_take (fun z => nomatch z) hr (by omega) passL rfl (pa_cons (pv 0) (pa_cons pe_int pa_nil))) pe_int (nomark _))))))) (pss_one (ps_ret (pv 2))) pss_nil)
    (pss_cons (ps_par (i := 4) (j := 5) (by rfl) nd rfl rfl (by decide) rfl rfl (pa_cons (pe_ca c_l_take (fun z => nomatch z) hr (by omega) passL rfl (pa_cons (pv 0) (pa_cons (pe_callB call_lenL (by rfl) T.n_len (by decide +kernel) (pa_cons (pv 1) pa_nil)) pa_nil))) (pa_cons (pe_ca c_l_take (fun z => nomatch z) hr (by omega) passL rfl (pa_cons (pv 0) (pa_cons pe_int pa_nil))) pa_nil)) (by rfl))
    (pss_cons (ps_if (pt_cmpR op_eq (pv 5) pe_int (nomark _)) (pss_one (ps_ret (pe_op op_catA (pe_slice sl_tupA (pv 1) po_none (po_some (pv 4))) (pe_slice sl_tupA (pv 1) (po_some (pe_op op_add (pv 4) pe_int)) po_none)))) pss_nil)
    (pss_cons (ps_if (pt_cmpR op_eq (pv 5) pe_int (nomark _)) (pss_one (ps_ret (pe_op op_catA (pe_slice sl_tupA (pv 1) po_none (po_some (pe_op op_add (pv 4) pe_int))) (pe_slice sl_tupA (pv 1) (po_some (pv 4)) po_none)))) pss_nil)
    (pss_cons (ps_if (pt_cmpR op_eq (pv 5) pe_int (nomark _)) (pss_one (ps_ret (pe_callTy call_listI (by rfl) T.n_list (by decide +kernel) (pa_cons (pv 1) pa_nil)))) pss_nil)
    (pss_cons (ps_if (pt_cmpR op_eq (pv 5) pe_int (nomark _)) (pss_one (ps_ret (pe_op op_catA (pe_op op_catA (pe_op op_catA (pe_slice sl_tupA (pv 1) po_none (po_some (pv 4))) (pe_slice sl_tupA (pv 1) (po_some (pe_op op_add (pv 4) pe_int)) (po_some (pe_op op_add (pv 4) pe_int)))) (pe_slice sl_tupA (pv 1) (po_some (pv 4)) (po_some (pe_op op_add (pv 4) pe_int)))) (pe_slice sl_tupA (pv 1) (po_some (pe_op op_add (pv 4) pe_int)) po_none)))) pss_nil)
    (pss_one (ps_ret (pe_op op_catA (pe_op op_catA (pe_slice sl_tupA (pv 1) po_none (po_some (pv 4))) (pe_tup (pa_cons (pe_ca c_l_changed (fun z => nomatch z) hr (by omega) passL rfl (pa_cons (pv 0) (pa_cons (pe_ix ix_tup (pv 1) (pv 4) (fun _ _ => rfl)) (pa_cons (pv 2) (pa_cons (pe_op op_sub (pv 3) pe_int) pa_nil))))) pa_nil))) (pe_slice sl_tupA (pv 1) (po_some (pe_op op_add (pv 4) pe_int)) po_none)))))))))), ?_⟩
  obtain ⟨_, d, la, B, t, o, m, j, x, rfl, D0, hB, hj, hmn, hv, hx, hnl, ho, q⟩ := h
  have ret : ∀ {c : Int} {H1 : Hp} {σ : L2.St} {nx ct bk}, σ[2]? = some (some o) → Dx c d la H H1 → c ≤ B + 4 * (n + 1) → tRet (tVar 2) { nx := nx, rt := Q, ct := ct, bk := bk } σ H1 := fun h2 D1 hc => s_ret (ev_var h2) fun H2 e2 => q o H2 ((ho.kp (D1.ext e2).kp).up (by decide) (by omega)) ((D1.ext e2).up hc)
  cases hs : isTupD x with
  | false => exact q_when (b := !false || true) (et_or (et_not (et_B (ev_isiD (etv_var rfl hv.dp) (by rw [kit_tup, hs])))) fun z => absurd z (by decide)) (fun _ H1 e1 => ret rfl (Dx.of D0 e1) (by omega)) fun z => absurd z (by decide)
  | true =>
    cases x with
    | tuple ds =>
      obtain ⟨m', hm', hl, hds⟩ := domD_tup hx
      have tupT := et_not (et_B (ev_isiD (etv_var (K := D.K) (σ := L2.start N__law_changed [.ref d, t, o, .int (j : Int)]) (i := 1) rfl hv.dp) (kit_tup (.tuple ds))))
      have empT : ∀ {H1 : Hp}, Ex H H1 → EvT (tTest (tOp (rEqD D.K) (tVar 1) (tTup tNil))) (L2.start N__law_changed [.ref d, t, o, .int (j : Int)]) H1 (decide (ds = [])) := fun e1 => et_is (et_test (et_eqD (etv_var rfl (dp_mono e1 hv.dp)) (et_tup eta_nil (by decide)) (dom_shaped hx (by omega)) sh_tnil)) (eqvT_nil ds)
      have zT : ∀ {H1 : Hp}, Ex H H1 → EvT (tTest (tOp rEq (tVar 3) (tC (.int 0)))) (L2.start N__law_changed [.ref d, t, o, .int (j : Int)]) H1 (decide (j = 0)) := fun e1 => et_is (et_test (ev_op (ev_var rfl) ev_c (rv_eq rfl))) (dec_nat j 0)
      by_cases hemp : ds = []
      · have empT := et_is (empT (Ex.refl H)) (decide_eq_true hemp)
        exact q_when (b := !true || (true || true)) (et_or tupT fun _ => et_or empT fun z => absurd z (by decide)) (fun _ H1 e1 => ret rfl (Dx.of D0 e1) (by omega)) fun z => absurd z (by decide)
      by_cases hj0 : j = 0
      · have zT := et_is (zT (Ex.refl H)) (decide_eq_true hj0)
        exact q_when (b := !true || (decide (ds = []) || (true || true))) (et_or tupT fun _ => et_or (empT (Ex.refl H)) fun _ => et_or zT fun z => absurd z (by decide)) (fun _ H1 e1 => ret rfl (Dx.of D0 e1) (by omega)) fun z => absurd z (by simp)
      refine q_whenO tupT fun H1 e1 => q_whenO (et_is (empT e1) (decide_eq_false hemp)) fun H2 e2 => q_whenO (et_is (zT (e1.trans e2)) (decide_eq_false hj0)) fun H3 e3 => ?_
      have D3 := Dx.of D0 ((e1.trans e2).trans e3)
      refine q_tk (j0 := 0) (n := 9) rfl ev_c (by omega) D3.dr (by omega) (fun H4 D4 => ret rfl (D3.trans D4) (by omega)) fun H4 D4 => ?_
      have D4 := D3.trans D4
      have pos : 0 < ds.length := List.length_pos_iff.mpr hemp
      refine takeC (j0 := 0) (n := (ds.length : Int)) rfl (et_lenT (etv_var rfl (hv.kp D4.kp).dp)) (by omega) D4.dr (by omega) fun a H5 ha D5 => ?_
      obtain ⟨c, rfl, hc⟩ := int_nat ha
      have D5 := D4.trans D5
      refine takeC (j0 := 0) (n := 14) rfl ev_c (by omega) D5.dr (by omega) fun w H6 hw D6 => ⟨_, _, rfl, ?_⟩
      have D6 := D5.trans D6
      have vt : ∀ {H7 : Hp}, Ex H6 H7 → Et D.K (tVar 1) [some (.ref d), some t, some o, some (.int (j : Int)), some (.int (c : Int)), some (.int w)] H7 (.tuple ds) := fun e => etv_var rfl (dp_mono e (hv.kp D6.kp).dp)
      have hnA : ∀ e ∈ ds, noL e = true := noLA_mem hnl
      have fin : ∀ {H7 : Hp} {te : TE} {es : List PyData} {nx ct bk}, Ex H6 H7 → Et D.K te [some (.ref d), some t, some o, some (.int (j : Int)), some (.int (c : Int)), some (.int w)] H7 (.tuple es) → (∀ e ∈ es, e ∈ ds) → es.length ≤ 400 → tRet te { nx := nx, rt := Q, ct := ct, bk := bk } [some (.ref d), some t, some o, some (.int (j : Int)), some (.int (c : Int)), some (.int w)] H7 := fun {H7 te es nx ct bk} e7 h hes hle => s_retD h fun v H8 e8 hv8 => q v H8 ⟨.tuple es, dl_of (x := .tuple es) (D6.dr.ex (e7.trans e8)) (noLA_of fun e he => hnA e (hes e he)) hv8, domD_mono (Nat.le_refl _) (by omega) (domD_mk (n := m') hle fun e he => domD_mono (by decide) (Nat.le_refl _) (hds e (hes e he)))⟩ ((D6.ext (e7.trans e8)).up (by omega))
      have cl : ∀ a b, ((ds.drop a).take b).length ≤ 100 := fun a b => Nat.le_trans (cut_len ds a b) hl
      have wT : ∀ {H7 : Hp} (i : Int), Ex H6 H7 → EvT (tTest (tOp rEq (tVar 5) (tC (.int i)))) [some (.ref d), some t, some o, some (.int (j : Int)), some (.int (c : Int)), some (.int w)] H7 (decide (w = i)) := fun i e => et_is (et_test (ev_op (ev_var rfl) ev_c (rv_eq rfl))) (dec_int w i)
      have e0 := Ex.refl H6
      have cm : ∀ {a b : Nat} {e : PyData}, e ∈ (ds.drop a).take b → e ∈ ds := fun h => cut_mem h
      have at1 : ∀ {H7 : Hp} (i : Int), Ev (tOp (rI0 fun i j => .int (i + j)) (tVar 4) (tC (.int i))) [some (.ref d), some t, some o, some (.int (j : Int)), some (.int (c : Int)), some (.int w)] H7 (.int ((c : Int) + i)) := fun i => ev_op (ev_var rfl) ev_c rv_I0
      refine q_when (wT 0 e0) (fun _ H7 e7 => fin e7 (et_catA (et_slA (vt e7) eo_none (eo_some (ev_var rfl)) rfl) (et_slA (vt e7) (eo_some (at1 1)) eo_none rfl) ?_) (fun e he => ?_) ?_) fun _ H7 e7 => ?_
      · exact Nat.le_trans (Nat.add_le_add (cl _ _) (cl _ _)) (by decide)
      · rcases List.mem_append.mp he with he | he <;> exact cm he
      · rw [List.length_append]
        exact Nat.le_trans (Nat.add_le_add (cl _ _) (cl _ _)) (by decide)
      refine q_when (wT 1 e7) (fun _ H8 e8 => fin (e7.trans e8) (et_catA (et_slA (vt (e7.trans e8)) eo_none (eo_some (at1 1)) rfl) (et_slA (vt (e7.trans e8)) (eo_some (ev_var rfl)) eo_none rfl) ?_) (fun e he => ?_) ?_) fun _ H8 e8 => ?_
      · exact Nat.le_trans (Nat.add_le_add (cl _ _) (cl _ _)) (by decide)
      · rcases List.mem_append.mp he with he | he <;> exact cm he
      · rw [List.length_append]
        exact Nat.le_trans (Nat.add_le_add (cl _ _) (cl _ _)) (by decide)
      have e68 := e7.trans e8
      refine q_when (wT 2 e68) (fun _ H9 e9 => ?_) fun _ H9 e9 => ?_
      · have e69 := e68.trans e9
        have hv9 := (hv.kp D6.kp).ex e69
        have D9 := D6.ext e69
        unfold Dl at hv9
        cases hv9 with
        | @tup a xs _ hs9 ha =>
          refine ⟨.ref a, rfl, a, xs, rfl, .inr (ex_t rs_ex hs9), fun l hl0 => q _ _ ⟨.list ds, ?_, domD_mono (by decide) (by omega) (domD_mkL hl hds)⟩ ((D9.ext (Ex.new hl0)).up (by omega))⟩
          have n1 := D9.dr.d_ne l hl0
          have n2 := D9.dr.lst_ne l hl0
          show Dp D.K (rs d la _) _ _
          refine .lst ?_ (dpA_mono (Kp.of (Ex.new hl0)).rs ha)
          rw [rs_new n1 n2]
          exact sq_of upd_same
      have e69 := e68.trans e9
      refine q_when (wT 3 e69) (fun _ H7 e7 => fin (e69.trans e7) (et_catA (et_catA (et_catA (et_slA (vt (e69.trans e7)) eo_none (eo_some (ev_var rfl)) rfl) (et_slA (vt (e69.trans e7)) (eo_some (at1 1)) (eo_some (at1 2)) rfl) ?_) (et_slA (vt (e69.trans e7)) (eo_some (ev_var rfl)) (eo_some (at1 1)) rfl) ?_) (et_slA (vt (e69.trans e7)) (eo_some (at1 2)) eo_none rfl) ?_) (fun e he => ?_) ?_) fun _ H7 e7 => ?_
      · exact Nat.le_trans (Nat.add_le_add (cl _ _) (cl _ _)) (by decide)
      · rw [List.length_append]
        exact Nat.le_trans (Nat.add_le_add (Nat.add_le_add (cl _ _) (cl _ _)) (cl _ _)) (by decide)
      · rw [List.length_append, List.length_append]
        exact Nat.le_trans (Nat.add_le_add (Nat.add_le_add (Nat.add_le_add (cl _ _) (cl _ _)) (cl _ _)) (cl _ _)) (by decide)
      · rcases List.mem_append.mp he with he | he
        · rcases List.mem_append.mp he with he | he
          · rcases List.mem_append.mp he with he | he <;> exact cm he
          · exact cm he
        · exact cm he
      · rw [List.length_append, List.length_append, List.length_append]
        exact Nat.le_trans (Nat.add_le_add (Nat.add_le_add (Nat.add_le_add (cl _ _) (cl _ _)) (cl _ _)) (cl _ _)) (by decide)
      have e67 := e69.trans e7
      have D7 := D6.ext e67
      obtain ⟨n', rfl⟩ : ∃ n', n = n' + 1 := ⟨n - 1, by omega⟩
      obtain ⟨j', rfl⟩ : ∃ j', j = j' + 1 := ⟨j - 1, by omega⟩
      refine et_slA (lo := none) (hi := some (c : Int)) (K := D.K) (vt e67) eo_none (eo_some (ev_var rfl)) rfl H7 (Ex.refl _) _ fun v1 H8 e8 hv1 => ?_
      have D8 := D7.ext e8
      have hv1 := dl_of D8.dr (x := .tuple _) (noLA_of fun e he => hnA e (cm he)) hv1
      refine ⟨.ref d, rfl, ?_⟩
      refine et_ixT (K := D.K) (i := c) (vt (e67.trans e8)) (ev_var rfl) (List.getElem?_eq_getElem hc) H8 (Ex.refl _) _ fun z H9 e9 hz => ?_
      have D9 := D8.ext e9
      have hmem := List.getElem_mem hc
      refine ⟨o, rfl, .int ((j' + 1 : Nat) : Int), rfl, _, 1, rfl, rfl, ?_⟩
      refine ⟨rfl, d, la, _, z, o, m', j', ds[c], by show [V.ref d, z, o, V.int (((j' + 1 : Nat) : Int) - 1)] = _; rw [show (((j' + 1 : Nat) : Int) - 1) = (j' : Int) by omega], D9.dr, by omega, by omega, by omega, dl_of D9.dr (hnA _ hmem) hz, hds _ hmem, hnA _ hmem, ho.kp D9.kp, fun r H10 hr D10 => ?_⟩
      obtain ⟨rx, hr, hrx⟩ := hr
      refine ⟨sz_of (by show 1 ≤ 100000; decide), fun p hp => ?_⟩
      have n1 := D10.dr.d_ne p hp
      have n2 := D10.dr.lst_ne p hp
      have e10 : Ex H10 (upd H10 p (.tup [r])) := Ex.new hp
      have hvt : Dl D.K d la (upd H10 p (.tup [r])) (.ref p) (.tuple [rx]) := by
        refine .tup ?_ (.cons (dp_mono (Kp.of e10).rs hr) .nil)
        rw [rs_new n1 n2]
        exact st_of upd_same
      have D11 := D9.trans (D10.ext e10)
      refine cat_dl D11.dr ((hv1.ex e9).kp (D10.ext e10).kp) hvt (Nat.le_trans (Nat.add_le_add (cl _ _) (Nat.le_refl _)) (by show 100 + 1 ≤ 100000; decide)) fun v2 H12 e12 hv2 => ?_
      refine et_slA (lo := some ((c : Int) + 1)) (hi := none) (K := D.K) (etv_var rfl (hv.kp (D11.ext e12).kp).dp) (eo_some (at1 1)) eo_none rfl H12 (Ex.refl _) _ fun v3 H13 e13 hv3 => ?_
      have D13 := (D11.ext e12).ext e13
      have hv3 := dl_of D13.dr (x := .tuple _) (noLA_of fun e he => hnA e (cm he)) hv3
      refine cat_dl D13.dr (hv2.ex e13) hv3 ?_ fun v4 H14 e14 hv4 => q v4 H14 ⟨_, hv4, ?_⟩ ((D13.ext e14).up (by omega))
      · rw [List.length_append]
        exact Nat.le_trans (Nat.add_le_add (Nat.add_le_add (cl _ _) (Nat.le_refl _)) (cl _ _)) (by show 100 + 1 + 100 ≤ 100000; decide)
      · refine domD_mono (n := m' + 6 + n' + 1) (Nat.le_refl _) (by omega) (domD_mk ?_ fun e he => ?_)
        · rw [List.length_append, List.length_append]
          exact Nat.le_trans (Nat.add_le_add (Nat.add_le_add (cl _ _) (Nat.le_refl _)) (cl _ _)) (by show 100 + 1 + 100 ≤ 400; decide)
        · rcases List.mem_append.mp he with he | he
          · rcases List.mem_append.mp he with he | he
            · exact domD_mono (by decide) (by omega) (hds e (cm he))
            · rw [List.mem_singleton.mp he]
              exact hrx
          · exact domD_mono (by decide) (by omega) (hds e (cm he))
    | _ => cases hs
theorem chg_0 (T : Tx D aK cB cT fL) : Ca D false 3 "_law_changed" 4 (spC D.K 0) := by
  obtain ⟨f, fdd, F, gm⟩ := T.f48
  exact ca_mk (st := s__law_changed) (N := N__law_changed) (ps := ["draw", "thing", "odd", "deep"]) false F gm sc__law_changed (F.bindsN fun _ _ _ _ _ _ us hl => match us, hl with | [_, _, _, _], _ => rfl) (fun vs H Q E h => h.elim) fun cdv A outer s H vs Q E hG hr h => h.elim
theorem c_l_changed (T : Tx D aK cB cT fL) : Ca D false 9 "_law_changed" 4 (spC D.K 6) :=
  chg_step T (by decide) (chg_step T (by decide) (chg_step T (by decide) (chg_step T (by decide) (chg_step T (by decide) (chg_step T (by decide) (chg_0 T))))))
end Q
namespace Q
open PySem PySem.Spec PyProof.Rows L2 Evl
/-! ### numbers shown -/
theorem log_low {n : Nat} (h : n ≤ 100000) : n.log2 < 1920 := by
  by_cases h0 : n = 0
  · subst h0
    decide
  · have h1 : 2 ^ n.log2 ≤ n := Nat.log2_self_le h0
    have h2 : n.log2 < 2 ^ n.log2 := Nat.lt_two_pow_self
    refine Classical.byContradiction fun hn => ?_
    have h3 : 2 ^ 17 ≤ 2 ^ n.log2 := Nat.pow_le_pow_right (by decide) (by omega)
    have : (2 : Nat) ^ 17 = 131072 := by decide
    omega
abbrev natD (n : Nat) : PyData := .int (n : Int)
theorem ints_layT (ns : List Nat) : SeqAt.shaped (.tuple (ns.map natD)) = true := by
  have h1 : PyData.canLay0 (.tuple (ns.map natD)) = true := by
    rw [PyData.canLay0]
    exact lay_all fun d hd => by
      obtain ⟨n, _, rfl⟩ := List.mem_map.mp hd
      simp [natD, PyData.canLay0]
  have h2 : PyData.depth (.tuple (ns.map natD)) ≤ 64 := by
    rw [PyData.depth]
    exact Nat.succ_le_succ (depth_all (n := 63) fun d hd => by
      obtain ⟨n, _, rfl⟩ := List.mem_map.mp hd
      simp [natD, PyData.depth])
  unfold SeqAt.shaped
  rw [h1, decide_eq_true h2]
  rfl
theorem ints_show : ∀ ns : List Nat, (∀ n ∈ ns, n ≤ 1000) → PyData.showableAll (ns.map natD) = true
  | [], _ => rfl
  | n :: ns, h => by
    have a := ints_show ns fun x hx => h x (List.mem_cons_of_mem _ hx)
    have b := h n (List.mem_cons_self ..)
    show (decide (((n : Nat) : Int).natAbs.log2 < 1920) && PyData.showableAll (ns.map natD)) = true
    rw [a, Int.natAbs_natCast, decide_eq_true (log_low (by omega))]
    rfl
theorem ints_piled : ∀ ns : List Nat, (∀ n ∈ ns, n ≤ 1000) → piled (PyData.shownAll (ns.map natD)) ≤ 7 * ns.length
  | [], _ => Nat.le_refl _
  | n :: ns, h => by
    have a := ints_piled ns fun x hx => h x (List.mem_cons_of_mem _ hx)
    have b := h n (List.mem_cons_self ..)
    have l2 : (Str.ofString (toString ((n : Nat) : Int))).length ≤ 5 := by
      rw [show Str.ofString (toString ((n : Nat) : Int)) = SX.S (TL.numL n) from SX.num_S n, SX.S_len]
      exact TL.numL_len (by decide) (by omega)
    show piled (Str.ofString (toString ((n : Nat) : Int)) :: PyData.shownAll (ns.map natD)) ≤ _
    rw [piled_cons, List.length_cons]
    omega
theorem shows_nats {K : PySem.W.Frag} {H : Hp} {v : V} {ns : List Nat} (hv : Dp K H v (.tuple (ns.map natD))) (hl : ns.length ≤ 1000) (hb : ∀ n ∈ ns, n ≤ 1000) : Shows K H v (.tuple (ns.map natD)) := by
  refine ⟨hv, ints_layT ns, ints_show ns hb, ?_⟩
  show (tupleText (PyData.shownAll (ns.map natD))).length ≤ sizeLine
  have p := ints_piled ns hb
  have e1 : ("(" : Str).length = 1 := by decide +kernel
  have e2 : (")" : Str).length = 1 := by decide +kernel
  have e3 : (",)" : Str).length = 2 := by decide +kernel
  have hs : sizeLine = 16777216 := sizeLine_eq
  unfold tupleText
  rw [strLen_append, strLen_append, e1]
  have e4 : ((if (PyData.shownAll (ns.map natD)).length == 1 then ",)" else ")" : String) : Str).length ≤ 2 := by
    split
    · exact Nat.le_of_eq e3
    · exact Nat.le_trans (Nat.le_of_eq e2) (by decide)
  have j : (Str.join ", " (PyData.shownAll (ns.map natD))).length ≤ 7 * ns.length := by
    by_cases h0 : PyData.shownAll (ns.map natD) = []
    · rw [h0]
      exact Nat.le_trans (Nat.le_of_eq (show (Str.join ", " []).length = 0 by decide +kernel)) (Nat.zero_le _)
    · have := join_length_add _ h0
      omega
  omega
end Q
namespace Q
open PySem PySem.Spec PyProof.Rows L2 Evl
variable {D : Wd} {aK cB cT fL c1 P1 : Addr}
/-! ### the lambdas' table -/
abbrev tT1 (P1 : Addr) : List (Addr × Str) := [(P1, ("_law_is_right" : Str) ++ (".<locals>." : Str) ++ ("<lambda>" : Str))]
theorem tT1_u : ∀ p ∈ tT1 P1, p.1 = P1 → p.2 = ("_law_is_right" : Str) ++ (".<locals>." : Str) ++ ("<lambda>" : Str) := fun p hp _ => by
  rw [List.mem_singleton.mp hp]
def FunC (D : Wd) (x : Str) (i : Nat) (c : Addr) : Prop := ∃ (f : Addr) (fd : FuncData), FunD D.K x x (defArgs (top i)) (defBody (top i)) (defScope (top i)) [] [] f fd ∧ D.mg x = some (.ref f) ∧ fd.code = .ref c
structure Tm (D : Wd) (c1 P1 : Addr) : Prop where
  tb1 : LamX.TabB D.base D.mg c1 P1
  k1 : FunC D "_law_is_right" 51 c1
/-- the rule for a def whose code object is known -/
theorem ca_mkC (g : Bool) {D : Wd} {x : Str} {st : Stmt} {f c : Addr} {fd : FuncData} {N ps : List Str} {k : Nat} {sp : Sp} (F : FunD D.K x x (defArgs st) (defBody st) (defScope st) [] [] f fd) (hc : fd.code = .ref c) (gm : D.mg x = some (.ref f)) (S : FnScope N ps (defScope st))
    (hb : Binds D.K fd ps []) (len : ∀ vs H Q E, sp vs H Q E → vs.length = ps.length)
    (hbody : ∀ (A : Around) (outer : List Env) (s : Shared) (H : Hp) (vs : List V) (Q : VK) (E : XK), (g = true → A.guards = some []) → Room k (bodyCx D N x (defScope st) f (.ref c) A outer s H E).A → sp vs H Q E →
      ∃ t, PSs (bodyCx D N x (defScope st) f (.ref c) A outer s H E) (defBody st) t ∧ t { nx := fun _ H' => Q .non H', rt := Q } (L2.start N vs) H) : Ca D g (k + 1) x ps.length sp := by
  obtain ⟨oc, od, dV, kV, doc, pm, an, cdv, ct, osl, e, lk, hcd, _, _⟩ := F.ex
  have e2 : cdv = .ref c := by
    rw [e] at hc
    exact hc
  subst e2
  subst e
  exact ⟨f, _, ps, gm, F.kp, hb, rfl, len, fun A outer s H args us vs Q E hg hr e0 hbt r hsp =>
    LamX.run_ofS lk hcd S hr e0 hbt r (len _ _ _ _ hsp) fun hr' => hbody A outer s H vs Q E hg hr' hsp⟩
theorem extN_of {H H' : Hp} (e : Ex H H') : LamX.ExtN H H' := fun b o h _ => e b o h
theorem Dr.extN {B : Int} {H H' : Hp} {d la : Addr} (h : Dr B H d la) (e : LamX.ExtN H H') : Dr B H' d la := by
  obtain ⟨ca, bs, cs, r, t, n, a, b, c, l⟩ := h
  exact ⟨ca, bs, cs, r, t, n, e _ _ a (fun _ z => by cases z), e _ _ b (fun _ z => by cases z), e _ _ c (fun _ z => by cases z), l⟩
theorem Dx.tabs {B B0 : Int} {T : List (Addr × Str)} {H H' : Hp} {d la : Addr} (D0 : Dr B0 H d la) (a : Dx B d la H H') (t : LamX.Tabs T H) : LamX.Tabs T H' := fun p hp => by
  obtain ⟨ca, bs, cs, r, tt, n, hd, hla, _⟩ := D0
  obtain ⟨ps, h1, h2, h3⟩ := t p hp
  refine ⟨ps, a.keep _ _ h1 (ne_of h1 hd (by simp)) (ne_of h1 hla (by simp)), h2, fun pos cv hc => ?_⟩
  obtain ⟨c, e1, e2⟩ := h3 pos cv hc
  exact ⟨c, e1, a.keep _ _ e2 (ne_of e2 hd (fun z => by cases z)) (ne_of e2 hla (fun z => by cases z))⟩
theorem tabs_ex {T : List (Addr × Str)} {H H' : Hp} (t : LamX.Tabs T H) (e : Ex H H') : LamX.Tabs T H' := t.ext e
/-- all stays but the draws' objects and the tables -/
def KpN (d la : Addr) (H H' : Hp) : Prop := ∀ a o, H a = some o → (∀ ps, o ≠ .tbl ps) → a ≠ d → a ≠ la → H' a = some o
section
variable {K : PySem.W.Frag} {H H' H2 : Hp} {d la p : Addr} {v : V}
theorem KpN.of (k : Kp d la H H') : KpN d la H H' := fun a o h _ n m => k a o h n m
theorem KpN.ofN (k : LamX.ExtN H H') : KpN d la H H' := fun a o h z _ _ => k a o h z
theorem KpN.trans (a : KpN d la H H') (b : KpN d la H' H2) : KpN d la H H2 := fun x o h z n m => b x o (a x o h z n m) z n m
theorem KpN.rs (k : KpN d la H H') {a : Addr} {o : HO} (h : rs d la H a = some o) (z : ∀ ps, o ≠ .tbl ps) : Q.rs d la H' a = some o := by
  unfold Q.rs at h ⊢
  split at h
  · cases h
  · rename_i n
    rw [if_neg n]
    exact k a o h z (fun e => n (.inl e)) fun e => n (.inr e)
mutual
theorem dl_kpN (k : KpN d la H H') : ∀ {x : PyData} {v : V}, Dp K (rs d la H) v x → Dp K (rs d la H') v x
  | .none, _, h => by cases h; exact .non
  | .bool b, _, h => by cases h; exact .bl b
  | .int i, _, h => by cases h; exact .int i
  | .str x, _, h => by cases h; exact .str x
  | .list ds, _, h => by
    cases h with
    | lst hs ha =>
      refine .lst ?_ (dlA_kpN k ha)
      rcases hs with (h | ⟨o, h⟩) | h
      · exact .inl (.inl (k.rs h fun _ z => by cases z))
      · exact .inl (.inr ⟨o, k.rs h fun _ z => by cases z⟩)
      · exact .inr h
  | .tuple ds, _, h => by
    cases h with
    | tup hs ha =>
      refine .tup ?_ (dlA_kpN k ha)
      rcases hs with (h | ⟨o, h⟩) | h
      · exact .inl (.inl (k.rs h fun _ z => by cases z))
      · exact .inl (.inr ⟨o, k.rs h fun _ z => by cases z⟩)
      · exact .inr h
  | .dict _, _, h => by cases h
theorem dlA_kpN (k : KpN d la H H') : ∀ {ds : List PyData} {vs : List V}, DpAll K (rs d la H) vs ds → DpAll K (rs d la H') vs ds
  | [], _, h => by cases h; exact .nil
  | d :: ds, _, h => by
    cases h with
    | cons h1 h2 => exact .cons (dl_kpN k h1) (dlA_kpN k h2)
end
end
/-- what is asked whether it is a table: a datum, or an empty dict -/
def RT (K : PySem.W.Frag) (d la : Addr) (H : Hp) (v : V) (P : Prop) : Prop := (∃ x, Dl K d la H v x ∧ domD 1000 40 x = true ∧ (P ↔ IsTab x)) ∨ (∃ a, v = .ref a ∧ a ≠ d ∧ a ≠ la ∧ H a = some (.dK []) ∧ ¬ P)
section
variable {K : PySem.W.Frag} {H H' : Hp} {d la : Addr} {v : V} {P : Prop}
theorem RT.kpN (h : RT K d la H v P) (k : KpN d la H H') : RT K d la H' v P := by
  rcases h with ⟨x, h1, h2⟩ | ⟨a, h1, h2, h3, h4, h5⟩
  · exact .inl ⟨x, dl_kpN k h1, h2⟩
  · exact .inr ⟨a, h1, h2, h3, k _ _ h4 (fun _ z => by cases z) h2 h3, h5⟩
theorem RT.thing (h : RT K d la H v P) : Thing K H v P := by
  rcases h with ⟨x, h1, h2, h3⟩ | ⟨a, rfl, _, _, h4, h5⟩
  · exact .inl ⟨x, h1.dp, h2, h3⟩
  · exact .inr ⟨⟨"dict", fun H1 e1 => .base (.dK (e1 _ _ h4)), rfl⟩, h5⟩
end
section
variable {K : PySem.W.Frag} {σ : L2.St} {H : Hp} {ta tb te : TE} {tr : TA} {g : TG} {tu : TS} {Dn : Ends} {E : XK} {a b : Bool}
theorem s_forLst (h : tr σ H fun vs H1 => vs.length ≤ sizeLine ∧ ∀ p, H1 p = none → tFor (iList K (tC (.ref p))) g tu Dn σ (upd H1 p (.lst vs))) : tFor (iList K (tLst tr)) g tu Dn σ H := h
theorem ev_isB (h1 : Ev ta σ H (.bl a)) (h2 : Ev tb σ H (.bl b)) : Ev (tCa (spIs K) E (tCons ta (tCons tb tNil))) σ H (.bl (decide (a = b))) := ev_ca (ea_cons h1 (ea_cons h2 ea_nil)) fun H1 e1 Q q E => ⟨rfl, a, b, rfl, q⟩
theorem ev_sameN {ns : List Nat} (hl : ns.length ≤ 1000) (hb : ∀ n ∈ ns, n ≤ 1000) (h1 : Et K ta σ H (.tuple (ns.map natD))) (h2 : Et K tb σ H (.tuple (ns.map natD))) : Ev (tCa (spSame K) E (tCons ta (tCons tb tNil))) σ H (.bl true) := fun H1 e Q q =>
  h1 H1 e _ fun v H2 e2 hv => h2 H2 (e.trans e2) _ fun w H3 e3 hw => ⟨rfl, v, w, _, rfl, shows_nats (dp_mono e3 hv) hl hb, shows_nats hw hl hb, fun H4 e4 => q H4 ((e2.trans e3).trans e4)⟩
end
theorem sc_cau : FnScope ["work", "error", "caught"] ["work"] (defScope (top 32)) := ⟨rfl, rfl, rfl, by decide +kernel, rfl, by decide +kernel, by decide +kernel⟩
theorem keep_ca {K : PySem.W.Frag} {CB : Addr} {sp : Sp} {ta : TA} {Q : VK} {vs : List V} {σ : L2.St} {H : Hp} (h : EvA ta σ H vs) (k : ∀ H1, Ex H H1 → sp vs H1 (fun _ H' => Q .non H') (fun cls d H' => ∃ b, PySem.W.exmOne K cls (.ref CB) = some b ∧ (b = true → ∀ a, H' a = none → Q (.ref a) (upd H' a (ExT cls d a))) ∧ (b = false → False))) :
    TKeep K CB (fun E H' Q' => tCa sp E ta σ H' Q') H Q := h H (Ex.refl H) _ k
theorem spC_mk {K : PySem.W.Frag} {n : Nat} {vs : List V} {H : Hp} {Q : VK} {E : XK} (h : vs.length = 4 ∧ ∃ (d la : Addr) (B : Int) (t o : V) (m j : Nat) (x : PyData), vs = [.ref d, t, o, .int (j : Int)] ∧ Dr B H d la ∧ B + 4 * (n + 1) ≤ lim ∧ j ≤ n ∧ m + n ≤ 20 ∧ Dl K d la H t x ∧ domD 100 m x = true ∧ noL x = true ∧ DL K d la 100 6 H o ∧
    ∀ v H2, DL K d la 400 (m + 6 + n) H2 v → Dx (B + 4 * (n + 1)) d la H H2 → Q v H2) : spC K (n + 1) vs H Q E := h
def spRight (K : PySem.W.Frag) (T : List (Addr × Str)) : Sp := fun vs H Q _ => vs.length = 2 ∧ ∃ d la B v P, vs = [.ref d, v] ∧ Dr B H d la ∧ B + 140 ≤ lim ∧ LamX.Tabs T H ∧ RT K d la H v P ∧ ∀ H2, KpN d la H H2 → Dr (B + 140) H2 d la → LamX.Tabs T H2 → Q (.bl true) H2
abbrev s__law_is_right : Stmt := top 51
abbrev N__law_is_right : List Str := ["draw", "thing", "lap", "lot", "near", "one"]
theorem sc__law_is_right : FnScope N__law_is_right ["draw", "thing"] (defScope s__law_is_right) := ⟨rfl, rfl, rfl, by decide +kernel, rfl, by decide +kernel, by decide +kernel⟩
theorem c_l_is_right (T : Tx D aK cB cT fL) (M : Tm D c1 P1) : Ca D true 12 "_law_is_right" 2 (spRight D.K (tT1 P1)) := by
  have c_l_is_table := c_l_is_table T
  have cp_is_table := cp_is_table T
  have c_is_table := c_is_table T
  have c_l_is := c_l_is T
  have c_use_heights := c_use_heights T
  have cp_use_heights := cp_use_heights T
  have c_is_lot := c_is_lot T
  have cp_is_lot := cp_is_lot T
  have c_l_same := c_l_same T
  have c_l_heights := c_l_heights T
  have c_l_drawn_lot := c_l_drawn_lot T
  have c_l_changed := c_l_changed T
  have c_l_odd := c_l_odd T
  have c_l_take := c_l_take T
  have c_l_is_lot := c_l_is_lot T
  obtain ⟨g, fdg, Fg, gmg⟩ := T.f32
  have bg := Fg.bindsN (ps := ["work"]) fun _ _ _ _ _ _ us hl => match us, hl with | [_], _ => rfl
  obtain ⟨ocg, odg, dVg, kVg, docg, pmg, ang, cdvg, ctg, oslg, efg, lkg, hcg, hDg, hKg⟩ := Fg.ex
  subst efg
  obtain ⟨f, fd, F, gm, hcode⟩ := M.k1
  refine ca_mkC (st := s__law_is_right) (N := N__law_is_right) (ps := ["draw", "thing"]) true F hcode gm sc__law_is_right (F.bindsN fun _ _ _ _ _ _ us hl => match us, hl with | [_, _], _ => rfl) (fun vs H Q E h => h.1) fun A outer s H vs Q E hG hr h => ?_
  have nd := sc__law_is_right.nd
  have hu := hr.units
  refine ⟨_, (pss_cons (ps_if (pt_not (pt_val (pe_ca c_l_is_table (fun z => nomatch z) hr (by decide) passL rfl (pa_cons (pv 1) pa_nil)))) (pss_cons (ps_if (PW.pt (pw_or (pt_not (pt_val (pe_ca c_l_is (fun z => nomatch z) hr (by decide) passL rfl (pa_cons (pe_caK cp_is_table (fun z => nomatch z) hr (by decide) passL rfl (pk_cons (pv 1) pk_nil)) (pa_cons pe_bl pa_nil))))) (pw_or1 (pt_not (pt_val (pe_callB call_isX (by rfl) T.n_isinstance (by decide +kernel) (pa_cons (LamX.pe_lamcall (T := tT1 P1) (TT := TKeep D.K cB) (k := 8) (t := (fun E => tCa (spHts D.K cT) E (tCons (tVar 1) tNil))) rfl gmg Fg.kp lkg hcg bg sc_cau rfl (Or.inl rfl) (keep_gives (by decide) rfl T.g_BillError (by decide) rfl rfl (by decide) (by decide) (by decide) (by decide)) M.tb1 rfl (List.mem_cons_self ..) tT1_u (hr.mono (by decide)) (LamX.lamS_by (sc := defScope s__law_is_right) (by decide +kernel)) rfl (fun _ _ _ _ _ => rfl) (fun A outer s H E f c' hr => (pe_ca c_use_heights (fun z => nomatch z) hr (by decide) (passes_call (takes_of rfl rfl rfl rfl) fun _ _ _ _ h => h) rfl (pa_cons (pv 1) pa_nil)))) (pa_cons (pe_gr rfl T.g_BadTable) pa_nil)))))))) (pss_one (ps_ret pe_bl)) pss_nil)
      (pss_one (ps_ret (pe_callB call_isX (by rfl) T.n_isinstance (by decide +kernel) (pa_cons (LamX.pe_lamcall (T := tT1 P1) (TT := TKeep D.K cB) (k := 8) (t := (fun E => tCa (spIsLot D.K cT) E (tCons (tVar 1) (tCons (tTup tNil) tNil)))) rfl gmg Fg.kp lkg hcg bg sc_cau rfl (Or.inl rfl) (keep_gives (by decide) rfl T.g_BillError (by decide) rfl rfl (by decide) (by decide) (by decide) (by decide)) M.tb1 rfl (List.mem_cons_self ..) tT1_u (hr.mono (by decide)) (LamX.lamS_by (sc := defScope s__law_is_right) (by decide +kernel)) rfl (fun _ _ _ _ _ => rfl) (fun A outer s H E f c' hr => (pe_ca c_is_lot (fun z => nomatch z) hr (by decide) (passes_call (takes_of rfl rfl rfl rfl) fun _ _ _ _ h => h) rfl (pa_cons (pv 1) (pa_cons (pe_tup pa_nil) pa_nil))))) (pa_cons (pe_gr rfl T.g_BadTable) pa_nil)))))) pss_nil)
    (pss_cons (ps_if (PW.pt (pw_or (pt_not (pt_val (pe_ca c_l_is (fun z => nomatch z) hr (by decide) passL rfl (pa_cons (pe_ca c_is_table (fun z => nomatch z) hr (by decide) passL rfl (pa_cons (pv 1) pa_nil)) (pa_cons pe_bl pa_nil))))) (pw_or1 (pt_not (pt_val (pe_ca c_l_same hG hr (by decide) passL rfl (pa_cons (pe_caK cp_use_heights (fun z => nomatch z) hr (by decide) passL rfl (pk_cons (pv 1) pk_nil)) (pa_cons (pe_callTy call_tupI (by rfl) T.n_tuple (by decide +kernel) (pa_cons (pe_ca c_l_heights (fun z => nomatch z) hr (by decide) passL rfl (pa_cons (pv 1) pa_nil)) pa_nil)) pa_nil)))))))) (pss_one (ps_ret pe_bl)) pss_nil)
    (pss_cons (ps_for (passes_of rfl) rfl (pi_range1 rfl T.n_range (pa_cons pe_int pa_nil)) (pg_name (i := 2) nd rfl (Or.inl rfl))
      (pss_cons (ps_set (i := 3) nd rfl (Or.inl rfl) (pe_ca c_l_drawn_lot (fun z => nomatch z) hr (by decide) passL rfl (pa_cons (pv 0) (pa_cons (pe_callB call_lenL (by rfl) T.n_len (by decide +kernel) (pa_cons (pv 1) pa_nil)) (pa_cons pe_int pa_nil)))))
      (pss_cons (ps_set (i := 4) nd rfl (Or.inl rfl) (pe_ca c_l_changed (fun z => nomatch z) hr (by decide) passL rfl (pa_cons (pv 0) (pa_cons (pv 3) (pa_cons (pe_ca c_l_odd (fun z => nomatch z) hr (by decide) passL rfl (pa_cons (pv 0) pa_nil)) (pa_cons (pe_op op_add pe_int (pe_ca c_l_take (fun z => nomatch z) hr (by decide) passL rfl (pa_cons (pv 0) (pa_cons pe_int pa_nil)))) pa_nil))))))
      (pss_one (ps_for (passes_of rfl) rfl (pi_list (pe_lst (pa_cons (pv 3) (pa_cons (pv 4) (pa_cons (pe_tup (pa_cons (pe_tup (pa_cons (pe_callB call_lenL (by rfl) T.n_len (by decide +kernel) (pa_cons (pv 1) pa_nil)) (pa_cons pe_int pa_nil))) pa_nil)) pa_nil))))) (pg_name (i := 5) nd rfl (Or.inl rfl))
        (pss_one (ps_if (pt_not (pt_val (pe_ca c_l_is (fun z => nomatch z) hr (by decide) passL rfl (pa_cons (pe_caK cp_is_lot (fun z => nomatch z) hr (by decide) passL rfl (pk_cons (pv 1) (pk_cons (pv 5) pk_nil))) (pa_cons (pe_ca c_l_is_lot (fun z => nomatch z) hr (by decide) passL rfl (pa_cons (pv 1) (pa_cons (pv 5) pa_nil))) pa_nil))))) (pss_one (ps_ret pe_bl)) pss_nil)))))))
    (pss_one (ps_ret pe_bl))))), ?_⟩
  obtain ⟨_, d, la, B, v, P, rfl, D0, hB, T0, hR, q⟩ := h
  have e0 := Ex.refl H
  by_cases hP : P
  rotate_left
  · obtain rfl : P = False := propext ⟨hP, False.elim⟩
    refine q_when (b := !false) (et_not (et_B (ev_tabN (ea_cons (ev_var rfl) ea_nil) hR.thing hP))) (fun _ H1 e1 => ?_) fun z => absurd z (by decide)
    have k1 : KpN d la H H1 := KpN.of (Kp.of e1)
    refine q_whenO (et_is (a := !decide (false = false)) (et_not (et_B (ev_isB (ev_tabN (ea_cons (ev_var rfl) ea_nil) (hR.kpN k1).thing hP) ev_c))) (by decide)) fun H2 e2 => ?_
    have e12 := e1.trans e2
    refine ⟨tabs_ex T0 e12, fun H3 eN T3 => keep_ca (vs := [v]) (ea_cons (ev_var rfl) ea_nil) fun H4 e4 => ⟨rfl, v, rfl, .inr ⟨?_, fun H5 e5 => ⟨true, T.xN, fun _ a ha => ?_, fun z => by cases z⟩⟩⟩⟩
    · exact (hR.kpN (((KpN.of (Kp.of e12)).trans (KpN.ofN eN)).trans (KpN.of (Kp.of e4)))).thing
    have e36 : Ex H3 (upd H5 a (ExT (.ref cT) none a)) := (e4.trans e5).trans (Ex.new ha)
    refine ⟨a, .ref cT, .ref cT, cT, none, true, rfl, upd_same, .inl rfl, T.eN', .own cT, T.kNN, true, rfl, ?_⟩
    generalize upd H5 a (ExT (.ref cT) none a) = H6 at e36 ⊢
    have k6 : KpN d la H H6 := ((KpN.of (Kp.of e12)).trans (KpN.ofN eN)).trans (KpN.of (Kp.of e36))
    have D6 : Dr B H6 d la := ((D0.ex e12).extN eN).ex e36
    refine ⟨tabs_ex T3 e36, fun H7 eN7 T7 => ⟨v, rfl, sz_of (Nat.zero_le _), fun p hp => ⟨rfl, v, .ref p, rfl, .inr ⟨?_, fun H8 e8 => ⟨true, T.xN, fun _ b hb => ?_, fun z => by cases z⟩⟩⟩⟩⟩
    · exact (hR.kpN ((k6.trans (KpN.ofN eN7)).trans (KpN.of (Kp.of (Ex.new hp))))).thing
    have e79 : Ex H7 (upd H8 b (ExT (.ref cT) none b)) := ((Ex.new hp).trans e8).trans (Ex.new hb)
    exact ⟨b, .ref cT, .ref cT, cT, none, true, rfl, upd_same, .inl rfl, T.eN', .own cT, T.kNN, q _ ((k6.trans (KpN.ofN eN7)).trans (KpN.of (Kp.of e79))) (((D6.extN eN7).ex e79).up (by omega)) (tabs_ex T7 e79)⟩
  · obtain ⟨us, hx, hdom, htok⟩ : ∃ us : List Use, Dl D.K d la H v (.tuple (us.map useD)) ∧ domD 1000 40 (.tuple (us.map useD)) = true ∧ TabOk us := by
      rcases hR with ⟨x, h1, h2, h3⟩ | ⟨_, _, _, _, _, h5⟩
      · obtain ⟨us, rfl, h4⟩ := h3.mp hP
        exact ⟨us, h1, h2, h4⟩
      · exact absurd hP h5
    have good : ∀ {H' : Hp}, Kp d la H H' → GoodT D.K H' v us := fun k => ⟨(hx.kp k).dp, htok, hdom⟩
    have hul := (good (Kp.of e0)).len
    have hns : (hgts us).length ≤ 1000 := by rw [hgts_len]; exact hul
    have hnb : ∀ n ∈ hgts us, n ≤ 1000 := fun n hn => Nat.le_trans (hgts_le n hn) hul
    refine q_when (b := !true) (et_not (et_B (ev_tabY (ea_cons (ev_var rfl) ea_nil) hR.thing hP))) (fun z => absurd z (by decide)) fun _ H1 e1 => ?_
    have g1 := good (Kp.of e1)
    refine q_when (b := (!decide (true = true)) || !true) (et_or (et_not (et_B (ev_isB (ev_tabY (ea_cons (ev_var rfl) ea_nil) g1.thing trivial) ev_c))) fun _ => et_not (et_B (ev_sameN hns hnb (fun H2 e2 Q2 q2 => ⟨v, rfl, rfl, v, rfl, .inl ⟨us, g1.mono e2, q2⟩⟩) (et_tupL fun H2 e2 Q2 q2 => ?_)))) (fun z => absurd z (by decide)) fun _ H2 e2 => ?_
    · obtain ⟨a, hva⟩ : ∃ a, v = .ref a ∧ UsesAt D.K H2 a us := by
        have h := dp_mono e2 g1.1
        cases h with
        | tup hs ha => exact ⟨_, rfl, _, .inr hs, ha⟩
      obtain ⟨rfl, hus⟩ := hva
      exact ⟨_, rfl, rfl, a, us, rfl, hus, htok.uses, hul, fun p H3 hp e3 h3 => q2 _ H3 e3 (.lst (sq_of h3) (dpA_nats _))⟩
    have e12 := e1.trans e2
    refine q_forR1 (n := 4) (ea_cons ev_c ea_nil) (by decide) (fun i σ' H' => ∃ y2 y3 y4 y5, σ' = [some (.ref d), some v, y2, y3, y4, y5] ∧ Dx (B + 35 * i) d la H H') (fun H3 e3 => ⟨_, _, _, _, rfl, (Dx.of D0 (e12.trans e3)).up (by omega)⟩) ?_ ?_
    · rintro i σ' H' hi ⟨y2, y3, y4, y5, rfl, Di⟩
      refine dlotC (m := us.length) (n := 4) rfl (ev_is (et_lenT (etv_var rfl (good Di.kp).1)) (by rw [List.length_map])) ev_c Di.dr (by omega) hul (by decide) fun w l H3 hw hl h4 D3 => ?_
      have hwl := dl_of (x := lotD l) D3.dr (noL_lot l) hw
      refine ⟨.ref d, rfl, w, rfl, .ref d, rfl, rfl, d, la, _, rfl, D3.dr, by omega, fun o H4 ho D4 => ?_⟩
      refine takeC (j0 := 0) (n := 2) rfl ev_c (by omega) D4.dr (by omega) fun x H5 hx5 D5 => ⟨1, x, rfl, rfl, ?_⟩
      obtain ⟨j, rfl, hj⟩ := int_nat (n := 2) hx5
      have hlot : domD 100 2 (lotD l) = true := by
        refine domD_mk (by rw [List.length_map]; omega) fun e he => ?_
        obtain ⟨p, _, rfl⟩ := List.mem_map.mp he
        exact domD_mk (by show 2 ≤ 100; decide) fun e he => by
          rcases List.mem_cons.mp he with rfl | he
          · rfl
          · rcases List.mem_cons.mp he with rfl | he
            · rfl
            · cases he
      refine spC_mk (n := 5) (E := fun _ _ _ => False) ⟨rfl, d, la, _, w, o, 2, 1 + j, lotD l, by show [V.ref d, w, o, V.int (1 + (j : Int))] = _; rw [show ((1 : Int) + (j : Int)) = ((1 + j : Nat) : Int) by omega], D5.dr, by omega, by omega, by omega, hwl.kp (D4.trans D5).kp, hlot, noL_lot l, ho.kp D5.kp, fun z H6 hz D6 => ?_⟩
      have D36 := (D4.trans D5).trans D6
      have D06 := (Di.trans D3).trans D36
      refine s_forLst (K := D.K) (g := gName 5) (tr := tCons (tVar 3) (tCons (tVar 4) (tCons (tTup (tCons (tTup (tCons (tCB (rLenS D.K) (tCons (tVar 1) tNil)) (tCons (tC (.int 1)) tNil))) tNil)) tNil))) ?_
      refine ⟨w, rfl, z, rfl, ?_⟩
      refine et_tup (K := D.K) (ds := [.tuple [.int (us.length : Int), .int 1]]) (eta_cons (et_tup (eta_cons (etI (ev_is (et_lenT (etv_var rfl (good D06.kp).1)) (by rw [List.length_map]))) (eta_cons (etI ev_c) eta_nil)) (by show 2 ≤ 100000; decide)) eta_nil) (by show 1 ≤ 100000; decide) H6 (Ex.refl _) _ fun u H7 e7 hu => ⟨sz_of (by show 3 ≤ 100000; decide), fun p hp => ?_⟩
      have D07 := D06.ext e7
      have hall : ∀ y ∈ [w, z, u], ∃ x, Dl D.K d la H7 y x ∧ domD 1000 40 x = true := fun y hy => by
        rcases List.mem_cons.mp hy with rfl | hy
        · exact ⟨_, (hwl.kp D36.kp).ex e7, domD_mono (by decide) (by decide) hlot⟩
        · rcases List.mem_cons.mp hy with rfl | hy
          · obtain ⟨x, h1, h2⟩ := hz
            exact ⟨x, h1.ex e7, domD_mono (by decide) (by decide) h2⟩
          · rw [List.mem_singleton.mp hy]
            exact ⟨_, dl_of D07.dr rfl hu, rfl⟩
      refine s_forLn (xs := [w, z, u]) ev_c (sq_of upd_same) (fun k σ3 H8 => ∃ y5, σ3 = [some (.ref d), some v, some (.int (i : Int)), some w, some z, y5] ∧ Ex (upd H7 p (.lst [w, z, u])) H8) (fun H8 e8 => ⟨_, rfl, e8⟩) (fun _ _ _ _ ⟨_, _, e8⟩ => sq_of (e8 _ _ upd_same)) ?_ ?_
      · rintro k y σ3 H8 hk ⟨y5', rfl, e8⟩
        obtain ⟨x, hx8, hd8⟩ := hall y (List.mem_of_getElem? hk)
        have e78 := (Ex.new (o := .lst [w, z, u]) hp).trans e8
        have D08 := D07.ext e78
        have hy8 := (hx8.ex e78).dp
        refine s_when (b := !decide (isLotD us.length x = isLotD us.length x)) (et_not (et_B (ev_isB (ev_ca (vs := [v, y]) (ea_cons (ev_var rfl) (ea_cons (ev_var rfl) ea_nil)) fun H9 e9 Q9 q9 _ => ⟨rfl, v, y, rfl, .inl ⟨us, x, (good D08.kp).mono e9, dp_mono e9 hy8, hd8, q9⟩⟩) (ev_etB (et_ca (ds := [.tuple (us.map useD), x]) (eta_cons (etv_var rfl (good D08.kp).1) (eta_cons (etv_var rfl hy8) eta_nil)) rfl (by rw [fLotL_mk hd8, List.length_map])))))) (fun z => absurd z (by simp)) fun _ H9 e9 => ⟨_, rfl, e8.trans e9⟩
      · rintro σ3 H8 ⟨y5', rfl, e8⟩
        exact ⟨_, _, _, _, rfl, (D07.ext ((Ex.new hp).trans e8)).up (by omega)⟩
    · rintro σ' H' ⟨y2, y3, y4, y5, rfl, Di⟩
      have D4 : Dx (B + 140) d la H H' := Di.up (by omega)
      exact s_ret ev_c fun H3 e3 => q H3 (KpN.of (D4.ext e3).kp) (D4.ext e3).dr ((D4.ext e3).tabs D0 T0)
end Q
set_option maxHeartbeats 8000000
namespace Q
open PySem PySem.Spec PyProof.Rows L2 Evl
variable {D : Wd} {aK cB cT fL c1 P1 : Addr}
def rMinI : List V → Hp → VK → Prop := fun xs H Q => ∃ i j : Int, xs = [.int i, .int j] ∧ Q (.int (if j < i then j else i)) H
theorem call_minI {X : Cx} (hc : X.calm = true) : CallR X (.builtin "min") rMinI := call_min2 hc
theorem ev_min {σ : L2.St} {H : Hp} {ta tb : TE} {i j : Int} (h1 : Ev ta σ H (.int i)) (h2 : Ev tb σ H (.int j)) : Ev (tCB rMinI (tCons ta (tCons tb tNil))) σ H (.int (if j < i then j else i)) := ev_cb (ea_cons h1 (ea_cons h2 ea_nil)) fun H1 _ Q q => ⟨i, j, rfl, q H1 (Ex.refl H1)⟩
section
variable {σ : L2.St} {H : Hp} {te : TE} {c : TT} {t : TS} {tz : TS} {Dn : Ends} {P : Hp → Prop} {sp : Sp} {E : XK} {ta : TA} {vs : List V} {i : Nat}
theorem q_asgC (h : EvA ta σ H vs) (k : ∀ H1, Ex H H1 → sp vs H1 (fun x H2 => tz Dn (σ.set i (some x)) H2) E) : tSeq (tAsg (tCa sp E ta) (gName i)) tz Dn σ H := h H (Ex.refl H) _ k
theorem q_rO (h : ∀ Q' : VK, (∀ H2, P H2 → Q' (.bl true) H2) → te σ H Q') (k : ∀ H2, P H2 → tSeq (tIfS c t tNext) tz Dn σ H2) : tSeq (tIfS (tOr (tNot (tB te)) c) t tNext) tz Dn σ H := h _ fun H2 p => ⟨true, rfl, k H2 p⟩
theorem q_r1 (h : ∀ Q' : VK, (∀ H2, P H2 → Q' (.bl true) H2) → te σ H Q') (k : ∀ H2, P H2 → tz Dn σ H2) : tSeq (tIfS (tNot (tB te)) t tNext) tz Dn σ H := h _ fun H2 p => ⟨true, rfl, k H2 p⟩
theorem s_r1 (h : ∀ Q' : VK, (∀ H2, P H2 → Q' (.bl true) H2) → te σ H Q') (k : ∀ H2, P H2 → Dn.nx σ H2) : tIfS (tNot (tB te)) t tNext Dn σ H := h _ fun H2 p => ⟨true, rfl, k H2 p⟩
end
/-! ### arguments of which something is known -/
section
variable {PP : Hp → V → Prop} {σ : L2.St} {H : Hp} {te : TE} {ta : TA} {n : Nat}
def ElP (PP : Hp → V → Prop) (te : TE) (σ : L2.St) (H : Hp) : Prop := ∀ H1, Ex H H1 → ∀ Q : VK, (∀ v H2, Ex H1 H2 → PP H2 v → Q v H2) → te σ H1 Q
def ArP (PP : Hp → V → Prop) (n : Nat) (ta : TA) (σ : L2.St) (H : Hp) : Prop := ∀ H1, Ex H H1 → ∀ Q : List V → Hp → Prop, (∀ vs H2, Ex H1 H2 → vs.length = n → (∀ v ∈ vs, PP H2 v) → Q vs H2) → ta σ H1 Q
theorem arp_nil : ArP PP 0 tNil σ H := fun H1 _ Q q => q [] H1 (Ex.refl H1) rfl fun v hv => by cases hv
theorem arp_cons (mono : ∀ H H' v, Ex H H' → PP H v → PP H' v) (h : ElP PP te σ H) (hr : ArP PP n ta σ H) : ArP PP (n + 1) (tCons te ta) σ H := fun H1 e Q q => h H1 e _ fun v H2 e2 hv => hr H2 (e.trans e2) _ fun vs H3 e3 hl hvs => q (v :: vs) H3 (e2.trans e3) (by rw [List.length_cons, hl]) fun y hy => by
  rcases List.mem_cons.mp hy with rfl | hy
  · exact mono _ _ _ e3 hv
  · exact hvs y hy
end
theorem arp_lst {PP : Hp → V → Prop} {σ : L2.St} {H : Hp} {ta : TA} {n : Nat} {Q : VK} (h : ArP PP n ta σ H) (hn : n ≤ 1000) (k : ∀ vs H2 p, Ex H H2 → H2 p = none → vs.length = n → (∀ v ∈ vs, PP H2 v) → Q (.ref p) (upd H2 p (.lst vs))) : tLst ta σ H Q := h H (Ex.refl H) _ fun vs H2 e2 hl hv => ⟨sz_of (by omega), fun p hp => k vs H2 p e2 hp hl hv⟩
/-- the law's turn, as it stands -/
structure LS (K : PySem.W.Frag) (T : List (Addr × Str)) (d la : Addr) (c : Int) (H : Hp) (p : Addr) (us : List Use) (t : V) (F : List Use) : Prop where
  dr : Dr c H d la
  tb : LamX.Tabs T H
  ul : Dl K d la H (.ref p) (.list (us.map useD))
  tl : Dl K d la H t (.tuple (F.map useD))
section
variable {K : PySem.W.Frag} {T : List (Addr × Str)} {d la : Addr} {c c' : Int} {H H' : Hp} {p : Addr} {us : List Use} {t : V} {F : List Use}
theorem LS.kpN (s : LS K T d la c H p us t F) (k : KpN d la H H') (D : Dr c' H' d la) (h : LamX.Tabs T H') : LS K T d la c' H' p us t F := ⟨D, h, dl_kpN k s.ul, dl_kpN k s.tl⟩
theorem LS.dx (s : LS K T d la c H p us t F) (D : Dx c' d la H H') : LS K T d la c' H' p us t F := s.kpN (KpN.of D.kp) D.dr (D.tabs s.dr s.tb)
theorem LS.ex (s : LS K T d la c H p us t F) (e : Ex H H') : LS K T d la c H' p us t F := s.dx (Dx.of s.dr e)
theorem LS.up (s : LS K T d la c H p us t F) (h : c ≤ c') : LS K T d la c' H p us t F := ⟨s.dr.up h, s.tb, s.ul, s.tl⟩
end
theorem rt_of {K : PySem.W.Frag} {d la : Addr} {H : Hp} {v : V} {x : PyData} (h : Dl K d la H v x) (hd : domD 1000 40 x = true) : RT K d la H v (IsTab x) := .inl ⟨x, h, hd, Iff.rfl⟩
/-- _law_is_right(draw, v) holds -/
theorem right_at {K : PySem.W.Frag} {T : List (Addr × Str)} {d la : Addr} {c : Int} {H : Hp} {p : Addr} {us : List Use} {t : V} {F : List Use} {v : V} {P : Prop} {Q : VK} (s : LS K T d la c H p us t F) (hc : c + 140 ≤ lim) (hR : RT K d la H v P) (q : ∀ H2, LS K T d la (c + 140) H2 p us t F → Q (.bl true) H2) : spRight K T [.ref d, v] H Q (fun _ _ _ => False) :=
  ⟨rfl, d, la, c, v, P, rfl, s.dr, hc, s.tb, hR, fun H2 k D2 T2 => q H2 (s.kpN k D2 T2)⟩
theorem dom_useL {us : List Use} (ok : ∀ i u, us[i]? = some u → OkUse i u) (hl : us.length ≤ 20) : ∀ e ∈ us.map useD, domD 1000 4 e = true := fun e he => by
  obtain ⟨u, hu, rfl⟩ := List.mem_map.mp he
  obtain ⟨i, hi⟩ := List.getElem?_of_mem hu
  have hlt := (List.getElem?_eq_some_iff.mp hi).1
  exact dom_use (ok i u hi) (by omega)
def spLaw (K : PySem.W.Frag) (T : List (Addr × Str)) : Sp := fun vs H Q _ => vs.length = 1 ∧ ∃ (a : Addr) (ns : List Int), vs = [.ref a] ∧ SqL K H a (ns.map V.int) ∧ ns.length ≤ 1000 ∧ LamX.Tabs T H ∧ ∀ H2, Q (.bl true) H2
abbrev s_law : Stmt := top 52
abbrev N_law : List Str := ["script", "draw", "turn", "uses", "table", "lap"]
theorem sc_law : FnScope N_law ["script"] (defScope s_law) := ⟨rfl, rfl, rfl, by decide +kernel, rfl, by decide +kernel, by decide +kernel⟩
theorem c_law (T : Tx D aK cB cT fL) (M : Tm D c1 P1) : Ca D true 13 "law" 1 (spLaw D.K (tT1 P1)) := by
  have c_l_begun := c_l_begun T
  have c_l_drawn_uses := c_l_drawn_uses T
  have c_l_take := c_l_take T
  have c_l_table := c_l_table T
  have c_l_is_table := c_l_is_table T
  have c_l_is_right := c_l_is_right T M
  have c_l_shuffled := c_l_shuffled T
  have c_l_changed := c_l_changed T
  have c_l_odd := c_l_odd T
  have c_l_pick := c_l_pick T
  obtain ⟨f, fd, F, gm⟩ := T.f52
  refine ca_mk (st := s_law) (N := N_law) (ps := ["script"]) true F gm sc_law (F.bindsN fun _ _ _ _ _ _ us hl => match us, hl with | [_], _ => rfl) (fun vs H Q E h => h.1) fun cdv A outer s H vs Q E hG hr h => ?_
  have nd := sc_law.nd
  have hu := hr.units
  refine ⟨_, (pss_cons (ps_set (i := 1) nd rfl (Or.inl rfl) (pe_ca c_l_begun (fun z => nomatch z) hr (by decide) passL rfl (pa_cons (pv 0) pa_nil)))
    (pss_cons (ps_for (passes_of rfl) rfl (pi_range1 rfl T.n_range (pa_cons (pe_op op_add pe_int (pe_callB (call_minI rfl) (by rfl) T.n_min (by decide +kernel) (pa_cons (pe_callB call_lenL (by rfl) T.n_len (by decide +kernel) (pa_cons (pv 0) pa_nil)) (pa_cons pe_int pa_nil)))) pa_nil)) (pg_name (i := 2) nd rfl (Or.inl rfl))
      (pss_cons (ps_set (i := 3) nd rfl (Or.inl rfl) (pe_ca c_l_drawn_uses (fun z => nomatch z) hr (by decide) passL rfl (pa_cons (pv 1) (pa_cons (pe_ca c_l_take (fun z => nomatch z) hr (by decide) passL rfl (pa_cons (pv 1) (pa_cons pe_int pa_nil))) pa_nil))))
      (pss_cons (ps_set (i := 4) nd rfl (Or.inl rfl) (pe_ix ix_tup (pe_ca c_l_table (fun z => nomatch z) hr (by decide) passL rfl (pa_cons (pv 3) pa_nil)) pe_int (fun _ _ => rfl)))
      (pss_cons (ps_if (PW.pt (pw_or (pt_not (pt_val (pe_ca c_l_is_table (fun z => nomatch z) hr (by decide) passL rfl (pa_cons (pv 4) pa_nil)))) (pw_or (pt_not (pt_val (pe_ca c_l_is_right hG hr (by decide) passL rfl (pa_cons (pv 1) (pa_cons (pv 4) pa_nil))))) (pw_or (pt_not (pt_val (pe_ca c_l_is_right hG hr (by decide) passL rfl (pa_cons (pv 1) (pa_cons (pe_callTy call_tupI (by rfl) T.n_tuple (by decide +kernel) (pa_cons (pv 3) pa_nil)) pa_nil))))) (pw_or1 (pt_not (pt_val (pe_ca c_l_is_right hG hr (by decide) passL rfl (pa_cons (pv 1) (pa_cons (pe_callTy call_tupI (by rfl) T.n_tuple (by decide +kernel) (pa_cons (pe_ca c_l_shuffled (fun z => nomatch z) hr (by decide) passL rfl (pa_cons (pv 1) (pa_cons (pe_callTy call_listI (by rfl) T.n_list (by decide +kernel) (pa_cons (pv 4) pa_nil)) pa_nil))) pa_nil)) pa_nil)))))))))) (pss_one (ps_ret pe_bl)) pss_nil)
      (pss_cons (ps_for (passes_of rfl) rfl (pi_range1 rfl T.n_range (pa_cons pe_int pa_nil)) (pg_name (i := 5) nd rfl (Or.inl rfl))
        (pss_one (ps_if (pt_not (pt_val (pe_ca c_l_is_right hG hr (by decide) passL rfl (pa_cons (pv 1) (pa_cons (pe_ca c_l_changed (fun z => nomatch z) hr (by decide) passL rfl (pa_cons (pv 1) (pa_cons (pv 4) (pa_cons (pe_ca c_l_odd (fun z => nomatch z) hr (by decide) passL rfl (pa_cons (pv 1) pa_nil)) (pa_cons (pe_op op_add pe_int (pe_ca c_l_take (fun z => nomatch z) hr (by decide) passL rfl (pa_cons (pv 1) (pa_cons pe_int pa_nil)))) pa_nil))))) pa_nil))))) (pss_one (ps_ret pe_bl)) pss_nil)))
      (pss_one (ps_if (pt_not (pt_val (pe_ca c_l_is_right hG hr (by decide) passL rfl (pa_cons (pv 1) (pa_cons (pe_ca c_l_pick (fun z => nomatch z) hr (by decide) passL rfl (pa_cons (pv 1) (pa_cons (pe_lst (pa_cons pe_non (pa_cons pe_int (pa_cons pe_bl (pa_cons pe_str (pa_cons (pe_callTy call_listI (by rfl) T.n_list (by decide +kernel) (pa_cons (pv 4) pa_nil)) (pa_cons pe_dnewK (pa_cons (pe_tup (pa_cons (pe_tup pa_nil) pa_nil)) (pa_cons (pe_tup (pa_cons pe_non pa_nil)) (pa_cons (pe_tup (pa_cons (pe_tup (pa_cons pe_str pa_nil)) pa_nil)) (pa_cons (pe_tup (pa_cons (pe_tup (pa_cons pe_str (pa_cons pe_int pa_nil))) (pa_cons (pe_tup (pa_cons pe_str (pa_cons pe_int pa_nil))) pa_nil))) (pa_cons (pe_tup (pa_cons (pe_tup (pa_cons pe_str pa_nil)) (pa_cons (pe_tup (pa_cons pe_str pa_nil)) pa_nil))) pa_nil)))))))))))) pa_nil))) pa_nil))))) (pss_one (ps_ret pe_bl)) pss_nil)))))))
    (pss_one (ps_ret pe_bl)))), ?_⟩
  obtain ⟨_, a, ns, rfl, hs, hl, T0, q⟩ := h
  refine q_asgC (ea_cons (ev_var rfl) ea_nil) fun H1 e1 => ⟨rfl, a, ns, rfl, ex_l e1 hs, hl, fun d la H2 e2 D2 => ?_⟩
  have e12 := e1.trans e2
  have T2 := tabs_ex T0 e12
  have hlim : lim = 1099511627776 := rfl
  refine q_forR1 (n := 3 + (if (3 : Int) < ((ns.map V.int).length : Int) then 3 else ((ns.map V.int).length : Int))) (ea_cons (ev_op ev_c (ev_min (ev_len (ev_var rfl) (ex_l e12 hs)) ev_c) rv_I0) ea_nil) (by split <;> omega) (fun i σ' H' => ∃ v2 v3 v4 v5, σ' = [some (.ref a), some (.ref d), v2, v3, v4, v5] ∧ Dr (3000 * i) H' d la ∧ LamX.Tabs (tT1 P1) H') (fun H3 e3 => ⟨_, _, _, _, rfl, (D2.ex e3).up (by omega), tabs_ex T2 e3⟩) ?_ ?_
  · rintro i σ' H3 hi ⟨v2, v3, v4, v5, rfl, D3, T3⟩
    have hi6 : (i : Int) < 6 := by split at hi <;> omega
    have nod : ∀ {H' : Hp} {Q' : VK} {te : TE} {σ : L2.St}, True := fun {_ _ _ _} => trivial
    refine ⟨.ref d, rfl, ?_⟩
    refine takeC (j0 := 1) (n := 13) rfl ev_c (by omega) D3 (by omega) fun x H4 hx D4 => ?_
    obtain ⟨n, rfl, hn⟩ := int_nat (n := 13) hx
    refine ⟨rfl, d, la, _, n, rfl, D4.dr, by omega, by omega, fun p xs us H5 hp h5 hall ok hnd hul D5 => ?_⟩
    have D35 := D4.trans D5
    have np := D4.dr.d_ne p hp
    have nl := D4.dr.lst_ne p hp
    have hup : Dl D.K d la H5 (.ref p) (.list (us.map useD)) := .lst (sq_of (by rw [rs_get np nl]; exact h5)) hall
    refine ⟨.ref p, rfl, rfl, p, us, rfl, hup.dp, ok, hnd, by omega, fun r t x F H6 e6 hr6 ht htab hFl => ⟨r, _, 0, t, rfl, rfl, st_of hr6, atI_nat (i := 0) rfl, ?_⟩⟩
    have D36 := D35.ext e6
    have hF20 : F.length ≤ 20 := by omega
    have htl : Dl D.K d la H6 t (.tuple (F.map useD)) := dl_of (x := .tuple (F.map useD)) D36.dr (noLA_map noL_use F) ht
    have htd : domD 1000 40 (.tuple (F.map useD)) = true := dom_tab htab (by omega)
    have htT : IsTab (.tuple (F.map useD)) := ⟨F, rfl, htab⟩
    have s6 : LS D.K (tT1 P1) d la (3000 * i + 1 + 40 * 12) H6 p us t F := ⟨D36.dr.up (by omega), D36.tabs D3 T3, hup.ex e6, htl⟩
    refine q_whenO (et_is (a := !true) (et_not (et_B (ev_tabY (ea_cons (ev_var rfl) ea_nil) (rt_of s6.tl htd).thing htT))) rfl) fun H7 e7 => ?_
    have s7 := s6.ex e7
    refine q_rO (P := fun H' => LS D.K (tT1 P1) d la (3000 * i + 1 + 40 * 12 + 140) H' p us t F) (fun Q' k => ⟨.ref d, rfl, t, rfl, right_at s7 (by omega) (rt_of s7.tl htd) k⟩) fun H8 s8 => ?_
    refine q_rO (P := fun H' => LS D.K (tT1 P1) d la (3000 * i + 1 + 40 * 12 + 140 + 140) H' p us t F) (fun Q' k => ⟨.ref d, rfl, ?_⟩) fun H9 s9 => ?_
    · refine et_tupL (K := D.K) (etv_var rfl s8.ul.dp) H8 (Ex.refl _) _ fun w H9 e9 hw => ?_
      have s9 := s8.ex e9
      exact right_at s9 (by omega) (rt_of (x := .tuple (us.map useD)) (dl_of s9.dr (x := .tuple (us.map useD)) (noLA_map noL_use us) hw) (domD_mono (Nat.le_refl _) (by decide) (domD_mk (n := 4) (by rw [List.length_map]; omega) (dom_useL ok (by omega))))) k
    refine q_r1 (P := fun H' => LS D.K (tT1 P1) d la (3000 * i + 1 + 40 * 12 + 140 + 140 + 20 + 140) H' p us t F) (fun Q' k => ⟨.ref d, rfl, ?_⟩) fun H10 s10 => ?_
    · obtain ⟨ta, txs, rfl, hts, hta⟩ : ∃ ta txs, t = .ref ta ∧ SqT D.K (rs d la H9) ta txs ∧ DpAll D.K (rs d la H9) txs (F.map useD) := by
        have h := s9.tl
        unfold Dl at h
        cases h with
        | tup hs ha => exact ⟨_, _, rfl, hs, ha⟩
      refine ⟨.ref d, rfl, .ref ta, rfl, ta, txs, rfl, .inr (ex_t rs_ex hts), fun l hl0 => ?_⟩
      have e10 : Ex H9 (upd H9 l (.lst txs)) := Ex.new hl0
      have s10 := s9.ex e10
      refine ⟨rfl, d, la, _, l, txs, F.map useD, rfl, s10.dr, by rw [List.length_map]; omega, s9.dr.lst_ne l hl0, upd_same, dpA_mono (Kp.of e10).rs hta, by rw [List.length_map]; omega, fun e he => ?_, fun r' ys es H11 hrl hrd hr' hes hmem hlen D11 => ?_⟩
      · obtain ⟨u, _, rfl⟩ := List.mem_map.mp he
        exact noL_use u
      have s11 := (s10.dx D11).up (c' := 3000 * i + 1 + 40 * 12 + 140 + 140 + 20) (by rw [List.length_map]; omega)
      have hel : es.length ≤ 20 := by rw [List.length_map] at hlen; omega
      have hed : ∀ e ∈ es, domD 1000 4 e = true := fun e he => dom_useL htab.uses hF20 e (hmem e he)
      have hen : noLA es = true := noLA_of fun e he => by
        obtain ⟨u, _, rfl⟩ := List.mem_map.mp (hmem e he)
        exact noL_use u
      refine ⟨r', ys, rfl, .inl ⟨sq_of hr', fun z hz => ?_⟩⟩
      have s12 := s11.ex (Ex.new (o := .tup ys) hz)
      have nz := s11.dr.d_ne z hz
      have nz' := s11.dr.lst_ne z hz
      refine right_at s12 (by omega) (rt_of (x := .tuple es) ?_ (domD_mono (Nat.le_refl _) (by decide) (domD_mk (n := 4) (by omega) hed))) k
      refine .tup ?_ (dpA_mono (Kp.of (Ex.new hz)).rs hes)
      rw [rs_new nz nz']
      exact st_of upd_same
    refine q_forR1 (n := 8) (ea_cons ev_c ea_nil) (by decide) (fun j σ' H' => ∃ v5, σ' = [some (.ref a), some (.ref d), some (.int (i : Int)), some (.ref p), some t, v5] ∧ LS D.K (tT1 P1) d la (3000 * i + 1000 + 170 * j) H' p us t F) (fun H11 e11 => ⟨_, rfl, (s10.ex e11).up (by omega)⟩) ?_ ?_
    · rintro j σ' H11 hj ⟨v5', rfl, s11⟩
      refine s_r1 (P := fun H' => LS D.K (tT1 P1) d la (3000 * i + 1000 + 170 * j + 1 + 1 + 24 + 140) H' p us t F) (fun Q' k => ?_) fun H12 s12 => ⟨_, rfl, s12.up (by omega)⟩
      refine ⟨.ref d, rfl, .ref d, rfl, t, rfl, .ref d, rfl, rfl, d, la, _, rfl, s11.dr, by omega, fun o H12 ho D12 => ?_⟩
      refine takeC (j0 := 1) (n := 5) rfl ev_c (by omega) D12.dr (by omega) fun y H13 hy D13 => ⟨1, y, rfl, rfl, ?_⟩
      obtain ⟨m, rfl, hm⟩ := int_nat (n := 5) hy
      have s13 := s11.dx (D12.trans D13)
      refine spC_mk (n := 5) (E := fun _ _ _ => False) ⟨rfl, d, la, _, t, o, 5, 1 + m, .tuple (F.map useD), by show [V.ref d, t, o, V.int (1 + (m : Int))] = _; rw [show ((1 : Int) + (m : Int)) = ((1 + m : Nat) : Int) by omega], D13.dr, by omega, by omega, by omega, s13.tl, dom_tabS htab (by omega) (by decide), noLA_map noL_use F, ho.kp D13.kp, fun z H14 hz D14 => ?_⟩
      obtain ⟨zx, hz1, hz2⟩ := hz
      have s14 := (s13.dx D14).up (c' := 3000 * i + 1000 + 170 * j + 1 + 1 + 24) (by omega)
      exact right_at s14 (by omega) (rt_of hz1 (domD_mono (by decide) (by decide) hz2)) k
    · rintro σ' H11 ⟨v5', rfl, s11⟩
      let PP : Hp → V → Prop := fun H' y => ∃ P, RT D.K d la H' y P
      have mono : ∀ H1 H2 y, Ex H1 H2 → PP H1 y → PP H2 y := fun _ _ _ e h => let ⟨P, z⟩ := h; ⟨P, z.kpN (KpN.of (Kp.of e))⟩
      have el : ∀ {n : Nat} {te : TE} {x : PyData} {σ : L2.St}, TeD n te x → domD 1000 40 x = true → ElP PP te σ H11 := fun h hd H1 e Q q => TeD.ev (K := D.K) h (s11.dr.ex e) Q fun v H2 e2 hv => q v H2 e2 ⟨_, rt_of hv hd⟩
      obtain ⟨ta, txs, rfl, hts, hta⟩ : ∃ ta txs, t = .ref ta ∧ SqT D.K (rs d la H11) ta txs ∧ DpAll D.K (rs d la H11) txs (F.map useD) := by
        have h := s11.tl
        unfold Dl at h
        cases h with
        | tup hs ha => exact ⟨_, _, rfl, hs, ha⟩
      have eL : ElP PP (tCB (rListOf D.K) (tCons (tVar 4) tNil)) [some (.ref a), some (.ref d), some (.int (i : Int)), some (.ref p), some (.ref ta), v5'] H11 := fun H1 e Q q => ⟨.ref ta, rfl, ta, txs, rfl, .inr (ex_t (rs_ex.trans e) hts), fun l hl0 => q _ _ (Ex.new hl0) ⟨_, rt_of (x := .list (F.map useD)) (by
        have e2 : Ex H1 (upd H1 l (.lst txs)) := Ex.new hl0
        have D1 := s11.dr.ex e
        show Dp D.K (rs d la _) _ _
        refine .lst ?_ (dpA_mono (Kp.of (e.trans e2)).rs hta)
        rw [rs_new (D1.d_ne l hl0) (D1.lst_ne l hl0)]
        exact sq_of upd_same) (domD_mono (Nat.le_refl _) (by decide) (domD_mkL (n := 4) (by rw [List.length_map]; omega) (dom_useL htab.uses hF20)))⟩⟩
      have eD : ∀ {σ : L2.St}, ElP PP tDNewK σ H11 := fun {σ} H1 e Q q => fun l hl0 => q _ _ (Ex.new hl0) ⟨False, .inr ⟨l, rfl, (s11.dr.ex e).d_ne l hl0, (s11.dr.ex e).lst_ne l hl0, upd_same, id⟩⟩
      have tn : ∀ {n : Nat}, TeD n (tC (.str "num")) (.str "num") := fun {n} => .str (by decide +kernel)
      have te : ∀ {n : Nat}, TeD n (tC (.str "end")) (.str "end") := fun {n} => .str (by decide +kernel)
      refine s_r1 (P := fun H' => LS D.K (tT1 P1) d la (3000 * i + 1000 + 170 * 8 + 1 + 140) H' p us (.ref ta) F) (fun Q' k => ?_) fun H12 s12 => ⟨_, _, _, _, rfl, s12.dr.up (by omega), s12.tb⟩
      refine ⟨.ref d, rfl, .ref d, rfl, ?_⟩
      refine arp_lst (PP := PP) (n := 11) ?_ (by decide) fun vs H12 r e12 hr hlen hvs => ?_
      · refine arp_cons mono (el (n := 3) (x := .none) .non rfl) ?_
        refine arp_cons mono (el (n := 3) (x := .int 5) .int rfl) ?_
        refine arp_cons mono (el (n := 3) (x := .bool true) .bl rfl) ?_
        refine arp_cons mono (el (n := 3) (x := .str "num") tn (by decide +kernel)) ?_
        refine arp_cons mono eL ?_
        refine arp_cons mono eD ?_
        refine arp_cons mono (el (n := 3) (x := .tuple [.tuple []]) (.tup (.cons (.tup .nil (by decide)) .nil) (by decide)) (by decide +kernel)) ?_
        refine arp_cons mono (el (n := 3) (x := .tuple [.none]) (.tup (.cons .non .nil) (by decide)) (by decide +kernel)) ?_
        refine arp_cons mono (el (n := 3) (x := .tuple [.tuple [.str "num"]]) (.tup (.cons (.tup (.cons tn .nil) (by decide)) .nil) (by decide)) (by decide +kernel)) ?_
        refine arp_cons mono (el (n := 3) (x := .tuple [.tuple [.str "num", .int 1], .tuple [.str "num", .int 1]]) (.tup (.cons (.tup (.cons tn (.cons .int .nil)) (by decide)) (.cons (.tup (.cons tn (.cons .int .nil)) (by decide)) .nil)) (by decide)) (by decide +kernel)) ?_
        exact arp_cons mono (el (n := 3) (x := .tuple [.tuple [.str "end"], .tuple [.str "end"]]) (.tup (.cons (.tup (.cons te .nil) (by decide)) (.cons (.tup (.cons te .nil) (by decide)) .nil)) (by decide)) (by decide +kernel)) arp_nil
      have e13 := Ex.new (o := .lst vs) hr
      have s13 := (s11.ex e12).ex e13
      refine ⟨rfl, d, la, _, r, vs, PP, rfl, s13.dr, by omega, (s11.ex e12).dr.lst_ne r hr, upd_same, fun z => ?_, by omega, fun y hy => mono _ _ _ e13 (hvs y hy), fun _ _ _ k h => let ⟨P, z⟩ := h; ⟨P, z.kpN (KpN.of k)⟩, fun v H14 hv D14 => ?_⟩
      · rw [z] at hlen
        cases hlen
      · obtain ⟨P, hP⟩ := hv
        exact right_at ((s13.dx D14).up (by omega)) (by omega) hP k
  · rintro σ' H' ⟨v2, v3, v4, v5, rfl, _, _⟩
    exact s_ret ev_c fun H2 _ => q H2
end Q
set_option maxHeartbeats 4000000
namespace Q
open PySem PySem.Spec PyProof.Rows L2
/-! ### the end of a law whose def shows data: the caller's guards are none -/
/-- what is tracked when the law is called: the script (if the written part does not hold it), the tables -/
def bgn (K : PySem.W.Frag) (a : Addr) (o : Obj) (xs : List V) (ts : List Addr) : Hp := fun b => if b = a ∧ (K.lookup a).isNone = true then some (.frz o (.lst xs)) else if b ∈ ts then some (.tbl #[]) else none
theorem law_callG {P : Program} {w : World} {K : PySem.W.Frag} {mg mb : Str → Option Value} {k : Nat} {fa a : Addr} {cs : List (Addr × Addr)} {x y : Str} {sp : Sp} {s₁ : Shared} {vs : List Value} {ns : List Int}
    (KX : K.In s₁.heap) (hns : s₁.heap.Ns mainGlobals mg) (hb : s₁.heap.Ns builtinsNs mb) (hbb : ∀ x : Str, x ≠ "__name__" → mb x = bootBuiltins x) (hlim : s₁.heap.NoLimit) (hg : s₁.gens = #[])
    (hT : ∀ p ∈ cs, s₁.heap.get? p.2 = some { cls := .none, data := .fields #[] }) (nT : ∀ p ∈ cs, K.lookup p.2 = none) (C : ∀ p ∈ cs, PySem.W.CodeHd s₁.heap p.1 p.2)
    (hbm : ∃ (bm : Addr) (ob : Obj), mg "__builtins__" = some (.ref bm) ∧ bm ≠ builtinsNs ∧ s₁.heap.get? bm = some ob ∧ ob.cls = .type "module" ∧ ob.dict = some builtinsNs ∧ ob.data = .plain)
    (ha : s₁.heap.get? a = some { cls := .type "list", data := .seq vs.toArray }) (hi : IntsAre vs ns) (hl : ns.length ≤ sizeLine) (hr : Room k callerA) (gm : mg x = some (.ref fa))
    (F : ∀ base : Heap, K.In base → base.Ns mainGlobals mg → (∀ p ∈ cs, LamX.TabB base mg p.1 p.2) → Ca ⟨P, w, K, mg, base⟩ true k x 1 sp)
    (hsp : ∀ H : Hp, (∀ p ∈ cs, H p.2 = some (.tbl #[])) → SqL K H a (ns.map V.int) → sp [.ref a] H (fun v _ => v = .bl true) fun _ _ _ => False) :
    codeAny (model P w) callerA (.call (.ref fa) ⟨[.ref a], []⟩) (fun r s' => r = .ok (.ret (.bool true)) ∧ OldK s₁.heap s'.heap ∧ s'.os = s₁.os ∧ AllBare s'.gens) s₁ := by
  have rv := vals_ints hi
  have lenV := hi.length
  -- the tables
  have isT : ∀ b ∈ cs.map (·.2), s₁.heap.get? b = some { cls := .none, data := .fields #[] } := fun b hb => by
    obtain ⟨p, hp, rfl⟩ := List.mem_map.mp hb
    exact hT p hp
  have memT : ∀ p ∈ cs, p.2 ∈ cs.map (·.2) := fun p hp => List.mem_map.mpr ⟨p, hp, rfl⟩
  have aT : a ∉ cs.map (·.2) := fun z => by
    have q := isT a z
    rw [ha] at q
    cases q
  generalize hH : bgn K a { cls := .type "list", data := .seq vs.toArray } (ns.map V.int) (cs.map (·.2)) = H
  have cas : ∀ b, (H b = none ∧ b ∉ cs.map (·.2)) ∨ (b ∈ cs.map (·.2) ∧ H b = some (.tbl #[])) ∨ (b = a ∧ K.lookup a = none ∧ H b = some (.frz { cls := .type "list", data := .seq vs.toArray } (.lst (ns.map V.int)))) := fun b => by
    rw [← hH]
    unfold bgn
    by_cases h1 : b = a ∧ (K.lookup a).isNone = true
    · exact .inr (.inr ⟨h1.1, by simpa using h1.2, if_pos h1⟩)
    · by_cases h2 : b ∈ cs.map (·.2)
      · exact .inr (.inl ⟨h2, by rw [if_neg h1, if_pos h2]⟩)
      · exact .inl ⟨by rw [if_neg h1, if_neg h2], h2⟩
  have hTb : ∀ p ∈ cs, H p.2 = some (.tbl #[]) := fun p hp => by
    rcases cas p.2 with ⟨_, h⟩ | ⟨_, h⟩ | ⟨h, _⟩
    · exact absurd (memT p hp) h
    · exact h
    · exact absurd (memT p hp) (by rw [h]; exact aT)
  have hS : SqL K H a (ns.map V.int) := by
    cases hk : K.lookup a with
    | some o =>
      have e := KX a o hk
      rw [ha] at e
      cases e
      exact .inr ⟨_, vs.toArray, _, hk, rfl, rfl, rfl, by rw [List.size_toArray, lenV]; exact hl, by simpa using rv⟩
    | none => exact .inl (.inr ⟨{ cls := .type "list", data := .seq vs.toArray }, by rw [← hH]; exact if_pos ⟨rfl, by rw [hk]; rfl⟩⟩)
  have hok : HOk P w H s₁.heap := fun b u z => by
    rcases cas b with ⟨h, _⟩ | ⟨h1, h⟩ | ⟨rfl, _, h⟩
    · rw [h] at z
      cases z
    · rw [h] at z
      cases z
      exact isT b h1
    · rw [h] at z
      cases z
      exact ⟨ha, by rw [List.length_map]; exact hl, vs, _, rv, ha⟩
  -- what is not tracked stands in the base
  have free : ∀ {b : Addr} {o : Obj}, s₁.heap.get? b = some o → (∀ vs n, o.data ≠ .seq vs n) → o.data ≠ .fields #[] → H b = none := fun {b o} e h1 h2 => by
    rcases cas b with ⟨h, _⟩ | ⟨h, _⟩ | ⟨rfl, _, _⟩
    · exact h
    · rw [isT b h] at e
      cases e
      exact absurd rfl h2
    · rw [ha] at e
      cases e
      exact absurd rfl (h1 _ _)
  have freeK : ∀ b o, K.lookup b = some o → H b = none := fun b o e => by
    rcases cas b with ⟨h, _⟩ | ⟨h, _⟩ | ⟨rfl, h, _⟩
    · exact h
    · obtain ⟨p, hp, rfl⟩ := List.mem_map.mp h
      rw [nT p hp] at e
      cases e
    · rw [h] at e
      cases e
  have nsB : ∀ {b : Addr} {m : Str → Option Value}, s₁.heap.Ns b m → (hidT s₁.heap H).Ns b m := fun {b m} ⟨o, es, ep, e, d, r⟩ => ⟨o, es, ep, hidT_get e (free e (fun _ _ z => by rw [d] at z; cases z) fun z => by rw [d] at z; cases z), d, r⟩
  have hKb : K.In (hidT s₁.heap H) := fun b o e => hidT_get (KX b o e) (freeK b o e)
  have hM : L2.Mod K mg (hidT s₁.heap H) := ⟨hKb, nsB hns, ⟨mb, nsB hb, hbb⟩, let ⟨mc, h1, h2⟩ := hlim; ⟨mc, nsB h1, h2⟩⟩
  have TB : ∀ p ∈ cs, LamX.TabB (hidT s₁.heap H) mg p.1 p.2 := fun p hp => by
    have hTp := hT p hp
    refine ⟨?_, ?_, fun z => ?_⟩
    · obtain ⟨o, us, file, tf, flags, tg, inF, text, tt, e1, r1, r2, r3, r⟩ := C p hp
      exact ⟨o, us, file, tf, flags, tg, inF, text, tt, hidT_get e1 (free e1 (fun _ _ z => by rw [r2] at z; cases z) fun z => by
        rw [r2] at z
        cases z
        simp at r3), r1, r2, r3, r⟩
    · obtain ⟨bm, ob, b1, b2, b3, b4, b5, b6⟩ := hbm
      refine ⟨bm, ob, b1, b2, fun q => ?_, fun q => ?_, hidT_get b3 (free b3 (fun _ _ z => by rw [b6] at z; cases z) fun z => by rw [b6] at z; cases z), b4, b5, b6⟩
      · obtain ⟨o, es, ep, e, hd, _⟩ := hns
        rw [q, e] at b3
        cases b3
        rw [hd] at b6
        cases b6
      · rw [q, hTp] at b3
        cases b3
        cases b6
    · obtain ⟨o, es, ep, e, hd, _⟩ := hns
      rw [z, hTp] at e
      cases e
      cases hd
  have e0 : Env0 P w K mg (hidT s₁.heap H) callerA [] s₁ H := ⟨rfl, hM, fun b o e => of_hidT e, Nat.le_of_eq (hidT_size _ _), trivial, fun b hb => absurd (show b ∈ ([] : List Addr) from hb) (by simp), hok, .of_eq hg⟩
  obtain ⟨f', fd, ps, gm', kp, hbi, hn, hlen, run⟩ := (F _ hKb (nsB hns) TB).ex
  have ef : f' = fa := by
    have z := gm'.symm.trans gm
    cases z
    rfl
  subst ef
  obtain ⟨p0, rfl⟩ : ∃ p0, ps = [p0] := by
    match ps, hn with
    | [p0], _ => exact ⟨p0, rfl⟩
  have hbt := hbi s₁ [.ref a] KX rfl
  refine codeAny_mono (run callerA [] s₁ H ⟨[.ref a], []⟩ [.ref a] [.ref a] _ _ (fun _ => rfl) hr e0 (by simpa using hbt) (.cons rfl .nil) (hsp H hTb hS)) fun r s' h => ?_
  cases r with
  | error e =>
    obtain ⟨_, _, _, _, _, _, _, _, _, _, _, _, z⟩ := h
    exact z.elim
  | ok fl =>
    cases fl with
    | next => exact False.elim h
    | brk => exact False.elim h
    | cont => exact False.elim h
    | ret u =>
      obtain ⟨v, H', os, bare, un, hok', r', q⟩ := h
      have q' : v = .bl true := q
      subst q'
      obtain rfl : u = Value.bool true := r'
      have key : ∀ b o, b ∉ cs.map (·.2) → s₁.heap.get? b = some o → s'.heap.get? b = some o := fun b o nb e => by
        rcases cas b with ⟨h, _⟩ | ⟨h, _⟩ | ⟨rfl, _, h⟩
        · exact un.keep b o e h (by intro z; exact absurd (show b ∈ ([] : List Addr) from z) (by simp)) (by simp)
        · exact absurd h nb
        · obtain ⟨e1, _⟩ := hok b _ h
          obtain ⟨e2, _⟩ := hok' b _ (un.frzs b _ _ h)
          rw [e] at e1
          cases e1
          exact e2
      have tab : ∀ p ∈ cs, ∃ more : Array Value, s'.heap.get? p.2 = some { cls := .none, data := .fields more } := fun p hp => by
        obtain ⟨more, z⟩ := un.tbls p.2 #[] (hTb p hp)
        exact ⟨_, hok' p.2 _ z⟩
      refine ⟨rfl, ⟨fun b o e => ?_, fun b o e => ?_⟩, os, bare⟩
      · by_cases hb : b ∈ cs.map (·.2)
        · obtain ⟨p, hp, rfl⟩ := List.mem_map.mp hb
          obtain ⟨more, hm⟩ := tab p hp
          rw [hT p hp] at e
          cases e
          exact .inr (.inl ⟨((C p hp).tab (hT p hp)).isCodeTable, rfl, #[], more, rfl, by rw [Array.empty_append]; exact hm⟩)
        · exact .inl (key b o hb e)
      · by_cases hb : b ∈ cs.map (·.2)
        · obtain ⟨p, hp, rfl⟩ := List.mem_map.mp hb
          obtain ⟨more, hm⟩ := tab p hp
          exact ⟨_, hm⟩
        · exact ⟨o, key b o hb e⟩
theorem walk_G {l : PySem.W.OpenLaw} {n k : Nat} {q : Program} {loose : List Str} {XP : (Str → Option Value) → Heap → Prop} {YP : World → Heap → Prop} {d : DefRec}
    (hn : l.most = some n) (hn2 : n ≤ sizeLine) (hdf : d.params.defaults = []) (hr : Room k callerA)
    (F : ∀ (w : World) (mg : Str → Option Value) (fa : Addr) (h : Heap), YP w h → h.Ns mainGlobals mg → mg d.name = some (.ref fa) → ∃ (K : PySem.W.Frag) (cs : List (Addr × Addr)) (sp : Sp), K.In h ∧
      (∀ p ∈ cs, h.get? p.2 = some { cls := .none, data := .fields #[] }) ∧ (∀ p ∈ cs, K.lookup p.2 = none) ∧ (∀ p ∈ cs, PySem.W.CodeHd h p.1 p.2) ∧
      (∀ (H : Hp) (a : Addr) (ns : List Int), ns.length ≤ n → (∀ p ∈ cs, H p.2 = some (.tbl #[])) → SqL K H a (ns.map V.int) → sp [.ref a] H (fun v _ => v = .bl true) fun _ _ _ => False) ∧
      ∀ base : Heap, K.In base → base.Ns mainGlobals mg → (∀ p ∈ cs, LamX.TabB base mg p.1 p.2) → Ca ⟨l.prog, w, K, mg, base⟩ true k d.name 1 sp) :
    PySem.W.WalkO q loose XP YP l.row.toRowW d [] (fun f vs => PySem.call f vs) := by
  refine Att.attach_callB hn hdf fun w s₀ s₁ mg mb fa o pm cd doc a vs ns G Y ho hd hcd hmg hobj hints hlen hbits hg => ?_
  obtain ⟨K, cs, sp, KX, hT, nT, C, hsp, hF⟩ := F w mg fa _ Y G.T.g hmg
  exact law_callG (y := d.name) KX G.T.g G.T.b G.T.builtins G.T.nolimit hg hT nT C G.T.bmain hobj hints (Nat.le_trans hlen hn2) hr hmg hF fun H hH hS => hsp H a ns hlen hH hS
end Q
set_option maxHeartbeats 0
namespace Q
open PySem PySem.Spec PyProof.Rows L2
def excB (K : PySem.W.Frag) (C : Addr) : Bool := decide (PySem.W.findIn K (.ref C) "__getattribute__" = some (some (.builtin "BaseException.__getattribute__"))) && (decide (PySem.W.findIn K (.ref C) "__getattr__" = some none) && (decide (PySem.W.subIn K (.ref C) (.type "BaseException") = some true) && (PySem.W.hasDictIn K C && (decide (PySem.W.findIn K (.ref C) "__class__" = some (some (.builtin "object.__class__"))) && (decide (PySem.W.specialIn K (.builtin "object.__class__") "__get__" = some (some (.builtin "getset_descriptor.__get__"))) && (decide (PySem.W.takesIn K (.builtin "object.__class__") = some true) && decide (PySem.W.mroIn K C (.type "object") = some true)))))))
theorem ba {a b : Bool} (h : (a && b) = true) : a = true ∧ b = true := Bool.and_eq_true_iff.mp h
theorem excB_ok {K : PySem.W.Frag} {C : Addr} (h : excB K C = true) : ExcC K C := by
  obtain ⟨h1, h⟩ := ba h
  obtain ⟨h2, h⟩ := ba h
  obtain ⟨h3, h⟩ := ba h
  obtain ⟨h4, h⟩ := ba h
  obtain ⟨h5, h⟩ := ba h
  obtain ⟨h6, h⟩ := ba h
  obtain ⟨h7, h8⟩ := ba h
  exact ⟨of_decide_eq_true h1, of_decide_eq_true h2, of_decide_eq_true h3, h4, of_decide_eq_true h5, of_decide_eq_true h6, of_decide_eq_true h7, of_decide_eq_true h8⟩
theorem kit_ref {K : PySem.W.Frag} {C : Addr} : PySem.W.kitOne K (.ref C) (.ref C) = some true := by
  unfold PySem.W.kitOne
  exact if_pos (by simp)
def dD (x : Str) (i : Nat) : He.DefD := ⟨(x, none), x, x, defArgs (top i), defBody (top i), defScope (top i), [], []⟩
def fn1 : List He.DefD := [dD "is_number" 4, dD "is_tuple" 5, dD "is_word" 10, dD "is_pair" 14, dD "is_lot_below" 15, dD "has_kind" 16, dD "lots_in" 17, dD "is_use" 18, dD "height_of" 19, dD "use_key" 20, dD "heights_told" 21, dD "is_table" 22, dD "need_table" 23, dD "use_heights" 24]
def fn2 : List He.DefD := [dD "is_lot" 25, dD "_law_begun" 27, dD "_law_mixed" 28, dD "_law_take" 29, dD "_law_pick" 30, dD "_law_shuffled" 31, dD "_law_caught" 32, dD "_law_is" 33, dD "_law_same" 34, dD "_law_is_number" 35, dD "_law_lots_in" 36, dD "_law_moved_lot" 37, dD "_law_moved_use" 38, dD "_law_heights" 39]
def fn3 : List He.DefD := [dD "_law_use_key" 40, dD "_law_table" 41, dD "_law_is_lot" 42, dD "_law_is_word" 43, dD "_law_is_use" 44, dD "_law_first_use" 45, dD "_law_drawn_lot" 46, dD "_law_drawn_uses" 47, dD "_law_changed" 48, dD "_law_odd" 49, dD "_law_is_table" 50, dD "_law_is_right" 51, dD "law" 52]
def fnY : List He.DefD := fn1 ++ fn2 ++ fn3
def fa1 : List He.Fa := [.free "len", .free "isinstance", .free "all", .free "abs", .free "repr", .free "str", .free "bool", .free "tuple", .free "int", .free "list", .free "range", .free "min", .free "max", .free "zip", .free "enumerate", .free "sorted", .str "SMALL" "abcdefghijklmnopqrstuvwxyz"]
def fa2 : List He.Fa := [.str "GREAT" "ABCDEFGHIJKLMNOPQRSTUVWXYZ", .int "MOST_LETTERS" 8, .int "MOST_PARTS" 4, .glo "KINDS", .glo "BadTable", .glo "BillError", .exc "BadTable", .exm "BadTable" "BillError" true, .glo "is_number", .glo "is_tuple", .glo "is_word", .glo "is_pair", .glo "is_lot_below", .glo "has_kind", .glo "lots_in", .glo "is_use", .glo "height_of"]
def fa3 : List He.Fa := [.glo "use_key", .glo "heights_told", .glo "is_table", .glo "need_table", .glo "use_heights", .glo "is_lot", .glo "_law_begun", .glo "_law_mixed", .glo "_law_take", .glo "_law_pick", .glo "_law_shuffled", .glo "_law_caught", .glo "_law_is", .glo "_law_same", .glo "_law_is_number", .glo "_law_lots_in", .glo "_law_moved_lot"]
def fa4 : List He.Fa := [.glo "_law_moved_use", .glo "_law_heights", .glo "_law_use_key", .glo "_law_table", .glo "_law_is_lot", .glo "_law_is_word", .glo "_law_is_use", .glo "_law_first_use", .glo "_law_drawn_lot", .glo "_law_drawn_uses", .glo "_law_changed", .glo "_law_odd", .glo "_law_is_table", .glo "_law_is_right", .glo "law"]
def faY : List He.Fa := fa1 ++ fa2 ++ fa3 ++ fa4
def tfY : List He.Defn := [("_law_is_right", none)]
abbrev R : PySem.W.OpenRow := PySem.W.OpenLaw.row PySem.Challenge.rw_runsbilled_k21_tables_of_uses
/-- the tuple of kinds has no dict of its own -/
def bareB (K : PySem.W.Frag) (a : Addr) : Bool := match K.lookup a with
  | some ⟨.type t, none, _, _⟩ => t == "tuple"
  | _ => false
theorem bareB_ok {K : PySem.W.Frag} {a : Addr} (h : bareB K a = true) : ∃ o, K.lookup a = some o ∧ o.cls = .type "tuple" ∧ o.dict = none := by
  unfold bareB at h
  split at h
  · rename_i t dt sl e
    have z := beq_iff_eq.mp h
    subst z
    exact ⟨_, e, rfl, rfl⟩
  · cases h
def exY (K : PySem.W.Frag) : Bool := He.tupB K "KINDS" [.str "num", .str "end", .str "con", .str "fun"] && (bareB K (He.ga K "KINDS") && excB K (He.ga K "BadTable"))
abbrev hkY : PySem.W.Hook := He.hookX 5 faY fnY [] tfY exY
def ob (s : PySem.W.SharedT) : He.AlX := He.obsX 5 faY fnY [] tfY exY (HandSHeadRun.getT s)
theorem ob_eq (s : PySem.W.SharedT) : ob s = hkY.obs s.abs := He.obsX_eq (HandSHeadRun.getT_eq s)
def names0 : List PySem.Str := ["__name__", "BillError", "BadTable", "is_number", "is_tuple", "SMALL", "GREAT", "MOST_LETTERS", "is_word", "KINDS", "MOST_PARTS", "is_pair", "is_lot_below", "has_kind"]
def names1 : List PySem.Str := ["lots_in", "is_use", "height_of", "use_key", "heights_told", "is_table", "need_table", "use_heights", "is_lot", "_law_begun", "_law_mixed", "_law_take", "_law_pick", "_law_shuffled"]
def names2 : List PySem.Str := ["_law_caught", "_law_is", "_law_same", "_law_is_number", "_law_lots_in", "_law_moved_lot", "_law_moved_use", "_law_heights", "_law_use_key", "_law_table", "_law_is_lot", "_law_is_word", "_law_is_use", "_law_first_use"]
def names3 : List PySem.Str := ["_law_drawn_lot", "_law_drawn_uses", "_law_changed", "_law_odd", "_law_is_table", "_law_is_right"]
def names : List PySem.Str := names0 ++ names1 ++ names2 ++ names3
theorem runY (w : World) : HandSHeadRun.RunEq R (PySem.W.view R.prog [52]) hkY ob 2000 names w := by
  intro os
  kernel_rfl
end Q
namespace Q
open PySem PySem.Spec PyProof.Rows L2
theorem tx_of {w : World} {K : PySem.W.Frag} {h : Heap} {mg : Str → Option Value} (X : K.In h) (G : h.Ns mainGlobals mg) (c : He.SaysX faY fnY [] tfY exY w h K) (base : Heap) :
    Tx ⟨R.prog, w, K, mg, base⟩ (He.ga K "KINDS") (He.ga K "BillError") (He.ga K "BadTable") (He.ga K "is_lot_below") := by
  have cd : He.SaysD faY fnY K := congrArg (fun z : He.AlT => z.1) c.t
  obtain ⟨x1, hx⟩ := ba c.more
  obtain ⟨x2, x3⟩ := ba hx
  have at_ : ∀ (k j : Nat) (x : Str) (i : Nat), fnY[k]? = some (dD x i) → faY[j]? = some (.glo x) → FunAt ⟨R.prog, w, K, mg, base⟩ x i := fun k j x i h1 h2 => by
    obtain ⟨fd, F⟩ := cd.def_ k h1
    exact ⟨_, fd, F, He.glo_ok X G (cd.fact j h2)⟩
  exact {
    n_len := He.free_ok X G (cd.fact 0 (f := .free "len") rfl)
    n_isinstance := He.free_ok X G (cd.fact 1 (f := .free "isinstance") rfl)
    n_all := He.free_ok X G (cd.fact 2 (f := .free "all") rfl)
    n_abs := He.free_ok X G (cd.fact 3 (f := .free "abs") rfl)
    n_repr := He.free_ok X G (cd.fact 4 (f := .free "repr") rfl)
    n_str := He.free_ok X G (cd.fact 5 (f := .free "str") rfl)
    n_bool := He.free_ok X G (cd.fact 6 (f := .free "bool") rfl)
    n_tuple := He.free_ok X G (cd.fact 7 (f := .free "tuple") rfl)
    n_int := He.free_ok X G (cd.fact 8 (f := .free "int") rfl)
    n_list := He.free_ok X G (cd.fact 9 (f := .free "list") rfl)
    n_range := He.free_ok X G (cd.fact 10 (f := .free "range") rfl)
    n_min := He.free_ok X G (cd.fact 11 (f := .free "min") rfl)
    n_max := He.free_ok X G (cd.fact 12 (f := .free "max") rfl)
    n_zip := He.free_ok X G (cd.fact 13 (f := .free "zip") rfl)
    n_enumerate := He.free_ok X G (cd.fact 14 (f := .free "enumerate") rfl)
    n_sorted := He.free_ok X G (cd.fact 15 (f := .free "sorted") rfl)
    g_SMALL := He.str_ok X G (cd.fact 16 (f := .str "SMALL" "abcdefghijklmnopqrstuvwxyz") rfl)
    g_GREAT := He.str_ok X G (cd.fact 17 (f := .str "GREAT" "ABCDEFGHIJKLMNOPQRSTUVWXYZ") rfl)
    g_MOST_LETTERS := He.int_ok X G (cd.fact 18 (f := .int "MOST_LETTERS" 8) rfl)
    g_MOST_PARTS := He.int_ok X G (cd.fact 19 (f := .int "MOST_PARTS" 4) rfl)
    g_KINDS := He.glo_ok X G (cd.fact 20 (f := .glo "KINDS") rfl)
    g_BadTable := He.glo_ok X G (cd.fact 21 (f := .glo "BadTable") rfl)
    g_BillError := He.glo_ok X G (cd.fact 22 (f := .glo "BillError") rfl)
    g_is_lot_below := He.glo_ok X G (cd.fact 29 (f := .glo "is_lot_below") rfl)
    s_KINDS := fun H => He.tupB_ok x1 H
    d_KINDS := bareB_ok x2
    eN := He.exc_ok (cd.fact 23 (f := .exc "BadTable") rfl)
    xN := He.exm_ok (cd.fact 24 (f := .exm "BadTable" "BillError" true) rfl)
    eN' := excB_ok x3
    kNN := kit_ref
    f4 := at_ 0 25 "is_number" 4 rfl rfl
    f5 := at_ 1 26 "is_tuple" 5 rfl rfl
    f10 := at_ 2 27 "is_word" 10 rfl rfl
    f14 := at_ 3 28 "is_pair" 14 rfl rfl
    f15 := at_ 4 29 "is_lot_below" 15 rfl rfl
    f16 := at_ 5 30 "has_kind" 16 rfl rfl
    f17 := at_ 6 31 "lots_in" 17 rfl rfl
    f18 := at_ 7 32 "is_use" 18 rfl rfl
    f19 := at_ 8 33 "height_of" 19 rfl rfl
    f20 := at_ 9 34 "use_key" 20 rfl rfl
    f21 := at_ 10 35 "heights_told" 21 rfl rfl
    f22 := at_ 11 36 "is_table" 22 rfl rfl
    f23 := at_ 12 37 "need_table" 23 rfl rfl
    f24 := at_ 13 38 "use_heights" 24 rfl rfl
    f25 := at_ 14 39 "is_lot" 25 rfl rfl
    f27 := at_ 15 40 "_law_begun" 27 rfl rfl
    f28 := at_ 16 41 "_law_mixed" 28 rfl rfl
    f29 := at_ 17 42 "_law_take" 29 rfl rfl
    f30 := at_ 18 43 "_law_pick" 30 rfl rfl
    f31 := at_ 19 44 "_law_shuffled" 31 rfl rfl
    f32 := at_ 20 45 "_law_caught" 32 rfl rfl
    f33 := at_ 21 46 "_law_is" 33 rfl rfl
    f34 := at_ 22 47 "_law_same" 34 rfl rfl
    f35 := at_ 23 48 "_law_is_number" 35 rfl rfl
    f36 := at_ 24 49 "_law_lots_in" 36 rfl rfl
    f37 := at_ 25 50 "_law_moved_lot" 37 rfl rfl
    f38 := at_ 26 51 "_law_moved_use" 38 rfl rfl
    f39 := at_ 27 52 "_law_heights" 39 rfl rfl
    f40 := at_ 28 53 "_law_use_key" 40 rfl rfl
    f41 := at_ 29 54 "_law_table" 41 rfl rfl
    f42 := at_ 30 55 "_law_is_lot" 42 rfl rfl
    f43 := at_ 31 56 "_law_is_word" 43 rfl rfl
    f44 := at_ 32 57 "_law_is_use" 44 rfl rfl
    f45 := at_ 33 58 "_law_first_use" 45 rfl rfl
    f46 := at_ 34 59 "_law_drawn_lot" 46 rfl rfl
    f47 := at_ 35 60 "_law_drawn_uses" 47 rfl rfl
    f48 := at_ 36 61 "_law_changed" 48 rfl rfl
    f49 := at_ 37 62 "_law_odd" 49 rfl rfl
    f50 := at_ 38 63 "_law_is_table" 50 rfl rfl
    f51 := at_ 39 64 "_law_is_right" 51 rfl rfl
    f52 := at_ 40 65 "law" 52 rfl rfl
  }
theorem funC_of {w : World} {K : PySem.W.Frag} {h : Heap} {mg : Str → Option Value} {base : Heap} {x : Str} {i : Nat} (F0 : FunAt ⟨R.prog, w, K, mg, base⟩ x i) (hg : mg x = some (.ref (He.ga K x))) : FunC ⟨R.prog, w, K, mg, base⟩ x i (He.cT K (x, none)).1 := by
  obtain ⟨f, fd, F, gm⟩ := F0
  refine ⟨f, fd, F, gm, ?_⟩
  have ef : f = He.fAd K (x, none) := by
    have z := gm.symm.trans hg
    cases z
    rfl
  obtain ⟨oc, od, dV, kV, doc, pm, an, cdv, ct, osl, e, lk, hcd, _, _⟩ := F.ex
  obtain ⟨cc, rfl⟩ := He.codeIn_ref hcd
  subst e
  show Value.ref cc = _
  rw [ef] at lk
  exact congrArg Value.ref (He.codeOf_eq lk rfl).symm
end Q
open PySem PySem.W PySem.Calls PyProof.Rows
theorem PySem.Challenge.cw_runsbilled_k21_tables_of_uses_holds : PySem.Challenge.rw_runsbilled_k21_tables_of_uses.Holds := by
  w_on; o_law
  refine HandSHeadRun.head_any (r := OpenLaw.row PySem.Challenge.rw_runsbilled_k21_tables_of_uses) (q := view Q.R.prog [52]) (H := Q.hkY) (ob := Q.ob) (M := 2000) (loose := Q.names) (d := HandSHeadRun.topDef Q.R.prog 52) (kwd := []) Q.ob_eq
    (by kernel_rfl) (fun s => by kernel_rfl) Q.runY (by kernel_rfl) (by kernel_rfl) (by kernel_rfl) (by rfl) (by first | assumption | decide +kernel) (by decide +kernel) ⟨rfl, rfl, rfl, rfl, rfl, by decide +kernel⟩ ?hw ?hc
  case hw => w_witness2
  case hc =>
    have en : (HandSHeadRun.topDef Q.R.prog 52).name = ("law" : PySem.Str) := by kernel_rfl
    refine Q.walk_G (l := PySem.Challenge.rw_runsbilled_k21_tables_of_uses) (n := 63) (k := 13) rfl (by decide) (by kernel_rfl) ⟨rfl, by decide, by decide⟩ ?F
    intro w mg fa h Y G hmg0
    obtain ⟨K, KX, c⟩ := Y
    have cd : He.SaysD Q.faY Q.fnY K := congrArg (fun z : He.AlT => z.1) c.t
    refine ⟨K, [He.cT K ("_law_is_right", none)], Q.spLaw K (Q.tT1 (He.cT K ("_law_is_right", none)).2), KX, ?_, ?_, ?_, ?_, ?_⟩
    · intro p hp
      rw [List.mem_singleton.mp hp]
      exact c.empty ("_law_is_right", none) (List.mem_cons_self ..)
    · intro p hp
      rw [List.mem_singleton.mp hp]
      exact c.out ("_law_is_right", none) (List.mem_cons_self ..)
    · intro p hp
      rw [List.mem_singleton.mp hp]
      exact codeHd_of_K KX (c.hd ("_law_is_right", none) (List.mem_cons_self ..))
    · intro H a ns hl hT hS
      refine ⟨rfl, a, ns, rfl, hS, by omega, fun p hp => ?_, fun _ => rfl⟩
      rw [List.mem_singleton.mp hp]
      exact LamX.TabS.nil (hT _ (List.mem_cons_self ..))
    · intro base KB GB TB
      rw [en]
      have T := Q.tx_of KX G c base
      exact Q.c_law T { tb1 := TB _ (List.mem_cons_self ..), k1 := Q.funC_of (h := h) T.f51 (He.glo_ok KX G (cd.fact 64 (f := .glo "_law_is_right") rfl)) }
