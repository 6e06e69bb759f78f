import PyProof.Rows.All
import Wide.All
import OpenK.AllK
import Wide.FinOn
import HandS.ForMost
import HandS.Exc
import HandS.ExcOwn
import HandS.ExcCtx
import HandS.WordsExc
import HandS.Wide
import HandS.IsInst
import HandS.EndBits
import KE.KRevSl
import HandS.Evl
import KE.Datum
import HandS.HotCalls
import HandS.ExcIs
import HandS.Lambda
import KE.GoesComp
import KE.GoesMore
import HandS.TryOnly
import HandS.EndTab
import HandS.TupLe
import HandS.SortInts
import HandS.Rev
import HandS.Conv
import PySem.Challenge.RW_sievewright_k50_whole_papers
set_option Elab.async false
set_option linter.all false
set_option maxRecDepth 100000
set_option maxHeartbeats 4000000
/-! SvBase: how the defs of a law's text are taken one by one: Pm, DefAt, Ok, pe_ok, mk_ok; names of readings. -/
namespace Sv
open PySem PySem.Spec PyProof.Rows L2
/-- the written part and where its named objects stand -/
structure Pm where
  K : PySem.W.Frag
  SieveError : Addr := 0
  BadTable : Addr := 0
  Unlike : Addr := 0
  NoWay : Addr := 0
  BadName : Addr := 0
  BadNumber : Addr := 0
  BadSums : Addr := 0
  BadRule : Addr := 0
  Full : Addr := 0
  Used : Addr := 0
  Nothing : Addr := 0
  BadText : Addr := 0
  NAMES : Addr := 0
  PARTS : Addr := 0
  SIZES : Addr := 0
  Sums : Addr := 0
  Sheet : Addr := 0
abbrev CXN (P : Program) (w : World) : CXT := L2N.CX P w
/-! ### promises by the arguments -/
abbrev R0 := Hp → VK → XK → Prop
abbrev R1 := V → Hp → VK → XK → Prop
abbrev R2' := V → V → Hp → VK → XK → Prop
abbrev R3 := V → V → V → Hp → VK → XK → Prop
abbrev R4 := V → V → V → V → Hp → VK → XK → Prop
def sp0 (R : R0) : Sp
  | [], H, Q, E => R H Q E
  | _, _, _, _ => False
def sp1 (R : R1) : Sp
  | [x], H, Q, E => R x H Q E
  | _, _, _, _ => False
def sp2 (R : R2') : Sp
  | [x, y], H, Q, E => R x y H Q E
  | _, _, _, _ => False
def sp3 (R : R3) : Sp
  | [x, y, z], H, Q, E => R x y z H Q E
  | _, _, _, _ => False
def sp4 (R : R4) : Sp
  | [x, y, z, u], H, Q, E => R x y z u H Q E
  | _, _, _, _ => False
theorem sp0_len {R : R0} : ∀ vs H Q E, sp0 R vs H Q E → vs.length = 0
  | [], _, _, _, _ => rfl
theorem sp1_len {R : R1} : ∀ vs H Q E, sp1 R vs H Q E → vs.length = 1
  | [_], _, _, _, _ => rfl
theorem sp2_len {R : R2'} : ∀ vs H Q E, sp2 R vs H Q E → vs.length = 2
  | [_, _], _, _, _, _ => rfl
theorem sp3_len {R : R3} : ∀ vs H Q E, sp3 R vs H Q E → vs.length = 3
  | [_, _, _], _, _, _, _ => rfl
theorem sp4_len {R : R4} : ∀ vs H Q E, sp4 R vs H Q E → vs.length = 4
  | [_, _, _, _], _, _, _, _ => rfl
/-- a body's ends: the value handed back, None at its end -/
abbrev dn (Q : VK) : Ends := { nx := fun _ H' => Q .non H', rt := Q }
/-! ### a def of the text -/
structure DefAt (K : PySem.W.Frag) (mg : Str → Option Value) (x : Str) (st : Stmt) : Prop where
  ex : ∃ (f : Addr) (fd : FuncData), Fun K x x st f fd ∧ mg x = some (.ref f)
structure Ok (P : Program) (w : World) (K : PySem.W.Frag) (mg : Str → Option Value) (base : Heap) (CX : CXT) (k : Nat) (x : Str) (ps : List Str) (sp : Sp) : Prop where
  ex : ∃ (f : Addr) (fd : FuncData), FnOk P w K mg base CX k f fd ps sp ∧ mg x = some (.ref f) ∧ PySem.W.keepIn K (.ref f) = true ∧ Binds K fd ps []
theorem defAt_mk {K : PySem.W.Frag} {h : Heap} {mg : Str → Option Value} {x : Str} {st : Stmt} {f : Addr} {od an : Option Addr} {sl : Array (Option Value)} {oc kV dc pm cd ct : Value} (X : K.In h) (G : h.Ns mainGlobals mg)
    (a : PySem.W.nsIn K mainGlobals x = some (some (.ref f))) (l : K.lookup f = some ⟨oc, od, .func (PySem.W.fnOf x x (defArgs st) (defBody st) (defScope st) .none kV dc pm an cd ct), sl⟩) (c : PySem.W.codeIn K cd x = true) (k : PySem.W.keepIn K (.ref f) = true) : DefAt K mg x st :=
  ⟨f, _, fun_mk l c k, PySem.W.mg_of X G a⟩
section
variable {P : Program} {w : World} {K : PySem.W.Frag} {mg : Str → Option Value} {base : Heap} {CX : CXT} {x : Str} {st : Stmt} {N ps : List Str} {k : Nat} {sp : Sp}
theorem mk_fn {f : Addr} {fd : FuncData} (F : Fun K x x st f fd) (S : FnScope N ps (defScope st)) (len : ∀ vs H Q E, sp vs H Q E → vs.length = ps.length) (t : XK → TS) (hp : ∀ vs H Q E, sp vs H Q E → t E (dn Q) (start N vs) H)
    (hd : ∀ (cdv : Value) (A : Around) (outer : List Env) (s : Shared) (H : Hp) (E : XK), Room k (A.deeper (envOfC x (defScope st) s.heap.objs.size f cdv)) → PSs (cxOf CX P w K mg base N x (defScope st) f cdv A outer s H E) (defBody st) (t E)) :
    FnOk P w K mg base CX (k + 1) f fd ps sp := by
  obtain ⟨oc, od, kV, doc, pm, an, cdv, ct, osl, rfl, lk, hcd⟩ := F.ex
  exact fn_of lk hcd S len fun A outer s H vs Q E hr hsp => ⟨t E, hd cdv A outer s H E hr, hp vs H Q E hsp⟩
theorem mk_ok (D : DefAt K mg x st) (S : FnScope N ps (defScope st))
    (hb : ∀ (kV doc pm : Value) (an : Option Addr) (cdv ct : Value) (us : List Value), us.length = ps.length → bindArgs (PySem.W.fnOf x x (defArgs st) (defBody st) (defScope st) .none kV doc pm an cdv ct) ⟨us, []⟩ = pure (ps.zip us))
    (len : ∀ vs H Q E, sp vs H Q E → vs.length = ps.length) (t : XK → TS) (hp : ∀ vs H Q E, sp vs H Q E → t E (dn Q) (start N vs) H)
    (hd : ∀ (f : Addr) (cdv : Value) (A : Around) (outer : List Env) (s : Shared) (H : Hp) (E : XK), Room k (A.deeper (envOfC x (defScope st) s.heap.objs.size f cdv)) → PSs (cxOf CX P w K mg base N x (defScope st) f cdv A outer s H E) (defBody st) (t E)) :
    Ok P w K mg base CX (k + 1) x ps sp := by
  obtain ⟨f, fd, F, hm⟩ := D.ex
  obtain ⟨oc, od, kV, doc, pm, an, cdv, ct, osl, rfl, lk, hcd⟩ := F.ex
  exact ⟨f, _, fn_of lk hcd S len fun A outer s H vs Q E hr hsp => ⟨t E, hd f cdv A outer s H E hr, hp vs H Q E hsp⟩, hm, F.kp, F.binds hb⟩
end
section
variable {X : Cx} {CX : CXT} {k j : Nat} {ps : List Str} {sp : Sp} {E : XK} {x : Str} {p pos : Pos} {e : Expr} {es : List Expr} {t : TA}
theorem pe_ok (F : Ok X.prog X.w X.K X.mg X.base CX k x ps sp) (hr : Room j X.A) (hk : k ≤ j) (hg : Gl X x) (hx : Passes CX X E)
    (ha : PA X (e :: es) t) (hdb : (x == ("__debug__" : Str)) = false := by decide) (he : starEach (e :: es) X.env = (false, eval e X.env) :: starEach es X.env := by rfl) (hpl : (backTo pos (starEach es X.env)).any (·.1) = false := by rfl) :
    PE X (.Call (.Name x p) (e :: es) [] pos) (tCall sp [] E t) := by
  obtain ⟨f, fd, F, hm, hkp, hb⟩ := F.ex
  exact pe_call F (hr.mono hk) hg hm hkp hb .nil hx ha hdb he hpl
theorem pe_ok0 (F : Ok X.prog X.w X.K X.mg X.base CX k x ps sp) (hr : Room j X.A) (hk : k ≤ j) (hg : Gl X x) (hx : Passes CX X E) (hdb : (x == ("__debug__" : Str)) = false := by decide) :
    PE X (.Call (.Name x p) [] [] pos) (tCall sp [] E tNil) := by
  obtain ⟨f, fd, F, hm, hkp, hb⟩ := F.ex
  exact pe_call0 F (hr.mono hk) hg hm hkp hb .nil hx hdb
/-- a body's callee's exception leaves the body -/
theorem psx (hs : X.stack = X.env :: X.outer) (hf : X.env.frame = some X.env.locals) (hex : X.ex = []) {E₁ : Value → Shared → Prop}
    (hx : X.xe = fun e s' => wpAny (model X.prog X.w) X.A (leaving X.env e) (fun _ s'' => L2N.CX X.prog X.w X.outer X.H_0 X.s_0 E e s'') E₁ s') : Passes (CXN X.prog X.w) X E :=
  L2N.passes_call (L2N.takes_of hs hf hex hx) fun _ _ _ _ h => h
/-- .. where nothing is let out -/
theorem psn : Passes (CXN X.prog X.w) X E0 := fun _ _ _ _ _ _ _ h => by
  obtain ⟨_, _, _, _, _, _, _, _, _, _, _, _, z⟩ := h
  exact z.elim
end
/-! ### readings by names -/
abbrev oAdd : R2 := rI0 fun i j => .int (i + j)
abbrev oSub : R2 := rI0 fun i j => .int (i - j)
def CM (i j : Int) : Prop := CMul i j ∨ CMulW i j
abbrev oMul : R2 := rI CM fun i j => .int (i * j)
abbrev oMod : R2 := rI (fun _ j => 0 < j) fun i j => .int (i % j)
abbrev oDiv : R2 := rI CDivW fun i j => .int (i / j)
abbrev oPow : R2 := rI CPow fun i j => .int (i ^ j.toNat)
abbrev cLt : R2 := rI0 fun i j => .bl (decide (i < j))
abbrev cLe : R2 := rI0 fun i j => .bl (decide (i ≤ j))
abbrev cGt : R2 := rI0 fun i j => .bl (decide (j < i))
abbrev cGe : R2 := rI0 fun i j => .bl (decide (j ≤ i))
abbrev oCatS : R2 := fun x y H Q => ∃ i j, x = .str i ∧ y = .str j ∧ i.length + j.length ≤ sizeLine ∧ Q (.str (i ++ j)) H
abbrev uNeg : V → Hp → VK → Prop := rU fun i => .int (-i)
section
variable {X : Cx}
theorem op_mulA : OpR X (binaryOp .Mult) oMul := fun pins s σ H x y v u Q I rx ry h => by
  obtain ⟨i, j, rfl, rfl, c, q⟩ := h
  rcases c with c | c
  · exact op_mul pins s σ H _ _ v u Q I rx ry ⟨i, j, rfl, rfl, c, q⟩
  · exact op_mulW pins s σ H _ _ v u Q I rx ry ⟨i, j, rfl, rfl, c, q⟩
end
def bLenQ (K : PySem.W.Frag) : List V → Hp → VK → Prop := fun xs H Q => ∃ p ys, xs = [.ref p] ∧ (SqL K H p ys ∨ SqT K H p ys) ∧ Q (.int ys.length) H
def bLenS : List V → Hp → VK → Prop := fun xs H Q => ∃ z, xs = [.str z] ∧ z.length ≤ sizeLine ∧ Q (.int z.length) H
def bMax2 : List V → Hp → VK → Prop := fun xs H Q => ∃ i j, xs = [.int i, .int j] ∧ Q (.int (if j > i then j else i)) H
def bMin2 : List V → Hp → VK → Prop := fun xs H Q => ∃ i j, xs = [.int i, .int j] ∧ Q (.int (if j < i then j else i)) H
def bInt1 : List V → Hp → VK → Prop := fun xs H Q => (∃ i, xs = [.int i] ∧ Q (.int i) H) ∨ ∃ k, xs = [.bl k] ∧ Q (.int (if k then 1 else 0)) H
def bListOf (K : PySem.W.Frag) : List V → Hp → VK → Prop := fun xs H Q => ∃ p ys, xs = [.ref p] ∧ (SqL K H p ys ∨ SqT K H p ys) ∧ ∀ l, H l = none → Q (.ref l) (upd H l (.lst ys))
/-- raise C('..') -/
def tRaise (C : Addr) (E : XK) : TS := fun _ _ H => E (.ref C) none H
section
variable {X : Cx} {C : Addr} {E : XK}
/-- what the class C of the program's own errors must be -/
structure ErrAt (K : PySem.W.Frag) (mg : Str → Option Value) (x : Str) (C : Addr) : Prop where
  gC : mg x = some (.ref C)
  xC : PySem.W.excIn K C [.type "ValueError", .type "Exception", .type "BaseException", .type "object"] "ValueError.__new__" = true
  kC : PySem.W.keepIn K (.ref C) = true
  bC : PySem.W.subIn K (.ref C) (.type "BaseException") = some true
  tC : PySem.W.typeIn K (.ref C) = some (.type "type")
theorem ps_raiseN {x m : Str} {j : Nat} {p p2 pos pos' : Pos} (T : ErrAt X.K X.mg x C) (hg : Gl X x) (hc : X.calm = true) (hs : X.stack = X.env :: X.outer) (hf : X.env.frame = some X.env.locals) (hex : X.ex = []) {E₁ : Value → Shared → Prop}
    (hx : X.xe = fun e s' => wpAny (model X.prog X.w) X.A (leaving X.env e) (fun _ s'' => L2N.CX X.prog X.w X.outer X.H_0 X.s_0 E e s'') E₁ s') (hdb : (x == ("__debug__" : Str)) = false := by decide) :
    PS X (.Raise (some (.Call (.Name x p) [.Constant (.str m) j p2] [] pos)) none pos') (tRaise C E) :=
  L2N.ps_raise hc (L2N.takes_of hs hf hex hx) (L2N.pmk_own PySem.F.excBase_ValueError T.xC T.gC T.kC (raises_own T.bC T.tC) hg hdb)
end
/-! ### xs[::-1] -/
def tRevL (K : PySem.W.Frag) (te : TE) : TE := fun σ H Q => te σ H fun x H1 => ∃ a xs, x = .ref a ∧ SqL K H1 a xs ∧ ∀ p, H1 p = none → Q (.ref p) (upd H1 p (.lst xs.reverse))
section
variable {X : Cx}
theorem pe_revl {e : Expr} {te : TE} {j : Nat} {p1 p2 p3 pos : Pos} (he : PE X e te) : PE X (.Subscript e (.Slice none none (some (.UnaryOp .USub (.Constant (.int 1) j p1) p3)) p2) pos) (tRevL X.K te) := by
  refine ⟨fun pins s σ H Q I h => ?_⟩
  refine Subscript_ (thn (he.run pins s σ H _ I h) fun v s1 ⟨x, H1, I1, r1, q1⟩ => ?_)
  refine wpAny_Slice ?_
  rw [evalPart_none]
  refine wpAny_pure (wpAny_pure ?_)
  have hst : PO X (some (.UnaryOp .USub (.Constant (.int 1) j p1) p3)) (tPart (tUn uNeg (tC (.int 1)))) := po_some (pe_un un_neg pe_int)
  refine thn (hst.run pins s1 σ H1 (fun o H2 => o = some (-1) ∧ H2 = H1) I1 ⟨1, rfl, -1, rfl, rfl, rfl⟩) fun vst s3 ⟨o, H3, I3, pst, eo, eH⟩ => ?_
  subst eo
  subst eH
  obtain ⟨a, xs, rfl, hx, q⟩ := q1
  cases r1
  have I4 : Inv X pins σ H3 { s3 with heap := s3.heap.push { cls := .type "slice", data := .fields #[.none, .none, vst] } } := I3.kept (t' := s3.toks) fun b ob q => Heap.get?_push_of_some _ q
  obtain ⟨its, r, ht, hz⟩ := I4.list hx
  have hlen := r.length
  show wpAny (model X.prog X.w) X.A (subscriptTail e (.Slice none none (some (.UnaryOp .USub (.Constant (.int 1) j p1) p3)) p2) (.ref a) (.ref s3.heap.objs.size)) (EP X pins σ Q) X.xe { s3 with heap := s3.heap.push { cls := .type "slice", data := .fields #[.none, .none, vst] } }
  refine tail_any (ops := [.ref a, .ref s3.heap.objs.size]) ht.isList.typeIs slot_list_getitem.lookup ?_ (by with_unfolding_all rfl)
  refine wpAny_getItem_list_slice ht.isList (Heap.IsSliceOf.new ..) .none .none pst (by simp) ?_ (by rw [List.size_toArray] <;> omega)
  rw [PySem.W.krv_pick]
  refine ⟨.ref _, _, I4.laid (t' := s3.toks) (o := .lst xs.reverse) (fun b ob q => Heap.get?_push_of_some _ q) (Nat.le_refl _) ?_, rfl, q _ (I4.hok.fresh (Nat.le_refl _))⟩
  exact ⟨by rw [List.length_reverse]; exact hz, _, 0, r.reverse, Heap.get?_push_size _ rfl⟩
end
/-! ### the end: a law's promise, with the script's bits -/
theorem walk_law {l : PySem.W.OpenLaw} {n k : Nat} {q : Program} {loose : List Str} {XP : (Str → Option Value) → Heap → Prop} {YP : World → Heap → Prop} {d : DefRec} {K : Params → PySem.W.Frag} {x : Str}
    (hn : l.most = some n) (hn2 : n ≤ sizeLine) (hdf : d.params.defaults = []) (hr : Room k callerA)
    (hY : ∀ (w : World) (h : Heap), YP w h → (K w.params).In h)
    (F : ∀ (w : World) (mg : Str → Option Value) (fa : Addr) (h : Heap), (K w.params).In h → h.Ns mainGlobals mg → mg d.name = some (.ref fa) →
      ∃ G : Pm, G.K = K w.params ∧ ∃ fd : FuncData, (∀ (s : Shared) (u : Value), BindsTo s fd ⟨[u], []⟩ [(x, u)]) ∧
        ∀ base : Heap, G.K.In base → base.Ns mainGlobals mg → FnOk l.prog w G.K mg base (CXN l.prog w) k fa fd [x] (sp1 fun v H Q _ => ∃ (a : Addr) (ns : List Int), v = .ref a ∧ SqL G.K H a (ns.map V.int) ∧ ns.length ≤ n ∧ (∀ z ∈ ns, Builtin.Int.intBits z ≤ 1048576) ∧ ∀ H', Q (.bl true) H')) :
    PySem.W.WalkO q loose XP YP l.row.toRowW d [] (fun f vs => PySem.call f vs) := by
  refine walk_ofB (l := l) (n := n) (k := k) (x := x) (K := K) (CX := fun w => CXN l.prog w) (sp := fun w => sp1 fun v H Q _ => ∃ (a : Addr) (ns : List Int), v = .ref a ∧ SqL (K w.params) H a (ns.map V.int) ∧ ns.length ≤ n ∧ (∀ z ∈ ns, Builtin.Int.intBits z ≤ 1048576) ∧ ∀ H', Q (.bl true) H') hn hn2 hdf hr hY ?_ ?_ ?_
  · intro w mg fa h KX GX hm
    obtain ⟨G, eG, fd, hb, hF⟩ := F w mg fa h KX GX hm
    rw [eG] at hF
    exact ⟨fd, hb, hF⟩
  · intro w H a ns hl hz _ hS
    exact ⟨a, ns, rfl, hS, hl, hz, fun _ => rfl⟩
  · intro w H s e s' h
    obtain ⟨_, _, _, _, _, _, _, _, _, _, _, _, z⟩ := h
    exact z
end Sv

set_option Elab.async false
set_option linter.all false
set_option maxRecDepth 100000
set_option maxHeartbeats 4000000
/-! SvEv: what readings evaluate to, further: isinstance, len, == of data, calls; the word «ev». -/
namespace Sv
open PySem PySem.Spec PyProof.Rows L2 Evl
section
variable {K : PySem.W.Frag} {σ : L2.St} {H H' : Hp} {ta tb te tc : TE} {t u : TT} {x y z v : V} {a : Addr} {xs : List V}
theorem ev_at (h : Ev te σ H v) (Q : VK) (q : ∀ H2, Ex H H2 → Q v H2) : te σ H Q := h H (Ex.refl H) Q q
/-! ### isinstance -/
theorem ty_l (h : SqL K H a xs) : TyX K H (.ref a) (.type "list") := by
  rcases h with (h | ⟨o, h⟩) | ⟨o, its, n, e, c, _⟩
  · exact .base (.lst h)
  · exact .base (.frz h)
  · exact .kList e c
theorem ty_t (h : SqT K H a xs) : TyX K H (.ref a) (.type "tuple") := by
  rcases h with (h | ⟨o, h⟩) | ⟨o, its, n, e, c, _⟩
  · exact .base (.tup h)
  · exact .fTuple h
  · exact .kTuple e c
theorem rc_isi {n m : String} {b : Bool} (hx : ∀ H1, Ex H H1 → TyX K H1 x (.type m)) (hk : kitB m n = some b) : RC (rIsi K) [x, .ty n] H (.bl b) :=
  fun H1 e Q q => ⟨x, .ty n, .type m, .type n, b, rfl, .ty n, hx H1 e, kit_ty hk, q H1 (Ex.refl H1)⟩
theorem ev_isi {n m : String} {b : Bool} (ha : Ev ta σ H x) (hx : ∀ H1, Ex H H1 → TyX K H1 x (.type m)) (hk : kitB m n = some b) : Ev (tCB (rIsi K) (tCons ta (tCons (tC (.ty n)) tNil))) σ H (.bl b) :=
  ev_cb (ea_cons ha (ea_cons ev_c ea_nil)) (rc_isi hx hk)
/-! ### len, max, min, int -/
theorem rc_lenL (h : SqL K H a xs) : RC (bLenQ K) [.ref a] H (.int (xs.length : Int)) :=
  fun H1 e Q q => ⟨a, xs, rfl, .inl (ex_l e h), q H1 (Ex.refl H1)⟩
theorem rc_lenT (h : SqT K H a xs) : RC (bLenQ K) [.ref a] H (.int (xs.length : Int)) :=
  fun H1 e Q q => ⟨a, xs, rfl, .inr (ex_t e h), q H1 (Ex.refl H1)⟩
theorem ev_lenL (ha : Ev ta σ H (.ref a)) (h : SqL K H a xs) : Ev (tCB (bLenQ K) (tCons ta tNil)) σ H (.int (xs.length : Int)) := ev_cb (ea_cons ha ea_nil) (rc_lenL h)
theorem ev_lenT (ha : Ev ta σ H (.ref a)) (h : SqT K H a xs) : Ev (tCB (bLenQ K) (tCons ta tNil)) σ H (.int (xs.length : Int)) := ev_cb (ea_cons ha ea_nil) (rc_lenT h)
theorem ev_maxI {i j : Int} (ha : Ev ta σ H (.int i)) (hb : Ev tb σ H (.int j)) : Ev (tCB bMax2 (tCons ta (tCons tb tNil))) σ H (.int (if j > i then j else i)) :=
  ev_cb (ea_cons ha (ea_cons hb ea_nil)) fun H1 _ Q q => ⟨i, j, rfl, q H1 (Ex.refl H1)⟩
theorem ev_minI {i j : Int} (ha : Ev ta σ H (.int i)) (hb : Ev tb σ H (.int j)) : Ev (tCB bMin2 (tCons ta (tCons tb tNil))) σ H (.int (if j < i then j else i)) :=
  ev_cb (ea_cons ha (ea_cons hb ea_nil)) fun H1 _ Q q => ⟨i, j, rfl, q H1 (Ex.refl H1)⟩
theorem ev_intI {i : Int} (ha : Ev ta σ H (.int i)) : Ev (tCB bInt1 (tCons ta tNil)) σ H (.int i) :=
  ev_cb (ea_cons ha ea_nil) fun H1 _ Q q => .inl ⟨i, rfl, q H1 (Ex.refl H1)⟩
theorem ev_intB {k : Bool} (ha : Ev ta σ H (.bl k)) : Ev (tCB bInt1 (tCons ta tNil)) σ H (.int (if k then 1 else 0)) :=
  ev_cb (ea_cons ha ea_nil) fun H1 _ Q q => .inr ⟨k, rfl, q H1 (Ex.refl H1)⟩
theorem el_listOf (ha : Ev ta σ H (.ref a)) (h : SqL K H a xs) : EvL (tCB (bListOf K) (tCons ta tNil)) σ H xs :=
  el_cb (ea_cons ha ea_nil) fun H1 e Q q => ⟨a, xs, rfl, .inl (ex_l e h), fun l hl => q l _ hl (Ex.new hl) upd_same⟩
theorem el_rev (ha : Ev ta σ H (.ref a)) (h : SqL K H a xs) : EvL (tRevL K ta) σ H xs.reverse :=
  fun H1 e Q q => ha H1 e _ fun H2 e2 => ⟨a, xs, rfl, ex_l (e.trans e2) h, fun p hp => q p _ (fresh_back e2 hp) (e2.trans (Ex.new hp)) upd_same⟩
theorem ev_isN (ha : Ev ta σ H x) : Ev (tIsN ta) σ H (.bl (decide (x = .non))) := fun H1 e Q q => ha H1 e _ q
theorem ev_notN (ha : Ev ta σ H x) : Ev (tNotN ta) σ H (.bl (!decide (x = .non))) := fun H1 e Q q => ha H1 e _ q
/-- a chain -/
theorem ev_chain {r r' : R2} {k b : Bool} (ha : Ev ta σ H x) (hb : Ev tb σ H y) (h1 : RV r x y H (.bl k)) (hc : k = true → Ev tc σ H z) (h2 : k = true → RV r' y z H (.bl b)) : Ev (tChain r r' ta tb tc) σ H (.bl (k && b)) := by
  intro H1 e Q q
  refine ha H1 e _ fun H2 e2 => hb H2 (e.trans e2) _ fun H3 e3 => h1 H3 (e.trans (e2.trans e3)) _ fun H4 e4 => ⟨k, rfl, ?_⟩
  cases k with
  | false => exact q H4 (e2.trans (e3.trans e4))
  | true => exact hc rfl H4 (e.trans (e2.trans (e3.trans e4))) _ fun H5 e5 => h2 rfl H5 (e.trans (e2.trans (e3.trans (e4.trans e5)))) _ fun H6 e6 => q H6 (e2.trans (e3.trans (e4.trans (e5.trans e6))))
theorem et_chain {b : Bool} (h : Ev te σ H (.bl b)) : EvT (tTest te) σ H b := et_test h
/-! ### any, all, sum of lists just made -/
theorem ev_anyN {bs : List Bool} (ha : EvL ta σ H (bs.map V.bl)) : Ev (tCB (rAny K) (tCons ta tNil)) σ H (.bl (bs.any id)) :=
  fun H1 e Q q => ha H1 e _ fun p H2 _ e2 h2 => ⟨p, bs, rfl, sq_of h2, q H2 e2⟩
theorem ev_allN {bs : List Bool} (ha : EvL ta σ H (bs.map V.bl)) : Ev (tCB (rAll K) (tCons ta tNil)) σ H (.bl (bs.all id)) :=
  fun H1 e Q q => ha H1 e _ fun p H2 _ e2 h2 => ⟨p, bs, rfl, sq_of h2, q H2 e2⟩
theorem ev_sumN {ns : List Int} (ha : EvL ta σ H (ns.map V.int)) : Ev (tCB (rSum K) (tCons ta tNil)) σ H (.int ns.sum) :=
  fun H1 e Q q => ha H1 e _ fun p H2 _ e2 h2 => ⟨p, ns, rfl, sq_of h2, q H2 e2⟩
theorem el_eq {ys : List V} (h : EvL te σ H xs) (e : xs = ys) : EvL te σ H ys := e ▸ h
/-! ### calls of the text's defs -/
theorem ev_ca1 {R : R1} {E : XK} (ha : Ev ta σ H x) (h : ∀ H1, Ex H H1 → ∀ Q : VK, (∀ H2, Ex H1 H2 → Q z H2) → R x H1 Q E) : Ev (tCall (sp1 R) [] E (tCons ta tNil)) σ H z :=
  fun H1 e Q q => ha H1 e _ fun H2 e2 => h H2 (e.trans e2) Q fun H3 e3 => q H3 (e2.trans e3)
theorem ev_ca2 {R : R2'} {E : XK} (ha : Ev ta σ H x) (hb : Ev tb σ H y) (h : ∀ H1, Ex H H1 → ∀ Q : VK, (∀ H2, Ex H1 H2 → Q z H2) → R x y H1 Q E) : Ev (tCall (sp2 R) [] E (tCons ta (tCons tb tNil))) σ H z :=
  fun H1 e Q q => ha H1 e _ fun H2 e2 => hb H2 (e.trans e2) _ fun H3 e3 => h H3 (e.trans (e2.trans e3)) Q fun H4 e4 => q H4 (e2.trans (e3.trans e4))
theorem ev_ca3 {w : V} {R : R3} {E : XK} (ha : Ev ta σ H x) (hb : Ev tb σ H y) (hc : Ev tc σ H w) (h : ∀ H1, Ex H H1 → ∀ Q : VK, (∀ H2, Ex H1 H2 → Q z H2) → R x y w H1 Q E) : Ev (tCall (sp3 R) [] E (tCons ta (tCons tb (tCons tc tNil)))) σ H z :=
  fun H1 e Q q => ha H1 e _ fun H2 e2 => hb H2 (e.trans e2) _ fun H3 e3 => hc H3 (e.trans (e2.trans e3)) _ fun H4 e4 => h H4 (e.trans (e2.trans (e3.trans e4))) Q fun H5 e5 => q H5 (e2.trans (e3.trans (e4.trans e5)))
/-! ### data -/
mutual
theorem Dp.ex (e : Ex H H') : ∀ (d : PyData) (v : V), Dp K H v d → Dp K H' v d
  | .none, _, h => by cases h; exact .non
  | .bool b, _, h => by cases h; exact .bl b
  | .int i, _, h => by cases h; exact .int i
  | .str x, _, h => by cases h; exact .str x
  | .list ds, _, h => by
    cases h with
    | lst h1 h2 => exact .lst (ex_l e h1) (DpAll.ex e ds _ h2)
  | .tuple ds, _, h => by
    cases h with
    | tup h1 h2 => exact .tup (ex_t e h1) (DpAll.ex e ds _ h2)
  | .dict _, _, h => by cases h
theorem DpAll.ex (e : Ex H H') : ∀ (ds : List PyData) (vs : List V), DpAll K H vs ds → DpAll K H' vs ds
  | [], _, h => by cases h; exact .nil
  | d :: ds, _, h => by
    cases h with
    | cons h1 h2 => exact .cons (Dp.ex e d _ h1) (DpAll.ex e ds _ h2)
end
theorem rv_eqD {d e : PyData} (hx : Dp K H x d) (hy : Dp K H y e) (s1 : SeqAt.shaped d = true) (s2 : SeqAt.shaped e = true) : RV (rEqD K) x y H (.bl (PyData.eqv d e)) :=
  fun H1 ex Q q => ⟨d, e, Dp.ex ex d _ hx, Dp.ex ex e _ hy, s1, s2, q H1 (Ex.refl H1)⟩
theorem rv_neD {d e : PyData} (hx : Dp K H x d) (hy : Dp K H y e) (s1 : SeqAt.shaped d = true) (s2 : SeqAt.shaped e = true) : RV (rNeD K) x y H (.bl (!PyData.eqv d e)) :=
  fun H1 ex Q q => ⟨d, e, Dp.ex ex d _ hx, Dp.ex ex e _ hy, s1, s2, q H1 (Ex.refl H1)⟩
theorem dp_ints : ∀ ns : List Int, DpAll K H (ns.map V.int) (ns.map PyData.int)
  | [] => .nil
  | n :: ns => .cons (.int n) (dp_ints ns)
theorem dp_il {ns : List Int} (h : SqL K H a (ns.map V.int)) : Dp K H (.ref a) (.list (ns.map PyData.int)) := .lst h (dp_ints ns)
theorem dp_it {ns : List Int} (h : SqT K H a (ns.map V.int)) : Dp K H (.ref a) (.tuple (ns.map PyData.int)) := .tup h (dp_ints ns)
theorem canL_ints : ∀ ns : List Int, PyData.canLayAll0 (ns.map PyData.int) = true
  | [] => by simp [PyData.canLayAll0]
  | n :: ns => by simp [PyData.canLayAll0, PyData.canLay0, canL_ints ns]
theorem dep_ints : ∀ ns : List Int, PyData.depthAll (ns.map PyData.int) = 0
  | [] => by simp [PyData.depthAll]
  | n :: ns => by simp [PyData.depthAll, PyData.depth, dep_ints ns]
theorem sh_il (ns : List Int) : SeqAt.shaped (.list (ns.map PyData.int)) = true := by
  simp [SeqAt.shaped, PyData.canLay0, PyData.depth, canL_ints, dep_ints]
theorem sh_it (ns : List Int) : SeqAt.shaped (.tuple (ns.map PyData.int)) = true := by
  simp [SeqAt.shaped, PyData.canLay0, PyData.depth, canL_ints, dep_ints]
theorem eqv_ints : ∀ ns ms : List Int, PyData.eqvAll (ns.map PyData.int) (ms.map PyData.int) = decide (ns = ms) := fun ns ms => PySem.W.eqvAll_map ns ms
theorem eqv_il (ns ms : List Int) : PyData.eqv (.list (ns.map PyData.int)) (.list (ms.map PyData.int)) = decide (ns = ms) := by
  rw [PyData.eqv]
  exact eqv_ints ns ms
theorem eqv_it (ns ms : List Int) : PyData.eqv (.tuple (ns.map PyData.int)) (.tuple (ms.map PyData.int)) = decide (ns = ms) := by
  rw [PyData.eqv]
  exact eqv_ints ns ms
end
/-! ### comprehensions whose element is told item by item -/
section
variable {K : PySem.W.Frag} {σ : L2.St} {H H' : Hp} {ta tb te tc : TE} {t u : TT} {x y z v : V} {a : Addr} {xs : List V} {D : Ends} {tu tz : TS} {g : TG}
theorem et_yes : EvT tYes σ H true := fun H1 _ Q q => q H1 (Ex.refl H1)
theorem given_all (n : Nat) (v : Nat → V) : given n (fun _ => true) v = (List.range n).map v := by
  unfold given
  rw [List.filter_eq_self.mpr (fun _ _ => rfl)]
theorem given_list (ys : List V) : given ys.length (fun _ => true) (fun i => ys.getD i .non) = ys := by
  rw [given_all]
  apply List.ext_getElem
  · rw [List.length_map, List.length_range]
  · intro i h1 h2
    rw [List.getElem_map, List.getElem_range, List.getD_eq_getElem?_getD, List.getElem?_eq_getElem h2]
    rfl
theorem getD_at {ys : List V} {i : Nat} (h : i < ys.length) : ys[i]? = some (ys.getD i .non) := by
  rw [List.getD_eq_getElem?_getD, List.getElem?_eq_getElem h]
  rfl
theorem el_mapL {tl : TE} {j : Nat} {vs : List Nat} (ys : List V) (h : Ev tl σ H (.ref a)) (hx : SqL K H a xs) (hl : ys.length = xs.length) (hz : xs.length ≤ 40000) (hw : ∀ x, wipe ((wipe σ vs).set j (some x)) vs = wipe σ vs)
    (he : ∀ (i : Nat) (x y : V) H1, Ex H H1 → xs[i]? = some x → ys[i]? = some y → Ev te ((wipe σ vs).set j (some x)) H1 y) : EvL (tLc (iList K tl) (gName j) tYes te vs) σ H ys := by
  have h0 := el_lcL (K := K) (te := te) (fun _ => true) (fun i => ys.getD i .non) h hx hz hw (fun _ _ _ _ _ => et_yes) (fun i x H1 e hi _ => he i x _ H1 e hi (getD_at (by rw [hl]; exact (List.getElem?_eq_some_iff.mp hi).1)))
  rw [← hl, given_list] at h0
  exact h0
theorem el_mapNL {tl : TE} {j : Nat} {vs : List Nat} (ys : List V) (h : EvL tl σ H xs) (hl : ys.length = xs.length) (hz : xs.length ≤ 40000) (hw : ∀ x, wipe ((wipe σ vs).set j (some x)) vs = wipe σ vs)
    (he : ∀ (i : Nat) (x y : V) H1, Ex H H1 → xs[i]? = some x → ys[i]? = some y → Ev te ((wipe σ vs).set j (some x)) H1 y) : EvL (tLc (iList K tl) (gName j) tYes te vs) σ H ys := by
  have h0 := el_lcNL (K := K) (te := te) (fun _ => true) (fun i => ys.getD i .non) h hz hw (fun _ _ _ _ _ => et_yes) (fun i x H1 e hi _ => he i x _ H1 e hi (getD_at (by rw [hl]; exact (List.getElem?_eq_some_iff.mp hi).1)))
  rw [← hl, given_list] at h0
  exact h0
theorem el_lcT {tl : TE} {j : Nat} {vs : List Nat} (f : Nat → Bool) (v : Nat → V) (h : Ev tl σ H (.ref a)) (hx : SqT K H a xs) (hz : xs.length ≤ 40000) (hw : ∀ x, wipe ((wipe σ vs).set j (some x)) vs = wipe σ vs)
    (ht : ∀ (i : Nat) (x : V) H1, Ex H H1 → xs[i]? = some x → EvT t ((wipe σ vs).set j (some x)) H1 (f i)) (he : ∀ (i : Nat) (x : V) H1, Ex H H1 → xs[i]? = some x → f i = true → Ev te ((wipe σ vs).set j (some x)) H1 (v i)) :
    EvL (tLc (iTup K tl) (gName j) t te vs) σ H (given xs.length f v) := fun H0 e Q q => h H0 e _ fun H1 e1 => ⟨a, rfl, ⟨xs, ex_t (e.trans e1) hx⟩, fun Dl hD =>
  lc_tup (xs := xs) (Cw H1 f v Dl) ⟨hD, Ex.new hD, upd_same⟩ (fun i H' _ p => ex_t ((e.trans e1).trans p.2.1) hx) (fun i x H' hi p => ⟨hw x, cw_turn p (by have := (List.getElem?_eq_some_iff.mp hi).1; omega) (ht i x H1 (e.trans e1) hi) (fun hf => he i x H1 (e.trans e1) hi hf)⟩)
    (fun H' p => q Dl H' (fresh_back e1 p.1) (e1.trans p.2.1) p.2.2)⟩
theorem el_mapT {tl : TE} {j : Nat} {vs : List Nat} (ys : List V) (h : Ev tl σ H (.ref a)) (hx : SqT K H a xs) (hl : ys.length = xs.length) (hz : xs.length ≤ 40000) (hw : ∀ x, wipe ((wipe σ vs).set j (some x)) vs = wipe σ vs)
    (he : ∀ (i : Nat) (x y : V) H1, Ex H H1 → xs[i]? = some x → ys[i]? = some y → Ev te ((wipe σ vs).set j (some x)) H1 y) : EvL (tLc (iTup K tl) (gName j) tYes te vs) σ H ys := by
  have h0 := el_lcT (K := K) (te := te) (fun _ => true) (fun i => ys.getD i .non) h hx hz hw (fun _ _ _ _ _ => et_yes) (fun i x H1 e hi _ => he i x _ H1 e hi (getD_at (by rw [hl]; exact (List.getElem?_eq_some_iff.mp hi).1)))
  rw [← hl, given_list] at h0
  exact h0
/-! ### while by a word and a number that falls; two names stored at once; a pair taken apart -/
theorem s_whl (W : Nat → L2.St → Hp → Prop) (m0 : Nat) (h0 : W m0 σ H)
    (hs : ∀ m σ' H', W m σ' H' → ∃ b, EvT t σ' H' b ∧ (b = true → ∀ H1, Ex H' H1 → tu { D with nx := fun σ2 H2 => ∃ m', m' < m ∧ W m' σ2 H2, ct := fun σ2 H2 => ∃ m', m' < m ∧ W m' σ2 H2, bk := D.nx } σ' H1) ∧ (b = false → ∀ H1, Ex H' H1 → D.nx σ' H1)) : tWhile t tu D σ H :=
  s_while W m0 h0 fun m σ' H' hw => by
    obtain ⟨b, hb, h1, h2⟩ := hs m σ' H' hw
    exact ⟨b, hb, fun e H1 e1 => ⟨_, fun _ _ h => h, h1 e H1 e1⟩, h2⟩
theorem q_whl (W : Nat → L2.St → Hp → Prop) (m0 : Nat) (h0 : W m0 σ H)
    (hs : ∀ m σ' H', W m σ' H' → ∃ b, EvT t σ' H' b ∧ (b = true → ∀ H1, Ex H' H1 → tu { D with nx := fun σ2 H2 => ∃ m', m' < m ∧ W m' σ2 H2, ct := fun σ2 H2 => ∃ m', m' < m ∧ W m' σ2 H2, bk := tz D } σ' H1) ∧ (b = false → ∀ H1, Ex H' H1 → tz D σ' H1)) : tSeq (tWhile t tu) tz D σ H :=
  s_whl (D := { D with nx := tz D }) W m0 h0 hs
theorem s_par {i j : Nat} {w : V} (ha : Ev ta σ H v) (hb : Ev tb σ H w) (k : ∀ H1, Ex H H1 → D.nx ((σ.set i (some v)).set j (some w)) H1) : tPar i j (tCons ta (tCons tb tNil)) D σ H :=
  ha H (Ex.refl H) _ fun H1 e1 => hb H1 e1 _ fun H2 e2 => ⟨v, w, rfl, k H2 (e1.trans e2)⟩
theorem q_par {i j : Nat} {w : V} (ha : Ev ta σ H v) (hb : Ev tb σ H w) (k : ∀ H1, Ex H H1 → tz D ((σ.set i (some v)).set j (some w)) H1) : tSeq (tPar i j (tCons ta (tCons tb tNil))) tz D σ H :=
  s_par (D := { D with nx := tz D }) ha hb k
theorem g_tup2 {i j : Nat} {w : V} {p : Addr} {Q : L2.St → Hp → Prop} (h : SqT K H p [v, w]) (q : Q ((σ.set i (some v)).set j (some w)) H) : gTup K 2 (gCons (gName i) (gCons (gName j) gNil)) (.ref p) σ H Q :=
  ⟨p, [v, w], rfl, h, rfl, v, [w], rfl, w, [], rfl, rfl, q⟩
/-- a, b = e, e a tuple that is read, or a new one -/
theorem q_tup2 {i j : Nat} {w : V} {p : Addr} (h : Ev te σ H (.ref p)) (hp : SqT K H p [v, w]) (k : ∀ H1, Ex H H1 → tz D ((σ.set i (some v)).set j (some w)) H1) : tSeq (tAsg te (gTup K 2 (gCons (gName i) (gCons (gName j) gNil)))) tz D σ H :=
  h H (Ex.refl H) _ fun H1 e => g_tup2 (ex_t e hp) (k H1 e)
theorem q_tup2N {i j : Nat} {w : V} (h : EvU te σ H [v, w]) (k : ∀ H1, Ex H H1 → tz D ((σ.set i (some v)).set j (some w)) H1) : tSeq (tAsg te (gTup K 2 (gCons (gName i) (gCons (gName j) gNil)))) tz D σ H :=
  h H (Ex.refl H) _ fun p H1 _ e h1 => g_tup2 (st_of h1) (k H1 e)
def RetU (xs : List V) (H : Hp) (Q : VK) : Prop := ∀ p H2, H p = none → Ex H H2 → H2 p = some (.tup xs) → Q (.ref p) H2
theorem RetU.go {Q : VK} (k : RetU xs H Q) (e : Ex H H') {p : Addr} {H2 : Hp} (hp : H' p = none) (e2 : Ex H' H2) (h : H2 p = some (.tup xs)) : Q (.ref p) H2 := k p H2 (fresh_back e hp) (e.trans e2) h
end
theorem small_nn {n : Nat} (h : n ≤ 100000) : n ≤ sizeLine := sz_of h
/-- a list that was new is changed: what was known ahead stays; tuples stay -/
theorem sqT_mut {K : PySem.W.Frag} {H : Hp} {l t : Addr} {xs ys : List V} {o : HO} (hl : H l = some (.lst xs)) (h : SqT K H t ys) : SqT K (upd H l o) t ys := by
  rcases h with (h | ⟨u, h⟩) | h
  · exact .inl (.inl (by rw [upd_ne (ne_of h hl (by intro z; cases z))]; exact h))
  · exact .inl (.inr ⟨u, by rw [upd_ne (ne_of h hl (by intro z; cases z))]; exact h⟩)
  · exact .inr h
theorem nat_of {z : Int} (h : 0 ≤ z) : ∃ n : Nat, z = (n : Int) := Int.eq_ofNat_of_zero_le h
end Sv

set_option Elab.async false
set_option linter.all false
set_option maxRecDepth 100000
set_option maxHeartbeats 4000000
/-! SvHot: what a def does that is called while an exception is handled: the end of a list's walk, sum, [int(x) for x in ..], isinstance of that exception. -/
namespace Sv
open PySem PySem.Spec PyProof.Rows L2 Evl HotX L2H
section
variable {prog : Program} {w : World} {A : Around} {E : Value → Shared → Prop} {s : Shared}
theorem next_end_hot {it l x1 : Addr} {i : Nat} {items : Array Value} {Q : Option Value → Shared → Prop} (hot : HotAt A x1 s.heap) (hne : x1 ≠ it) (hit : s.heap.IsListIter it l i) (hl : s.heap.IsList l items) (hx : items[i]? = none)
    (hQ : ∀ h', Heap.ExtBut it s.heap h' → Q none { s with heap := h' }) : wpAny (model prog w) A (pyNext (.ref it)) Q E s := by
  obtain ⟨o, ho, hc, hd⟩ := id hit
  obtain ⟨ol, hol, _, nl, hdl⟩ := hl
  obtain ⟨hh, o1, vs1, k1, d1, c1⟩ := hot
  unfold pyNext
  refine wpAny_bind (wpAny_attempt (wpAny_callSpecial?_slot (name := Str.ofString "__next__") hit.typeIs slot_listiter_next
    (wpAny_call_entry slot_listiter_next hit.typeIs entry_listiter_next ?g0 (args_listiter_next _))))
  show wpAny _ _ (field (.ref it) 0 >>= _) _ _ s
  refine wpAny_bind (wpAny_field ho hd (x := .ref l) rfl ?g1)
  show wpAny _ _ (if (Value.ref l == Value.none) = true then _ else _) _ _ s
  rw [if_neg (show ¬ ((Value.ref l == Value.none) = true) from Bool.false_ne_true)]
  show wpAny _ _ (field (.ref it) 1 >>= _) _ _ s
  refine wpAny_bind (wpAny_field ho hd (x := .int i 0) rfl ?g2)
  show wpAny _ _ (seqItems? (.ref l) >>= _) _ _ s
  refine wpAny_bind (wpAny_seqItems hol hdl ?g3)
  simp only [Int.toNat_natCast, hx]
  refine wpAny_bind (wpAny_rule (wpAny_bind (wpAny_setField ho hd (by simp) ?g4)))
  show wpAny _ _ (newExc (.type "StopIteration") [] >>= _) _ _ _
  refine wpAny_bind ?g5
  simp only [newExc, newTuple]
  refine wpAny_bind (wpAny_newObj_type ?g6 (by size_fits))
  refine wpAny_bind (m := firstArgMember _ _) (wpAny_of_eq (a := Value.none) (by first | rfl | (simp only [firstArgMember]; rfl)) ?g7)
  refine wpAny_newObj_type ?g8 (by size_fits)
  refine raiseNew_hot ⟨hh, o1, vs1, Heap.get?_push_of_some _ (Heap.get?_push_of_some _ ((Heap.SameBut.update ..).extBut _ _ hne k1)), d1, c1⟩ (Nat.ne_of_lt (Heap.lt_size (Heap.get?_push_of_some _ ((Heap.SameBut.update ..).extBut _ _ hne k1)))) (Heap.get?_push_size _ rfl) rfl (by first | (simp; done) | (simp; omega)) ?g9
  refine wpAny_bind (wpAny_isInstance (T := "StopIteration") (b := true) ⟨_, Heap.get?_update_self _ (Heap.get?_push_size _ rfl) rfl, rfl⟩ isSubtype_stop ?g10)
  refine wpAny_pure (hQ _ fun b ob hb e => ?g11)
  have e1 := Heap.get?_push_of_some { cls := .type "tuple", data := .seq #[] } ((Heap.SameBut.update (h := s.heap) (a := it) (f := Obj.mapFields (·.setIfInBounds 0 Value.none))).extBut b ob hb e)
  rw [Heap.get?_update_other _ _ (Nat.ne_of_gt (Heap.lt_size e1))]
  exact Heap.get?_push_of_some _ e1
theorem walks_hot {I ax x1 : Addr} {oe : Obj} {vs : Array Value} (hh : A.handled = some (.ref x1)) (d1 : oe.data = .fields vs) (c1 : vs[2]? = some .none) (hne : ax ≠ I) (hn1 : x1 ≠ I) (items : Array Value) :
    Walks prog w A I [I, ax, x1] [I] items.size (fun i v => items[i]? = some v) (fun i h => h.IsListIter I ax i ∧ h.IsList ax items ∧ h.get? x1 = some oe) where
  sub := fun b hb => by
    rw [List.mem_singleton.mp hb]
    exact List.mem_cons_self
  frame := fun i h h' st hk => ⟨st.1.at fun o e => hk I (by simp) o e, st.2.1.at fun o e => hk ax (by simp) o e, hk x1 (by simp) _ st.2.2⟩
  item := fun i s Q E hi st hQ => by
    refine wpAny_pyNext_list_item st.1 st.2.1 (x := items[i]) (by simp [hi]) fun h' hit' hs' => ?_
    refine hQ _ h' s.toks (by simp [hi]) ⟨hit', st.2.1.extBut hs'.extBut hne, hs'.extBut _ _ hn1 st.2.2⟩ fun b o hb e => ?_
    exact hs'.extBut b o (fun z => hb (by rw [z]; exact List.mem_cons_self)) e
  done := fun s Q E st hQ => next_end_hot ⟨hh, oe, vs, st.2.2, d1, c1⟩ hn1 st.1 st.2.1 (by simp) fun h' he' => hQ h' s.toks fun b o hb e => he' b o (fun z => hb (by rw [z]; exact List.mem_cons_self)) e
  self := fun _ _ _ _ st hQ => wpAny_pyIter_listiter st.1 hQ
theorem goes_hot {target : Expr} {I ax x1 : Addr} {oe : Obj} {vs : Array Value} (hh : A.handled = some (.ref x1)) (d1 : oe.data = .fields vs) (c1 : vs[2]? = some .none) (hne : ax ≠ I) (hn1 : x1 ≠ I) (items : Array Value) :
    Goes prog w A target I [I, ax, x1] [I] items.size (fun i v _ => items[i]? = some v) (fun i h => h.IsListIter I ax i ∧ h.IsList ax items ∧ h.get? x1 = some oe) :=
  Goes.ofWalks (walks_hot hh d1 c1 hne hn1 items) fun i v s Q E (st : s.heap.IsListIter I ax i ∧ s.heap.IsList ax items ∧ s.heap.get? x1 = some oe) q => by
    obtain ⟨o, ho, hc, hd⟩ := st.1
    exact letGo_of_cls ho hc hd (by decide) q
/-- sum of a list of ints, an exception handled -/
theorem sum_hot {l x1 : Addr} {xs : Array (Int × Tok)} {oe : Obj} {vs : Array Value} {Q : Value → Shared → Prop} (hh : A.handled = some (.ref x1)) (h1 : s.heap.get? x1 = some oe) (d1 : oe.data = .fields vs) (c1 : vs[2]? = some .none) (hl : s.heap.IsList l (intItems xs))
    (h : ∀ h' tk t', (∀ b o, s.heap.get? b = some o → h'.get? b = some o) → Q (.int (preSum (numAt xs) xs.size) t') { s with heap := h', toks := tk }) : wpAny (model prog w) A (call (.builtin "sum") [.ref l]) Q E s := by
  refine call_sum_walkG (iter_intList hl fun s₂ e st hfp hlI => ?_)
  subst e
  have hx1 := Heap.lt_size h1
  have k1 := Heap.get?_push_of_some { cls := .type "list_iterator", data := .fields #[.ref l, .int 0 0] } h1
  refine ⟨_, _, _, _, _, _, numAt xs, rfl, walks_hot (A := A.in1) (oe := oe) hh d1 c1 hlI (Nat.ne_of_lt hx1) (intItems xs), ⟨st.1, st.2, k1⟩, fun b hb => ?_, (fun _ _ => intItems_at), fun h' tk t' hk => ?_⟩
  · rcases List.mem_cons.mp hb with z | z
    · exact hfp b (by rw [z]; exact List.mem_cons_self)
    · rcases List.mem_cons.mp z with z | z
      · exact hfp b (by rw [z]; exact List.mem_cons_of_mem _ List.mem_cons_self)
      · rw [List.mem_singleton.mp z]
        exact Heap.lt_size k1
  · have := h h' tk t' (old_kept hk)
    simpa [intItems] using this
end
section
variable {X : Cx}
theorem hotGet {pins : List (Addr × Obj)} {σ : L2.St} {H : Hp} {s : Shared} (c : HotC X) (I : L2.Inv X pins σ H s) : ∃ (x1 : Addr) (oe : Obj) (vs : Array Value), X.A.handled = some (.ref x1) ∧ s.heap.get? x1 = some oe ∧ oe.data = .fields vs ∧ vs[2]? = some .none := by
  obtain ⟨x1, hh, oe, vs, h1, d1, c1⟩ := c.at I
  exact ⟨x1, oe, vs, hh, h1, d1, c1⟩
theorem cr_sumH (hc : HotC X) : CallR X (.builtin "sum") (rSum X.K) := by
  intro pins s σ H vs us Q I r h
  obtain ⟨a, ns, rfl, hs, q⟩ := h
  obtain ⟨its, rv, hl, _⟩ := I.list hs
  obtain ⟨x1, oe, ws, hh, h1, d1, c1⟩ := hotGet hc I
  rw [Vals.ref1 r]
  obtain ⟨xs, e⟩ := rv.ints.allInts.items
  have hn : numsOf (intItems xs).toList = ns := by
    rw [← e]
    exact rv.ints.numsOf
  rw [nums_intItems] at hn
  have hl' := hl.isList
  rw [e] at hl'
  refine sum_hot hh h1 d1 c1 hl' fun h' tk t' hk => ?_
  rw [preSum_eq, List.take_of_length_le (by simp), hn]
  exact ⟨.int _, H, I.kept hk, ⟨_, rfl⟩, q⟩
/-- isinstance(e, c), e the exception that is handled -/
theorem call_isP {a C : Addr} {oe : Obj} (hp : (a, oe) ∈ X.pn) (T : ExcC X.K C) (hz : Zc (.ref C) none oe) (hf : ∃ vs, oe.data = .fields vs) : CallR X (.builtin "isinstance") (rIsE X.K C a) := by
  intro pins s σ H xs us Q I r h
  obtain ⟨c, cv, b, rfl, hcv, e, q⟩ := h
  obtain ⟨u1, u2, rfl, r1, r2⟩ := Vals.two r
  cases r1
  rw [hcv _ r2]
  have hget := (I.pin (a, oe) (List.mem_append_left _ hp)).1
  obtain ⟨vs, hv⟩ := hf
  have J : PySem.W.InstAt s.heap a oe C none := by
    obtain ⟨oc, od, oda, osl⟩ := oe
    obtain ⟨z1, z2⟩ := hz
    dsimp only at z1 z2 hv
    subst z1 z2 hv
    exact ⟨hget, rfl, rfl, trivial⟩
  exact PySem.W.kia_one (PySem.W.handS_kitx_exc T.hg T.hk T.hs T.hd T.ha T.hn T.ht T.hm) I.kIn J e (fun z => nomatch z) fun tk => ⟨.bl b, H, I.kept (t' := tk) fun _ _ z => z, rfl, q⟩
/-- [int(v) for v in ..] over truth values -/
def tIntsH (K : PySem.W.Frag) (te : TE) : TE := fun σ H Q => te σ H fun x H1 => ∃ (a : Addr) (bs : List Bool), x = .ref a ∧ SqL K H1 a (bs.map V.bl) ∧ ∀ D, H1 D = none → Q (.ref D) (upd H1 D (.lst (bs.map fun b => .int (if b then 1 else 0))))
theorem arith1 {b N C D : Nat} (hb : b < N ∨ b = C) (hC : N + 1 ≤ C) (hD : N + 1 ≤ D) (h : D ≠ C) : ¬ (b = D ∨ b = N) := by omega
theorem arith2 {b N C : Nat} (hb : b < N + 1) (hC : N + 1 ≤ C) : b ≠ C := by omega
theorem pe_intsH {v : Str} {iter : Expr} {te : TE} {scope : Scope} {p1 p2 p3 p4 pos : Pos} (hc : HotC X) (hi : PE X iter te) (hclos : closureFor scope X.env = pure []) (hcell : ∀ y ∈ scope.names, y.2 ≠ .cell) (hkind : scope.kind = .function)
    (hnames : ∀ y ∈ scope.names, y.2 = .local → scope.names.lookup y.1 = some .local) (hv : scope.names.lookup v = some .local) (hint : ∀ C, (compEnvC scope [] C X.env).kindOf ("int" : Str) = some .globalImplicit) (hm : X.mg "int" = none) (hdv : (v == ("__debug__" : Str)) = false)
    (hs : ∀ x, foldedSetIterable iter X.env x = pure x := by intro _; rfl) : PE X (.ListComp (.Call (.Name "int" p1) [.Name v p2] [] p3) [⟨.Name v p4, iter, [], 0⟩] scope pos) (tIntsH X.K te) := by
  refine ⟨fun pins s σ H Q I h => ?_⟩
  refine ListComp_goes hclos hcell hkind hnames (thn (hi.run pins s σ H _ I h) fun u s1 ⟨x, H1, I1, r1, a, bs, ex, hS, q⟩ => ?_) hs
  subst ex
  cases r1
  obtain ⟨its, rv, hl, hz⟩ := I1.list hS
  obtain ⟨x1, oe, vs1, hh, h1, d1, c1⟩ := hotGet hc I1
  have ei : its = bs.map Value.bool := Vals.bls rv
  have hlt : a < s1.heap.objs.size := by
    obtain ⟨o, ho, _⟩ := hl.isList
    exact Heap.lt_size ho
  have hx1 := Heap.lt_size h1
  have hsz := rv.length
  refine wpAny_pyIter_list hl.isList ?_
  refine ⟨_, _, _, _, _, _, rfl, goes_hot hh d1 c1 (Nat.ne_of_lt hlt) (Nat.ne_of_lt hx1) its.toArray, by rw [List.size_toArray]; omega, ⟨⟨_, Heap.get?_push_size _ rfl, rfl, rfl⟩, hl.isList.push _, Heap.get?_push_of_some _ h1⟩, fun b hb => ?_, fun D C s₃ hB => ?_⟩
  · show b < (s1.heap.push _).objs.size
    rw [Heap.size_push]
    have hb : b = s1.heap.objs.size ∨ b = a ∨ b = x1 := by simpa using hb
    rcases hb with z | z | z
    · rw [z]
      exact Nat.lt_succ_self _
    · rw [z]
      exact Nat.lt_succ_of_lt hlt
    · rw [z]
      exact Nat.lt_succ_of_lt hx1
  obtain ⟨⟨h₃, tk₃, rfl⟩, old, nD, nC, hDC, hnm⟩ := hB
  have nC' : (s1.heap.objs.size + 1 : Nat) ≤ C := by
    have q : (s1.heap.push { cls := .type "list_iterator", data := .fields #[.ref a, .int 0 0] }).objs.size ≤ C := nC
    rw [Heap.size_push] at q
    exact q
  have nD' : (s1.heap.objs.size + 1 : Nat) ≤ D := by
    have q : (s1.heap.push { cls := .type "list_iterator", data := .fields #[.ref a, .int 0 0] }).objs.size ≤ D := nD
    rw [Heap.size_push] at q
    exact q
  have hDC' : (D : Nat) ≠ C := hDC
  have kv : (compEnvC scope [] C X.env).kindOf v = some .local := lookup_relabel_local hv
  have hp : ((compEnvC scope [] C X.env).scope.kind == .class || ((compEnvC scope [] C X.env).scope.kind == .module && (compEnvC scope [] C X.env).locals != (compEnvC scope [] C X.env).globals)) = false := by
    show (scope.kind == .class || (scope.kind == .module && _)) = false
    rw [hkind]
    rfl
  refine ⟨fun i ys s2 => ∃ h' tk m, s2 = { s1 with heap := h', toks := tk } ∧ h'.Ns C m ∧ Vals ((bs.take i).map fun b => V.int (if b then 1 else 0)) ys ∧ ∀ b o, s1.heap.get? b = some o → h'.get? b = some o,
    ⟨h₃, tk₃, _, rfl, hnm, .nil, fun b o e => old b o (Heap.get?_push_of_some _ e)⟩, ?_, ?_, ?_⟩
  · rintro i ys s2 h' tk ⟨h₄, tk₄, m, rfl, n₄, e₄, k₄⟩ hk' _
    have off : ∀ b : Addr, (b < s1.heap.objs.size ∨ b = C) → b ∉ D :: [s1.heap.objs.size] := fun b hb hm => arith1 hb nC' nD' hDC' (by simpa using hm)
    exact ⟨h', tk, m, rfl, n₄.at' fun o e => hk' _ o (off _ (.inr rfl)) e, e₄, fun b o e => hk' b o (off _ (.inl (Heap.lt_size e))) (k₄ b o e)⟩
  · rintro i u ys s2 hi2 hu st ⟨h₄, tk₄, m, rfl, n₄, e₄, k₄⟩ hpl
    have hub : ∃ b, bs[i]? = some b ∧ u = Value.bool b := by
      have hu2 : its[i]? = some u := by simpa using hu
      rw [ei, List.getElem?_map] at hu2
      cases hb : bs[i]? with
      | none =>
        rw [hb] at hu2
        cases hu2
      | some b =>
        rw [hb] at hu2
        exact ⟨b, rfl, (Option.some.inj hu2).symm⟩
    obtain ⟨b, hb, rfl⟩ := hub
    refine wpAny_assign_Name (wpAny_storeName_local kv n₄ (fun h₅ n₅ s₅ => ?_) hp)
    refine wpAny_tests_nil ?_
    have offC : ∀ b : Addr, b < s1.heap.objs.size + 1 → b ≠ C := fun b hb => arith2 hb nC'
    have keep : ∀ b o, s1.heap.get? b = some o → h₅.get? b = some o := fun b o e => s₅.extBut b o (offC b (Nat.lt_succ_of_lt (Heap.lt_size e))) (k₄ b o e)
    have kb : ∀ b o, X.base.get? b = some o → h₅.get? b = some o := fun b o e => keep b o (I1.bk b o e)
    obtain ⟨mb, b1, b2⟩ := I1.mod.blt
    refine wpAny_Call_Name_kw (Calls.Name_function_global hkind (hint C) (Calls.loadGlobal_builtin (mg := X.mg) (mb := mb) (v := .type "int") ?_ hm ?_ ((b2 _ (by decide)).trans (by decide +kernel)) ?_))
    · show h₅.Ns X.env.globals X.mg
      rw [I1.ok.glob]
      exact I1.mod.glob.keeps kb
    · show h₅.Ns X.env.builtins mb
      rw [I1.ok.blt]
      exact b1.keeps kb
    refine PyProof.Rows.callWith_type1 ?_ (by rfl) (by rfl)
    show wpAny _ _ (spliced ((false, eval (.Name v p2) (compEnvC scope [] C X.env)) :: backTo p3 (starEach [] (compEnvC scope [] C X.env)))) _ _ _
    refine Calls.spliced_cons ?_
    rw [eval_Name _ _ _ hdv]
    refine wpAny_bind (wpAny_standAt (wpAny_loadName_local hkind kv n₅ (v := .bool b) (if_pos rfl) ?_))
    refine Calls.spliced_nil ?_
    refine call_int_bool ⟨⟨h₅, _, _, rfl, n₅, ?_, keep⟩, ⟨st.1.at fun o e => s₅.extBut _ o (offC _ (Nat.lt_succ_self _)) e, st.2.1.at fun o e => s₅.extBut _ o (offC _ (Nat.lt_succ_of_lt hlt)) e, s₅.extBut _ _ (offC _ (Nat.lt_succ_of_lt hx1)) st.2.2⟩, hpl.at fun o e => s₅.extBut _ o hDC e⟩
    rw [List.take_add_one, hb, List.map_append]
    exact e₄.append (.cons ⟨_, rfl⟩ .nil)
  · rintro ys s2 ⟨h₄, tk₄, m, rfl, n₄, e₄, k₄⟩ hpl
    refine ⟨m, n₄, fun h' hs' => ?_⟩
    have keep : ∀ b o, s1.heap.get? b = some o → h'.get? b = some o := fun b o e => hs'.extBut b o (arith2 (Nat.lt_succ_of_lt (Heap.lt_size e)) nC') (k₄ b o e)
    have hD0 : s1.heap.objs.size ≤ D := Nat.le_trans (Nat.le_succ _) nD'
    have e5 : (bs.take its.toArray.size) = bs := List.take_of_length_le (by rw [ei]; simp)
    rw [e5] at e₄
    obtain ⟨n, hn⟩ := hpl.extBut hs'.extBut hDC
    refine ⟨.ref D, _, I1.laid (t' := tk₄) (o := .lst (bs.map fun b => V.int (if b then 1 else 0))) keep hD0 ⟨?_, ys, n, e₄, hn⟩, rfl, q D (I1.hok.fresh hD0)⟩
    rw [List.length_map] at hz ⊢
    exact hz
end
end Sv

set_option Elab.async false
set_option linter.all false
set_option maxRecDepth 100000
set_option maxHeartbeats 4000000
/-! SvWord: a def that is called in an except suite with the exception itself (_law_word); try: return deed() / except X as e: return word(e), where deed is a lambda of the caller's (_law_told). -/
namespace Sv
open PySem PySem.Spec PyProof.Rows L2 Evl HotX L2H LamX
/-- the body of a def, entered while p's exception is handled -/
theorem hot_body {CT : CXT} {P : Program} {w : World} {K : PySem.W.Frag} {mg : Str → Option Value} {base : Heap} {j : Nat} {g : Addr} {x : Str} {prs : Arguments} {sts : List Stmt} {sco : Scope} {v1 v2 v3 v4 v5 v6 v7 : Value} {a1 a2 : Option Addr}
    {slo : Array (Option Value)} {N ps : List Str} (look : K.lookup g = some ⟨v7, a1, .func (PySem.W.fnOf x x prs sts sco v1 v2 v3 v4 a2 v5 v6), slo⟩) (code : PySem.W.codeIn K v5 x = true) (F : FnScope N ps sco)
    {A : Around} {outer : List Env} {s : Shared} {H : Hp} {args : Args} {us : List Value} {vs : List V} {Q : VK} {E : XK} {p : Addr × Obj} (room : RoomH (j + 1) A) (pin : PinOk outer H s p) (env0 : Env0 P w K mg base A outer s H)
    (bind : BindsTo s (PySem.W.fnOf x x prs sts sco v1 v2 v3 v4 a2 v5 v6) args (ps.zip us)) (rel : Vals vs us) (many : vs.length = ps.length)
    (bd : RoomH j (A.deeper (envOfC x sco s.heap.objs.size g v5)) → ∃ t, PSs (cxH CT P w K mg base N x sco g v5 A outer s H E p) sts t ∧ t (dn Q) (L2.start N vs) H) :
    codeAny (model P w) A (.call (.ref g) args) (CR CT outer P w H s Q E) s := by
  have inK : K.In s.heap := env0.mod.kin.keeps fun b o z => (env0.bs b o z).1
  have noL : s.heap.NoLimit := env0.mod.nolimit.keeps fun b o z => (env0.bs b o z).1
  have kinds : ∀ y ∈ ps.zip us, sco.names.lookup y.1 = some .local ∨ (sco.names.lookup y.1 = some .cell ∧ ((cellsFrom (s.heap.objs.size + 1) sco.names []).lookup y.1).isSome = true) := fun ⟨n, v⟩ hy =>
    (F.par n (List.of_mem_zip hy).1).elim .inl fun q => .inr ⟨q, PySem.W.cellsFrom_some _ _ _ (.inl q)⟩
  refine codeAny_call_function room.depth (inK _ _ look) rfl F.co F.gen rfl (PySem.W.codeRec_of inK code) (bind _ _ _ _ ?_)
  refine wpAny_newFunctionEnv_cells F.kind kinds fun env ee s1 ic => ?_
  subst ee
  refine ⟨noL.keeps ic.toInCall.keep, codeAny_func ?_⟩
  obtain ⟨t, hd, ht⟩ := bd (room.deeper _)
  have J0 : L2.Inv (cxH CT P w K mg base N x sco g v5 A outer s H E p) [] (L2.start N vs) H s1 := inv_startH F pin env0 many rel ic
  refine wpAny_mono (hd.run [] s1 (L2.start N vs) H _ J0 ht) (fun fl s2 q => ?_) fun _ _ q => q
  cases fl with
  | ret u =>
    obtain ⟨v, σ', H', J, rv, z⟩ := q
    exact ⟨v, H', J.os, J.bare, J.base, J.hok, rv, z⟩
  | next =>
    obtain ⟨σ', H', J, z⟩ := q
    exact ⟨.non, H', J.os, J.bare, J.base, J.hok, rfl, z⟩
  | brk =>
    obtain ⟨_, _, _, z⟩ := q
    exact z.elim
  | cont =>
    obtain ⟨_, _, _, z⟩ := q
    exact z.elim
/-- word(e), e the exception that is handled, of the class at C: the text nm where W C nm -/
structure WordOk (P : Program) (w : World) (K : PySem.W.Frag) (mg : Str → Option Value) (base : Heap) (j : Nat) (x a : Str) (W : Addr → Str → Prop) : Prop where
  ex : ∃ (g : Addr) (fd : FuncData), mg x = some (.ref g) ∧ PySem.W.keepIn K (.ref g) = true ∧ Binds K fd [a] [] ∧
    ∀ (A : Around) (outer : List Env) (s : Shared) (H : Hp) (args : Args) (Q : VK) (p : Addr × Obj) (C : Addr) (nm : Str), RoomH j A → Hot1 A p → PinOk outer H s p → Env0 P w K mg base A outer s H → BindsTo s fd args (([a] : List Str).zip [.ref p.1]) →
      Zc (.ref C) none p.2 → W C nm → (∀ H', Ex H H' → Q (.str nm) H') → codeAny (model P w) A (.call (.ref g) args) (CR (CXN P w) outer P w H s Q E0) s
theorem mk_word {P : Program} {w : World} {K : PySem.W.Frag} {mg : Str → Option Value} {base : Heap} {j : Nat} {x a : Str} {st : Stmt} {N : List Str} {W : Addr → Str → Prop} (D : DefAt K mg x st) (F : FnScope N [a] (defScope st))
    (hb : ∀ (kV doc pm : Value) (an : Option Addr) (cdv ct : Value) (us : List Value), us.length = 1 → bindArgs (PySem.W.fnOf x x (defArgs st) (defBody st) (defScope st) .none kV doc pm an cdv ct) ⟨us, []⟩ = pure (([a] : List Str).zip us))
    (t : Addr → Addr → TS) (hp : ∀ (e C : Addr) (nm : Str) (H : Hp) (Q : VK), W C nm → (∀ H', Ex H H' → Q (.str nm) H') → t e C (dn Q) (L2.start N [.ref e]) H)
    (hd : ∀ (g : Addr) (cdv : Value) (A : Around) (outer : List Env) (s : Shared) (H : Hp) (p : Addr × Obj) (C : Addr), (∃ nm, W C nm) → Hot1 A p → RoomH j (A.deeper (envOfC x (defScope st) s.heap.objs.size g cdv)) → Zc (.ref C) none p.2 →
      PSs (cxH (CXN P w) P w K mg base N x (defScope st) g cdv A outer s H E0 p) (defBody st) (t p.1 C)) : WordOk P w K mg base (j + 1) x a W := by
  obtain ⟨g, fd, Fn, hm⟩ := D.ex
  obtain ⟨oc, od, kV, doc, pm, an, cdv, ct, osl, rfl, lk, hcd⟩ := Fn.ex
  refine ⟨g, _, hm, Fn.kp, Fn.binds hb, fun A outer s H args Q p C nm room hot pin env0 bind z hw q => ?_⟩
  exact hot_body lk hcd F (vs := [.ref p.1]) (us := [.ref p.1]) room pin env0 bind (.cons rfl .nil) rfl fun rm => ⟨_, hd g cdv A outer s H p C ⟨nm, hw⟩ hot rm z, hp p.1 C nm H Q hw q⟩
section
variable {X : Cx}
/-- a call of such a def in the suite that holds the exception in slot i -/
def tWord (W : Addr → Str → Prop) (a C : Addr) (i : Nat) : TE := fun σ H Q => σ[i]? = some (some (.ref a)) ∧ ∃ nm, W C nm ∧ ∀ H', Ex H H' → Q (.str nm) H'
theorem pe_word {j k i : Nat} {x b y : Str} {W : Addr → Str → Prop} {C : Addr} {pp : Addr × Obj} {p1 p2 pos : Pos} (F : WordOk X.prog X.w X.K X.mg X.base j x b W) (hot : Hot1 X.A pp) (hpn : pp ∈ X.pn) (hr : RoomH k X.A) (hk : j ≤ k) (hz : Zc (.ref C) none pp.2)
    (hg : Gl X x) (hv : PE X (.Name y p2) (tVar i)) (hdb : (x == ("__debug__" : Str)) = false := by decide) :
    PE X (.Call (.Name x p1) [.Name y p2] [] pos) (tWord W pp.1 C i) := by
  obtain ⟨g, fd, hm, hkp, hb, run⟩ := F.ex
  refine ⟨fun pins s σ H Q I h => ?_⟩
  obtain ⟨hs, nm, hw, q⟩ := h
  refine wpAny_Call_Name_kw (ld_glob I hg hm ?_ hdb)
  refine PySem.W.callWith_K (h₀ := X.base) I.ok.mod.kin hkp ?_ (by rfl) (by rfl)
  have ha : PA X [.Name y p2] (tCons (tVar i) tNil) := pa_cons hv pa_nil
  refine thn (ha.run pos pins s σ H (fun vs H1 => vs = [.ref pp.1] ∧ H1 = H) I ⟨_, hs, rfl, rfl⟩) fun us s1 ⟨vs, H1, I1, r1, e1, e2⟩ => ⟨I1.kIn, ?_⟩
  subst e1
  subst e2
  obtain ⟨u, rfl, r2⟩ := Vals.one r1
  cases r2
  have P1 := I1.pin pp (List.mem_append_left _ hpn)
  have pin : PinOk X.stack H1 s1 pp := ⟨P1.1, P1.2.1, fun hm => (List.mem_cons.mp (I1.stkSub pp.1 hm)).elim P1.2.2.1 P1.2.2.2.1, P1.2.2.2.2⟩
  refine wpAny_call (codeAny_mono (run X.A X.stack s1 H1 ⟨[.ref pp.1], []⟩ Q pp C nm (hr.mono hk) hot pin I1.env0 (hb s1 [.ref pp.1] I1.kIn rfl) hz hw q) fun r s2 z => ?_)
  cases r with
  | error e => exact psn pins σ H1 s1 e s2 I1 z
  | ok fl =>
    cases fl with
    | ret u => exact I1.after z
    | next => exact False.elim z
    | brk => exact False.elim z
    | cont => exact False.elim z
end
end Sv

set_option Elab.async false
set_option linter.all false
set_option maxRecDepth 100000
set_option maxHeartbeats 4000000
/-! SvTold: told(lambda: body), where told is: try: return deed() / except S as e: return word(e). -/
namespace Sv
open PySem PySem.Spec PyProof.Rows L2 Evl HotX L2H LamX
/-- the context of the lambda's body, what it raises told with its context -/
abbrev lamN (X : Cx) (A : Around) (outer : List Env) (s : Shared) (H : Hp) (E : XK) (scope : Scope) (f c' : Addr) : Cx :=
  (lamCx X A outer s H E scope f c').wish fun e s' => wpAny (model X.prog X.w) (A.deeper (lamEnv X scope s.heap.objs.size f c')) (leaving (lamEnv X scope s.heap.objs.size f c') e) (fun _ s2 => L2N.CX X.prog X.w outer H s E e s2) (fun e' s2 => L2N.CX X.prog X.w outer H s E e' s2) s'
theorem takesN0 {X : Cx} : L2N.Takes X (fun _ _ _ _ => False) := fun _ _ x => by
  obtain ⟨_, _, _, _, _, _, _, _, _, _, _, _, _, _, _, _, z⟩ := x
  exact z.elim
section
variable {X : Cx} {pins : List (Addr × Obj)} {σ : L2.St} {H : Hp} {s : Shared}
/-- deed(), in the body of told -/
theorem actN {E0' : XK} {Nz : List Str} {qz : Str} {sz : Scope} {z f c' : Addr} {cdz pm ctv : Value} {prs : Arguments} {body : Expr} {scope : Scope} {j i : Nat} {a : Str} {pn : List (Addr × Obj)} {xe : Value → Shared → Prop} {W : WX} {E : XK} {tb : TE} {p1 p2 : Pos}
    (I : L2.Inv X pins σ H s) (L : LamS X.env.scope scope) (obj : s.heap.get? f = some (PySem.W.kla_obj "<lambda>" (X.env.qual ++ "<lambda>") prs body scope (cloFrom X.env.cells scope.names []) pm c' ctv)) (fNo : H f = none) (fFr : f ∉ frs X.stack)
    (bnd : bindArgs (PySem.W.kla_fn "<lambda>" (X.env.qual ++ "<lambda>") prs body scope (cloFrom X.env.cells scope.names []) pm (.ref c') ctv) ⟨[], []⟩ = pure [])
    (tk : L2N.Takes ((cxOf (CXN X.prog X.w) X.prog X.w X.K X.mg X.base Nz qz sz z cdz X.A X.stack s H E0').tr pn xe) W) (room : Room (j + 1) (X.A.deeper (envOfC qz sz s.heap.objs.size z cdz)))
    (bd : ∀ (A : Around) (outer : List Env) (s : Shared) (H : Hp), Room j (A.deeper (lamEnv X scope s.heap.objs.size f c')) → PE (lamN X A outer s H E scope f c') body tb)
    (hN : Nz[i]? = some a) (hv : Vis sz a) (hd : (a == ("__debug__" : Str)) = false := by decide) (hcd : (a == ("__classdict__" : Str)) = false := by decide) :
    PE ((cxOf (CXN X.prog X.w) X.prog X.w X.K X.mg X.base Nz qz sz z cdz X.A X.stack s H E0').tr pn xe) (.Call (.Name a p1) [] [] p2)
      (fun σZ HZ Q => σZ[i]? = some (some (.ref f)) ∧ HZ c' = some (CodeO c' (X.env.qual ++ "<lambda>")) ∧ (∀ cls d H', E cls d H' → W cls d σZ H') ∧ tb σ HZ Q) := by
  refine ⟨fun pz sZ σZ HZ Q IZ h => ?_⟩
  obtain ⟨slot, codeH, hW, ht⟩ := h
  refine wpAny_Call_Name_kw (thn ((pe_var (pos := p1) (i := i) hN hv hd hcd).run pz sZ σZ HZ (fun v H1 => v = .ref f ∧ H1 = HZ) IZ ⟨.ref f, slot, rfl, rfl⟩) fun u s1 ⟨v, H1, I1, r1, e1, e2⟩ => ?_)
  subst e1
  subst e2
  cases r1
  have obj1 : s1.heap.get? f = some (PySem.W.kla_obj "<lambda>" (X.env.qual ++ "<lambda>") prs body scope (cloFrom X.env.cells scope.names []) pm c' ctv) := I1.base.keep f _ obj fNo fFr (fun q => nomatch (show f ∈ ([] : List Addr) from q))
  refine PySem.W.callWith_F0 ⟨_, _, _, _, obj1⟩ ?_
  have un : Un (frs X.stack) [] H H1 s.heap s1.heap := I1.base
  obtain ⟨⟨oc, vs, t, hoc, hdc, hvc⟩, _, _⟩ := I1.hok c' _ codeH
  have rc : codeAny (model X.prog X.w) (X.A.deeper (envOfC qz sz s.heap.objs.size z cdz)) (.call (.ref f) ⟨[], []⟩) (CR (CXN X.prog X.w) (envOfC qz sz s.heap.objs.size z cdz :: X.stack) X.prog X.w H1 s1 Q E) s1 := by
    refine PySem.W.kla_callFunE room.depth obj1 rfl L.co L.gen rfl ⟨c', oc, vs, t, rfl, hoc, hdc, hvc⟩ ?_
    rw [bnd]
    refine wpAny_pure (wpAny_newFunctionEnv (fun y hy => (L.own y hy).2) (fun y hy => absurd hy (by simp)) (fun h₁ names grown => ⟨I1.nolimit.fresh _ grown, ?_⟩) L.kind)
    have kp : ∀ b o, s1.heap.get? b = some o → h₁.get? b = some o := fun b o e => grown.extBut b o (Nat.ne_of_lt (Heap.lt_size e)) (Heap.get?_push_of_some _ e)
    have J := (lam_start2 (E := E) (c' := c') (f := f) (tk := s1.toks + ([] : List (Str × Value)).length) I L I1.env0 room.hd un names kp).wish (lamN X (X.A.deeper (envOfC qz sz s.heap.objs.size z cdz)) (envOfC qz sz s.heap.objs.size z cdz :: X.stack) s1 H1 E scope f c').xe
    refine PySem.W.kla_codeExpr (wpAny_mono ((bd _ _ s1 H1 (room.deeper _)).run [] _ _ H1 Q J ht) (fun v s' q => ?_) fun e s' q => q)
    obtain ⟨w', H', J', rv, q⟩ := q
    exact ⟨w', H', J'.os, J'.bare, J'.base, J'.hok, rv, q⟩
  refine wpAny_call (codeAny_mono rc fun r s' q => ?_)
  cases r with
  | error e => exact tk e s' (L2N.XE.of_call I1 hW q)
  | ok fl =>
    cases fl with
    | ret u => exact I1.after q
    | next => exact False.elim q
    | brk => exact False.elim q
    | cont => exact False.elim q
end
/-- try: return deed() / except S as e: return word(e) -/
abbrev toldB (p1 p2 p3 p4 p5 p6 p7 p8 p9 p10 : Pos) : List Stmt :=
  [.Try [.Return (some (.Call (.Name "_law_deed" p1) [] [] p2)) p3] [.ExceptHandler (some (.Name "SieveError" p4)) (some "_law_e") [.Return (some (.Call (.Name "_law_word" p5) [.Name "_law_e" p6] [] p7)) p8] p9] [] [] p10]
/-- what the text's told is -/
structure ToldAt (P : Program) (w : World) (K : PySem.W.Frag) (mg : Str → Option Value) (base : Heap) (S : Addr) (j : Nat) (W : Addr → Str → Prop) (st : Stmt) : Prop where
  dat : DefAt K mg "_law_told" st
  sco : FnScope ["_law_deed", "_law_e"] ["_law_deed"] (defScope st)
  loc : (defScope st).names.lookup ("_law_e" : Str) = some .local
  loc0 : (defScope st).names.lookup ("_law_deed" : Str) = some .local
  gS : (defScope st).names.lookup ("SieveError" : Str) = some .globalImplicit
  gW : (defScope st).names.lookup ("_law_word" : Str) = some .globalImplicit
  bdy : ∃ p1 p2 p3 p4 p5 p6 p7 p8 p9 p10, defBody st = toldB p1 p2 p3 p4 p5 p6 p7 p8 p9 p10
  bnd : ∀ (kV doc pm : Value) (an : Option Addr) (cdv ct : Value) (us : List Value), us.length = 1 → bindArgs (PySem.W.fnOf "_law_told" "_law_told" (defArgs st) (defBody st) (defScope st) .none kV doc pm an cdv ct) ⟨us, []⟩ = pure ((["_law_deed"] : List Str).zip us)
  wrd : WordOk P w K mg base j "_law_word" "_law_e" W
  mS : mg "SieveError" = some (.ref S)
  exm : ∀ C nm, W C nm → PySem.W.exmOne K (.ref C) (.ref S) = some true
/-- what is wanted of an exception of the deed -/
def ET (W : Addr → Str → Prop) (Q : VK) : XK := fun cls d H => ∃ (C : Addr) (nm : Str), cls = .ref C ∧ d = none ∧ W C nm ∧ ∀ H', Ex H H' → Q (.str nm) H'
/-- told(lambda: body) -/
def tTold (T : List (Addr × Str)) (W : Addr → Str → Prop) (t : XK → TE) : TE := fun σ H Q => Tabs T H ∧ ∀ H1, ExtN H H1 → Tabs T H1 → t (ET W Q) σ H1 Q
section
variable {X : Cx}
theorem pe_told {T : List (Addr × Str)} {S : Addr} {j k : Nat} {W : Addr → Str → Prop} {st : Stmt} {c Pt : Addr} {prs : Arguments} {body : Expr} {scope : Scope} {t : XK → TE} {p lpos pos : Pos} (TD : ToldAt X.prog X.w X.K X.mg X.base S j W st) (hg : Gl X "_law_told")
    (TB : TabB X.base X.mg c Pt) (hcode : X.env.code = .ref c) (hmT : (Pt, X.env.qual ++ "<lambda>") ∈ T) (hu : ∀ p ∈ T, p.1 = Pt → p.2 = X.env.qual ++ "<lambda>") (hr : Room (k + 2) X.A) (hjk : j ≤ k + 1) (L : LamS X.env.scope scope) (hdef : defaultsOf prs X.env = ([], []))
    (hbind : ∀ (q : Str) (cl : List (Str × Addr)) (pm cv ctv : Value), bindArgs (PySem.W.kla_fn "<lambda>" q prs body scope cl pm cv ctv) ⟨[], []⟩ = pure [])
    (bd : ∀ (A : Around) (outer : List Env) (s : Shared) (H : Hp) (E : XK) (f c' : Addr), Room k (A.deeper (lamEnv X scope s.heap.objs.size f c')) → PE (lamN X A outer s H E scope f c') body (t E)) :
    PE X (.Call (.Name "_law_told" p) [.Lambda prs body scope lpos] [] pos) (tTold T W t) := by
  obtain ⟨g, fd, Fn, hm⟩ := TD.dat.ex
  obtain ⟨oc, od, kV, doc, pm0, an, cdv, ct, osl, rfl, lk, hcd⟩ := Fn.ex
  obtain ⟨q1, q2, q3, q4, q5, q6, q7, q8, q9, q10, eb⟩ := TD.bdy
  refine ⟨fun pins s σ H Q I h => ?_⟩
  obtain ⟨hT, h⟩ := h
  refine wpAny_Call_Name_kw (ld_glob I hg hm ?_)
  refine PySem.W.callWith_K (h₀ := X.base) I.ok.mod.kin Fn.kp ?_ (by rfl) (by rfl)
  show wpAny _ _ (spliced ((false, eval (.Lambda prs body scope lpos) X.env) :: backTo pos (starEach [] X.env))) _ _ s
  refine Calls.spliced_cons (lam_make2 I TB hcode hmT hu hT hdef (L.has I.ok) fun f c' pm' ctv H1 s' I1 eN T1 obj fNo fFr hco => ?_)
  refine Calls.spliced_nil ⟨I1.kIn, ?_⟩
  have rc : codeAny (model X.prog X.w) X.A (.call (.ref g) ⟨[.ref f], []⟩) (CR (CXN X.prog X.w) X.stack X.prog X.w H1 s' Q E0) s' := by
    refine run_ofS (CX := CXN X.prog X.w) (N := ["_law_deed", "_law_e"]) (ps := ["_law_deed"]) (us := [.ref f]) (vs := [.ref f]) lk hcd TD.sco hr I1.env0 ((Fn.binds (ps := ["_law_deed"]) TD.bnd) s' [.ref f] I1.kIn rfl) (.cons rfl .nil) rfl fun hr' => ?_
    rw [eb]
    have hd : (cxOf (CXN X.prog X.w) X.prog X.w X.K X.mg X.base ["_law_deed", "_law_e"] "_law_told" (defScope st) g cdv X.A X.stack s' H1 E0).A = X.A.deeper (envOfC "_law_told" (defScope st) s'.heap.objs.size g cdv) := rfl
    have nm : Names (cxOf (CXN X.prog X.w) X.prog X.w X.K X.mg X.base ["_law_deed", "_law_e"] "_law_told" (defScope st) g cdv X.A X.stack s' H1 E0) "SieveError" (.ref S) := ⟨TD.gS, by decide, .inl TD.mS⟩
    refine ⟨_, pss_one (L2N.ps_try_as (X := cxOf (CXN X.prog X.w) X.prog X.w X.K X.mg X.base ["_law_deed", "_law_e"] "_law_told" (defScope st) g cdv X.A X.stack s' H1 E0) (i := 1) (Wout := fun _ _ _ _ => False)
      (tb := fun W' D σ' H' => ∃ Ech : XK, (∀ cls d H2, Ech cls d H2 → W' cls d σ' H2) ∧ σ'[0]? = some (some (.ref f)) ∧ H' c' = some (CodeO c' (X.env.qual ++ "<lambda>")) ∧ t Ech σ H' D.rt)
      (ts := fun a cls d D σ' H' => ∃ (C : Addr) (nm : Str), cls = .ref C ∧ d = none ∧ W C nm ∧ σ'[1]? = some (some (.ref a)) ∧ ∀ H2, Ex H' H2 → D.rt (.str nm) H2)
      rfl rfl TD.sco.nd rfl TD.loc nm takesN0 (fun W' pn xe tk _ => ?_) (fun a oe cls d pn hz hf => ?_)), ?_⟩
    · refine ⟨fun pz s2 σ' H' D I2 h' => ?_⟩
      obtain ⟨Ech, hW, h1, h2, h3⟩ := h'
      have hp := actN (i := 0) (E := Ech) (p1 := q1) (p2 := q2) I1 L obj fNo fFr (hbind _ _ _ _ _) tk hr' (fun A outer s H hr2 => bd A outer s H Ech f c' hr2) rfl (Or.inl TD.loc0)
      exact (pss_one (ps_ret (pos := q3) hp)).run pz s2 σ' H' D I2 ⟨h1, h2, hW, h3⟩
    · refine ⟨fun pz s2 σ' H' D I2 h' => ?_⟩
      obtain ⟨C, nm, rfl, rfl, hw, h1, h2⟩ := h'
      obtain ⟨vs, hvs⟩ := hf
      have hot : Hot1 (Cx.suite (cxOf (CXN X.prog X.w) X.prog X.w X.K X.mg X.base ["_law_deed", "_law_e"] "_law_told" (defScope st) g cdv X.A X.stack s' H1 E0) a ((a, oe) :: pn)).A (a, oe) := ⟨rfl, vs, hvs, hz.2.2 vs hvs⟩
      have hrm : RoomH (k + 1) (Cx.suite (cxOf (CXN X.prog X.w) X.prog X.w X.K X.mg X.base ["_law_deed", "_law_e"] "_law_told" (defScope st) g cdv X.A X.stack s' H1 E0) a ((a, oe) :: pn)).A := ⟨hr'.dp, hr'.un⟩
      have hpe := pe_word (X := Cx.suite (cxOf (CXN X.prog X.w) X.prog X.w X.K X.mg X.base ["_law_deed", "_law_e"] "_law_told" (defScope st) g cdv X.A X.stack s' H1 E0) a ((a, oe) :: pn)) (i := 1) (p1 := q5) (p2 := q6) (pos := q7) (C := C) TD.wrd hot List.mem_cons_self hrm hjk ⟨hz.1, hz.2.1⟩ TD.gW (pv 1 rfl (Or.inl TD.loc))
      exact (pss_one (ps_ret (pos := q8) hpe)).run pz s2 σ' H' D I2 ⟨h1, nm, hw, h2⟩
    · refine ⟨ET W Q, fun cls d H2 ⟨C, nm, e1, e2, hw, q⟩ => ⟨true, ?_, fun _ a _ => ⟨C, nm, e1, e2, hw, rfl, q⟩, fun z => (by cases z)⟩, rfl, hco, h H1 eN T1⟩
      rw [e1]
      exact TD.exm C nm hw
  refine wpAny_call (codeAny_mono rc fun r s2 q => ?_)
  cases r with
  | error e => exact psn pins σ H1 s' e s2 I1 q
  | ok fl =>
    cases fl with
    | ret u => exact I1.after q
    | next => exact False.elim q
    | brk => exact False.elim q
    | cont => exact False.elim q
end
end Sv
namespace Sv
open PySem PySem.Spec PyProof.Rows L2 Evl LamX
/-! ### defs that make lambdas: their code object is told -/
structure FunC (K : PySem.W.Frag) (x qual : Str) (st : Stmt) (f : Addr) (fd : FuncData) (c : Addr) : Prop where
  ex : ∃ (oc : Value) (od : Option Addr) (kV doc pm : Value) (an : Option Addr) (ct : Value) (osl : Array (Option Value)),
    fd = PySem.W.fnOf x qual (defArgs st) (defBody st) (defScope st) .none kV doc pm an (.ref c) ct ∧ K.lookup f = some ⟨oc, od, .func fd, osl⟩ ∧ PySem.W.codeIn K (.ref c) qual = true
  kp : PySem.W.keepIn K (.ref f) = true
structure DefAtC (K : PySem.W.Frag) (mg : Str → Option Value) (x : Str) (st : Stmt) (c : Addr) : Prop where
  ex : ∃ (f : Addr) (fd : FuncData), FunC K x x st f fd c ∧ mg x = some (.ref f)
section
variable {P : Program} {w : World} {K : PySem.W.Frag} {mg : Str → Option Value} {base : Heap} {CT : CXT} {x : Str} {st : Stmt} {N ps : List Str} {k : Nat} {sp : Sp} {c : Addr}
theorem funC_mk {f : Addr} {od an : Option Addr} {sl : Array (Option Value)} {oc kV dc pm ct : Value} (l : K.lookup f = some ⟨oc, od, .func (PySem.W.fnOf x x (defArgs st) (defBody st) (defScope st) .none kV dc pm an (.ref c) ct), sl⟩)
    (cd : PySem.W.codeIn K (.ref c) x = true) (kp : PySem.W.keepIn K (.ref f) = true) : FunC K x x st f (PySem.W.fnOf x x (defArgs st) (defBody st) (defScope st) .none kV dc pm an (.ref c) ct) c := ⟨⟨_, _, _, _, _, _, _, _, rfl, l, cd⟩, kp⟩
theorem mk_fnC {f : Addr} {fd : FuncData} (F : FunC K x x st f fd c) (S : FnScope N ps (defScope st)) (len : ∀ vs H Q E, sp vs H Q E → vs.length = ps.length) (t : XK → TS) (hp : ∀ vs H Q E, sp vs H Q E → t E (dn Q) (start N vs) H)
    (hd : ∀ (A : Around) (outer : List Env) (s : Shared) (H : Hp) (E : XK), Room k (A.deeper (envOfC x (defScope st) s.heap.objs.size f (.ref c))) → PSs (cxOf CT P w K mg base N x (defScope st) f (.ref c) A outer s H E) (defBody st) (t E)) :
    FnOk P w K mg base CT (k + 1) f fd ps sp := by
  obtain ⟨oc, od, kV, doc, pm, an, ct, osl, rfl, lk, hcd⟩ := F.ex
  exact fn_of lk hcd S len fun A outer s H vs Q E hr hsp => ⟨t E, hd A outer s H E hr, hp vs H Q E hsp⟩
theorem mk_okC (D : DefAtC K mg x st c) (S : FnScope N ps (defScope st))
    (hb : ∀ (kV doc pm : Value) (an : Option Addr) (cdv ct : Value) (us : List Value), us.length = ps.length → bindArgs (PySem.W.fnOf x x (defArgs st) (defBody st) (defScope st) .none kV doc pm an cdv ct) ⟨us, []⟩ = pure (ps.zip us))
    (len : ∀ vs H Q E, sp vs H Q E → vs.length = ps.length) (t : XK → TS) (hp : ∀ vs H Q E, sp vs H Q E → t E (dn Q) (start N vs) H)
    (hd : ∀ (f : Addr) (A : Around) (outer : List Env) (s : Shared) (H : Hp) (E : XK), Room k (A.deeper (envOfC x (defScope st) s.heap.objs.size f (.ref c))) → PSs (cxOf CT P w K mg base N x (defScope st) f (.ref c) A outer s H E) (defBody st) (t E)) :
    Ok P w K mg base CT (k + 1) x ps sp := by
  obtain ⟨f, fd, F, hm⟩ := D.ex
  obtain ⟨oc, od, kV, doc, pm, an, ct, osl, rfl, lk, hcd⟩ := F.ex
  exact ⟨f, _, fn_of lk hcd S len fun A outer s H vs Q E hr hsp => ⟨t E, hd f A outer s H E hr, hp vs H Q E hsp⟩, hm, F.kp, .all (hb kV doc pm an (.ref c) ct)⟩
end
/-- the table of code objects of the def nm is empty at h -/
def TabOf (K : PySem.W.Frag) (mg : Str → Option Value) (h : Heap) (nm : Str) : Prop := ∀ (g c Pt : Addr) (o : Obj) (fd : FuncData) (e : Value) (dd : Option Addr) (vs : Array Value) (sl : Array (Option Value)),
  mg nm = some (.ref g) → K.lookup g = some o → o.data = .func fd → fd.code = .ref c → K.lookup c = some ⟨e, dd, .fields vs, sl⟩ → vs[11]? = some (.ref Pt) → h.get? Pt = some { cls := .none, data := .fields #[] }
/-- what the law gets: the script, its tables -/
def LawR (G : Pm) (T : List (Addr × Str)) : R1 := fun v H Q _ => ∃ (a : Addr) (ns : List Int), v = .ref a ∧ SqL G.K H a (ns.map V.int) ∧ ns.length ≤ 63 ∧ (∀ z ∈ ns, Builtin.Int.intBits z ≤ 1048576) ∧ Tabs T H ∧ ∀ H', Q (.bl true) H'
theorem walk_told {l : PySem.W.OpenLaw} {k : Nat} {q : Program} {loose : List Str} {XP : (Str → Option Value) → Heap → Prop} {YP : World → Heap → Prop} {d : DefRec} {K : Params → PySem.W.Frag} {x : Str}
    (hn : l.most = some 63) (hdf : d.params.defaults = []) (hr : Room k callerA) (hY : ∀ (w : World) (h : Heap), YP w h → (K w.params).In h)
    (F : ∀ (w : World) (mg : Str → Option Value) (fa : Addr) (h : Heap), (K w.params).In h → h.Ns mainGlobals mg → mg d.name = some (.ref fa) → (∀ nm, ((recsOf q).any fun e => e.name == nm) = true → TabOf (K w.params) mg h nm) →
      ∃ (G : Pm) (fd : FuncData) (cs : List (Addr × Addr × Str)), G.K = K w.params ∧ (∀ p ∈ cs, h.get? p.2.1 = some { cls := .none, data := .fields #[] }) ∧ (∀ p ∈ cs, G.K.lookup p.2.1 = none) ∧ (∀ p ∈ cs, PySem.W.CodeHd h p.1 p.2.1) ∧
        (∀ (s : Shared) (u : Value), BindsTo s fd ⟨[u], []⟩ [(x, u)]) ∧
        ∀ base : Heap, G.K.In base → base.Ns mainGlobals mg → (∀ p ∈ cs, TabB base mg p.1 p.2.1) → FnOk l.prog w G.K mg base (CXN l.prog w) k fa fd [x] (sp1 (LawR G (cs.map fun p => p.2)))) :
    PySem.W.WalkO q loose XP YP l.row.toRowW d [] (fun f vs => PySem.call f vs) := by
  refine Att.attach_callB hn hdf fun w s₀ s₁ mg mb fa o pm cd doc a vs ns B Y ho hd hcd hmg hobj hints hlen hbits hg => ?_
  have KX := hY w _ Y
  have tabs : ∀ nm, ((recsOf q).any fun e => e.name == nm) = true → TabOf (K w.params) mg s₁.heap nm := fun nm hr g c Pt o1 fd1 e dd ws sl k0 k1 k2 k3 k4 k5 => by
    obtain ⟨dL, hm, hn1⟩ := List.any_eq_true.mp hr
    have hn2 : dL.name = nm := beq_iff_eq.mp hn1
    obtain ⟨a', o', fd', c', P', h1, h2, h3, h4, h5, h6⟩ := B.T.tab dL hm
    rw [hn2, k0] at h1
    cases h1
    rw [KX _ _ k1] at h2
    cases h2
    rw [k2] at h3
    cases h3
    rw [k3] at h4
    cases h4
    obtain ⟨⟨oc, vc, e1, _, e3, e4⟩, hP⟩ := h6
    rw [KX _ _ k4] at e1
    cases e1
    cases e3
    rw [k5] at e4
    cases e4
    exact hP
  obtain ⟨G, fd, cs, eG, hT, nT, C, hb, hF⟩ := F w mg fa _ KX B.T.g hmg tabs
  have mem : ∀ p ∈ cs.map (fun p => (p.1, p.2.1)), ∃ r ∈ cs, p = (r.1, r.2.1) := fun p hp => by
    obtain ⟨r, hr, e⟩ := List.mem_map.mp hp
    exact ⟨r, hr, e.symm⟩
  refine law_callTs (K := G.K) (cs := cs.map fun p => (p.1, p.2.1)) (by rw [eG]; exact KX) B.T.g B.T.b B.T.builtins B.T.nolimit hg ?_ ?_ ?_ B.T.bmain hobj hints (Nat.le_trans hlen (by decide)) hr (fun base h1 h2 h3 => hF base h1 h2 fun p hp => h3 _ (List.mem_map.mpr ⟨p, hp, rfl⟩)) hb (fun H hH hS => ⟨a, ns, rfl, hS, hlen, hbits, fun p hp => ?_, fun _ => rfl⟩) ?_
  · intro p hp
    obtain ⟨r, hr, rfl⟩ := mem p hp
    exact hT r hr
  · intro p hp
    obtain ⟨r, hr, rfl⟩ := mem p hp
    exact nT r hr
  · intro p hp
    obtain ⟨r, hr, rfl⟩ := mem p hp
    exact C r hr
  · obtain ⟨r, hr, rfl⟩ := List.mem_map.mp hp
    exact TabS.nil (hH (r.1, r.2.1) (List.mem_map.mpr ⟨r, hr, rfl⟩))
  · intro H e s' z
    obtain ⟨_, _, _, _, _, _, _, _, _, _, _, _, y⟩ := z
    exact y
end Sv

set_option Elab.async false
set_option linter.all false
set_option maxRecDepth 100000
set_option maxHeartbeats 4000000
/-! SvErr: the program's own errors, looked at as a whole: one equation that the kernel decides. -/
namespace Sv
open PySem PySem.Spec PyProof.Rows L2 Evl LamX
def errOk (K : PySem.W.Frag) (S c : Addr) : Bool :=
  PySem.W.excIn K c [.type "ValueError", .type "Exception", .type "BaseException", .type "object"] "ValueError.__new__" && (PySem.W.keepIn K (.ref c) && (decide (PySem.W.subIn K (.ref c) (.type "BaseException") = some true) && (decide (PySem.W.typeIn K (.ref c) = some (.type "type")) &&
  (decide (PySem.W.findIn K (.ref c) "__getattribute__" = some (some (.builtin "BaseException.__getattribute__"))) && (decide (PySem.W.findIn K (.ref c) "__getattr__" = some none) && (PySem.W.hasDictIn K c && (decide (PySem.W.findIn K (.ref c) "__class__" = some (some (.builtin "object.__class__"))) &&
  (decide (PySem.W.specialIn K (.builtin "object.__class__") "__get__" = some (some (.builtin "getset_descriptor.__get__"))) && (decide (PySem.W.takesIn K (.builtin "object.__class__") = some true) && (decide (PySem.W.mroIn K c (.type "object") = some true) &&
  (decide (PySem.W.kitOne K (.ref c) (.type "ValueError") = some true) && decide (PySem.W.exmOne K (.ref c) (.ref S) = some true))))))))))))
def errsB (K : PySem.W.Frag) (S : Addr) (cs : List Addr) : Bool := cs.all (errOk K S) && ((cs.all fun c => cs.all fun d => decide (PySem.W.kitOne K (.ref c) (.ref d) = some (decide (c = d)))) && decide cs.Nodup)
structure ErrX (K : PySem.W.Frag) (S c : Addr) : Prop where
  xC : PySem.W.excIn K c [.type "ValueError", .type "Exception", .type "BaseException", .type "object"] "ValueError.__new__" = true
  kC : PySem.W.keepIn K (.ref c) = true
  bC : PySem.W.subIn K (.ref c) (.type "BaseException") = some true
  tC : PySem.W.typeIn K (.ref c) = some (.type "type")
  ex : ExcC K c
  ve : PySem.W.kitOne K (.ref c) (.type "ValueError") = some true
  ma : PySem.W.exmOne K (.ref c) (.ref S) = some true
theorem errX_of {K : PySem.W.Frag} {S c : Addr} (h : errOk K S c = true) : ErrX K S c := by
  unfold errOk at h
  simp only [Bool.and_eq_true, decide_eq_true_eq] at h
  obtain ⟨h1, h2, h3, h4, h5, h6, h7, h8, h9, h10, h11, h12, h13⟩ := h
  exact ⟨h1, h2, h3, h4, ⟨h5, h6, h3, h7, h8, h9, h10, h11⟩, h12, h13⟩
structure ErrsOk (K : PySem.W.Frag) (S : Addr) (cs : List Addr) : Prop where
  one : ∀ c ∈ cs, ErrX K S c
  two : ∀ c ∈ cs, ∀ d ∈ cs, PySem.W.kitOne K (.ref c) (.ref d) = some (decide (c = d))
  nd : cs.Nodup
theorem errsOk_of {K : PySem.W.Frag} {S : Addr} {cs : List Addr} (h : errsB K S cs = true) : ErrsOk K S cs := by
  unfold errsB at h
  simp only [Bool.and_eq_true, List.all_eq_true, decide_eq_true_eq] at h
  exact ⟨fun c hc => errX_of (h.1 c hc), h.2.1, h.2.2⟩
theorem ErrX.at {K : PySem.W.Frag} {S c : Addr} {mg : Str → Option Value} {x : Str} (h : ErrX K S c) (g : mg x = some (.ref c)) : ErrAt K mg x c := ⟨g, h.xC, h.kC, h.bC, h.tC⟩
section
variable {K : PySem.W.Frag} {σ : L2.St} {H : Hp} {ta tb : TE} {C D e l : Addr} {b : Bool} {xs ys : List V}
theorem ev_isE {i : Nat} (h : σ[i]? = some (some (.ref e))) (k : PySem.W.kitOne K (.ref C) (.ref D) = some b) : Ev (tCB (rIsE K C e) (tCons (tVar i) (tCons (tC (.ref D)) tNil))) σ H (.bl b) :=
  ev_cb (ea_cons (ev_var h) (ea_cons ev_c ea_nil)) fun H1 _ Q q => ⟨.ref D, .ref D, b, rfl, fun u r => r, k, q H1 (Ex.refl H1)⟩
theorem ev_isET {i : Nat} {n : String} (h : σ[i]? = some (some (.ref e))) (k : PySem.W.kitOne K (.ref C) (.type n) = some b) : Ev (tCB (rIsE K C e) (tCons (tVar i) (tCons (tC (.ty n)) tNil))) σ H (.bl b) :=
  ev_cb (ea_cons (ev_var h) (ea_cons ev_c ea_nil)) fun H1 _ Q q => ⟨.ty n, .type n, b, rfl, fun u r => r, k, q H1 (Ex.refl H1)⟩
/-- xs + ys, a list that is tracked and a new one -/
theorem el_cat (ha : Ev ta σ H (.ref l)) (hl : H l = some (.lst xs)) (hb : EvL tb σ H ys) (hz : xs.length + ys.length ≤ 100000) : EvL (tOp rCat ta tb) σ H (xs ++ ys) :=
  fun H1 ex Q q => ha H1 ex _ fun H2 e2 => hb H2 (ex.trans e2) _ fun p H3 _ e3 h3 => ⟨l, p, xs, ys, rfl, rfl, (ex.trans (e2.trans e3)) l _ hl, h3, sz_of hz, fun r hr => q r _ (fresh_back (e2.trans e3) hr) ((e2.trans e3).trans (Ex.new hr)) upd_same⟩
theorem el_intsH {bs : List Bool} (ha : Ev ta σ H (.ref l)) (hl : SqL K H l (bs.map V.bl)) : EvL (tIntsH K ta) σ H (bs.map fun b => V.int (if b then 1 else 0)) :=
  fun H1 ex Q q => ha H1 ex _ fun H2 e2 => ⟨l, bs, rfl, ex_l (ex.trans e2) hl, fun D hD => q D _ (fresh_back e2 hD) (e2.trans (Ex.new hD)) upd_same⟩
theorem ev_sumB {bs : List Bool} (ha : EvL ta σ H (bs.map fun b => V.int (if b then 1 else 0))) : Ev (tCB (rSum K) (tCons ta tNil)) σ H (.int ((bs.map fun b => (if b then 1 else 0 : Int)).sum)) :=
  ev_sumN (ns := bs.map fun b => (if b then 1 else 0 : Int)) (el_eq ha (by rw [List.map_map]; rfl))
/-- flags.index(True) -/
theorem ev_idx {bs : List Bool} {j : Nat} (ha : Ev ta σ H (.ref l)) (hl : SqL K H l (bs.map V.bl)) (h1 : bs[j]? = some true) (h2 : ∀ m, m < j → bs[m]? = some false) : Ev (tBM K "list" (rIndex K) ta (tCons (tC (.bl true)) tNil)) σ H (.int (j : Int)) :=
  fun H1 ex Q q => ha H1 ex _ fun H2 e2 => ⟨.inl ⟨rfl, _, ex_l (ex.trans e2) hl⟩, l, bs.map V.bl, .bl true, j, .bl true, rfl, rfl, ex_l (ex.trans e2) hl, rfl, by rw [List.all_map]; exact List.all_eq_true.mpr fun _ _ => rfl, by rw [List.getElem?_map, h1]; rfl, rfl, fun m z' hm hz => by
    rw [List.getElem?_map, h2 m hm] at hz
    rw [← Option.some.inj hz]
    rfl, q H2 e2⟩
end
end Sv

set_option Elab.async false
set_option linter.all false
set_option maxRecDepth 100000
set_option maxHeartbeats 4000000
/-! SvNx: what is known goes on past what is told (NX); lists repeated, put end to end; calls that hand lists back. -/
namespace Sv
open PySem PySem.Spec PyProof.Rows L2 Evl HotX L2H LamX
section
variable {K : PySem.W.Frag} {σ : L2.St} {H H' H1 H2 : Hp} {ta tb te tc : TE} {x y z v : V} {a p : Addr} {xs ys : List V} {T : List (Addr × Str)} {D : Ends} {tz : TS} {W : Addr → Str → Prop} {t : XK → TE} {Q : VK}
abbrev rIsBl : R2 := fun x y H Q => ∃ a b, x = .bl a ∧ y = .bl b ∧ Q (.bl (decide (a = b))) H
abbrev rNotBl : R2 := fun x y H Q => ∃ a b, x = .bl a ∧ y = .bl b ∧ Q (.bl (!decide (a = b))) H
theorem rv_isB {i j : Bool} : RV rIsBl (.bl i) (.bl j) H (.bl (decide (i = j))) := fun H1 _ Q q => ⟨i, j, rfl, rfl, q H1 (Ex.refl H1)⟩
theorem rv_notB {i j : Bool} : RV rNotBl (.bl i) (.bl j) H (.bl (!decide (i = j))) := fun H1 _ Q q => ⟨i, j, rfl, rfl, q H1 (Ex.refl H1)⟩
/-- all but the tables of code objects stays, and these tables stand -/
def NX (T : List (Addr × Str)) (H H' : Hp) : Prop := ExtN H H' ∧ Tabs T H'
theorem NX.refl (h : Tabs T H) : NX T H H := ⟨ExtN.refl H, h⟩
theorem NX.trans (a : NX T H H1) (b : NX T H1 H2) : NX T H H2 := ⟨a.1.trans b.1, b.2⟩
theorem NX.ex (a : NX T H H1) (e : Ex H1 H2) : NX T H H2 := ⟨a.1.trans (ExtN.of e), a.2.ext e⟩
theorem nx_of (h : Tabs T H) (e : Ex H H1) : NX T H H1 := (NX.refl h).ex e
theorem NX.o (n : NX T H H') (h : H a = some (.lst xs)) : H' a = some (.lst xs) := n.1 a _ h fun ps z => by cases z
theorem NX.tu (n : NX T H H') (h : H a = some (.tup xs)) : H' a = some (.tup xs) := n.1 a _ h fun ps z => by cases z
theorem nx_rdl (n : ExtN H H') (h : Rd H a (.lst xs)) : Rd H' a (.lst xs) := by
  rcases h with h | ⟨o, h⟩
  · exact .inl (n a _ h fun ps z => by cases z)
  · exact .inr ⟨o, n a _ h fun ps z => by cases z⟩
theorem nx_rdt (n : ExtN H H') (h : Rd H a (.tup xs)) : Rd H' a (.tup xs) := by
  rcases h with h | ⟨o, h⟩
  · exact .inl (n a _ h fun ps z => by cases z)
  · exact .inr ⟨o, n a _ h fun ps z => by cases z⟩
theorem NX.l (n : NX T H H') (h : SqL K H a xs) : SqL K H' a xs := by
  rcases h with h | h
  · exact .inl (nx_rdl n.1 h)
  · exact .inr h
theorem NX.tq (n : NX T H H') (h : SqT K H a xs) : SqT K H' a xs := by
  rcases h with h | h
  · exact .inl (nx_rdt n.1 h)
  · exact .inr h
theorem told_go (hT : Tabs T H) (h : ∀ H1, NX T H H1 → t (ET W Q) σ H1 Q) : tTold T W t σ H Q := ⟨hT, fun H1 n1 t1 => h H1 ⟨n1, t1⟩⟩
theorem et_go {C : Addr} {nm : Str} (w : W C nm) (h : ∀ H2, Ex H H2 → Q (.str nm) H2) : ET W Q (.ref C) none H := ⟨C, nm, rfl, rfl, w, h⟩
/-- x = told(lambda: ..) -/
theorem q_told {i : Nat} (hT : Tabs T H) (h : ∀ H1, NX T H H1 → t (ET W fun v H2 => tz D (σ.set i (some v)) H2) σ H1 fun v H2 => tz D (σ.set i (some v)) H2) : tSeq (tAsg (tTold T W t) (gName i)) tz D σ H := ⟨hT, fun H1 n1 t1 => h H1 ⟨n1, t1⟩⟩
/-- a told value: what it is, whatever comes -/
def Tl (T : List (Addr × Str)) (te : TE) (σ : L2.St) (H : Hp) (v : V) : Prop := ∀ H1, NX T H H1 → ∀ Q : VK, (∀ H2, NX T H1 H2 → Q v H2) → te σ H1 Q
theorem tl_ev (h : ∀ H1, NX T H H1 → Ev te σ H1 v) : Tl T te σ H v := fun H1 n Q q => h H1 n H1 (Ex.refl H1) Q fun H2 e => q H2 (nx_of n.2 e)
theorem tl_told (h : ∀ H1, NX T H H1 → ∀ Q : VK, (∀ H2, NX T H1 H2 → Q v H2) → t (ET W Q) σ H1 Q) : Tl T (tTold T W t) σ H v := fun H1 n Q q => ⟨n.2, fun H2 n2 t2 => h H2 (n.trans ⟨n2, t2⟩) Q fun H3 n3 => q H3 (NX.trans ⟨n2, t2⟩ n3)⟩
theorem tl_op {r : R2} (ha : Tl T ta σ H x) (hb : Tl T tb σ H y) (hr : ∀ H1, NX T H H1 → RV r x y H1 z) : Tl T (tOp r ta tb) σ H z := fun H1 n Q q => ha H1 n _ fun H2 n2 => hb H2 (n.trans n2) _ fun H3 n3 => hr H3 ((n.trans n2).trans n3) H3 (Ex.refl H3) Q fun H4 e4 => q H4 ((n2.trans n3).ex e4)
theorem tl_var {i : Nat} (h : σ[i]? = some (some v)) : Tl T (tVar i) σ H v := tl_ev fun _ _ => ev_var h
theorem tl_c : Tl T (tC v) σ H v := tl_ev fun _ _ => ev_c
theorem q_tl {i : Nat} (hT : Tabs T H) (h : Tl T te σ H v) (k : ∀ H1, NX T H H1 → tz D (σ.set i (some v)) H1) : tSeq (tAsg te (gName i)) tz D σ H := h H (NX.refl hT) _ k
/-- tests -/
def TlT (T : List (Addr × Str)) (tt : TT) (σ : L2.St) (H : Hp) (b : Bool) : Prop := ∀ H1, NX T H H1 → ∀ Q : Bool → Hp → Prop, (∀ H2, NX T H1 H2 → Q b H2) → tt σ H1 Q
theorem tlt_of {u : TT} {b : Bool} (h : ∀ H1, NX T H H1 → EvT u σ H1 b) : TlT T u σ H b := fun H1 n Q q => h H1 n H1 (Ex.refl H1) Q fun H2 e => q H2 (nx_of n.2 e)
theorem tlt_test {b : Bool} (h : Tl T te σ H (.bl b)) : TlT T (tTest te) σ H b := fun H1 n _ q => h H1 n _ fun H2 e2 => ⟨b, rfl, q H2 e2⟩
theorem tlt_not {u : TT} {b : Bool} (h : TlT T u σ H b) : TlT T (tNot u) σ H (!b) := fun H1 n _ q => h H1 n _ fun H2 e2 => q H2 e2
theorem tlt_or {u w : TT} {a b : Bool} (h1 : TlT T u σ H a) (h2 : a = false → TlT T w σ H b) : TlT T (tOr u w) σ H (a || b) := fun H1 n Q q => h1 H1 n _ fun H2 n2 => by
  cases a with
  | true => exact q H2 n2
  | false => exact h2 rfl H2 (n.trans n2) Q fun H3 n3 => q H3 (n2.trans n3)
theorem tlt_and {u w : TT} {a b : Bool} (h1 : TlT T u σ H a) (h2 : a = true → TlT T w σ H b) : TlT T (tAnd u w) σ H (a && b) := fun H1 n Q q => h1 H1 n _ fun H2 n2 => by
  cases a with
  | true => exact h2 rfl H2 (n.trans n2) Q fun H3 n3 => q H3 (n2.trans n3)
  | false => exact q H2 n2
theorem tlt_is {u : TT} {a b : Bool} (h : TlT T u σ H a) (e : a = b) : TlT T u σ H b := e ▸ h
theorem qn_when {u : TT} {tu : TS} {b : Bool} (hT : Tabs T H) (h : TlT T u σ H b) (h1 : b = true → ∀ H1, NX T H H1 → tu { D with nx := tz D } σ H1) (h2 : b = false → ∀ H1, NX T H H1 → tz D σ H1) : tSeq (tIfS u tu tNext) tz D σ H := h H (NX.refl hT) _ fun H1 n => by
  cases b with
  | true => exact h1 rfl H1 n
  | false => exact h2 rfl H1 n
theorem sn_when {u : TT} {tu : TS} {b : Bool} (hT : Tabs T H) (h : TlT T u σ H b) (h1 : b = true → ∀ H1, NX T H H1 → tu D σ H1) (h2 : b = false → ∀ H1, NX T H H1 → D.nx σ H1) : tIfS u tu tNext D σ H := h H (NX.refl hT) _ fun H1 n => by
  cases b with
  | true => exact h1 rfl H1 n
  | false => exact h2 rfl H1 n
/-! ### lists -/
theorem rep_flat (n : Nat) (x : V) : (List.replicate n [x]).flatten = List.replicate n x := by
  induction n with
  | zero => rfl
  | succ n ih => rw [List.replicate_succ, List.flatten_cons, ih]; rfl
theorem el_rep {n : Nat} (ha : EvL ta σ H [x]) (hb : Ev tb σ H (.int (n : Int))) (hn : n ≤ 100000) : EvL (tOp rRep ta tb) σ H (List.replicate n x) :=
  fun H1 ex Q q => ha H1 ex _ fun p H2 h2 e2 hp => hb H2 (ex.trans e2) _ fun H3 e3 => ⟨p, (n : Int), [x], rfl, rfl, e3 p _ hp, by omega, by omega, sz_of (by simpa using hn), fun r hr => q r _ (fresh_back (e2.trans e3) hr) ((e2.trans e3).trans (Ex.new hr)) (by
    rw [Int.toNat_natCast, rep_flat]
    exact upd_same)⟩
theorem el_catN (ha : EvL ta σ H xs) (hb : ∀ H1, Ex H H1 → EvL tb σ H1 ys) (hz : xs.length + ys.length ≤ 100000) : EvL (tOp rCat ta tb) σ H (xs ++ ys) :=
  fun H1 ex Q q => ha H1 ex _ fun l H2 _ e2 hl => hb H2 (ex.trans e2) H2 (Ex.refl H2) _ fun p H3 _ e3 h3 => ⟨l, p, xs, ys, rfl, rfl, e3 l _ hl, h3, sz_of hz, fun r hr => q r _ (fresh_back (e2.trans e3) hr) ((e2.trans e3).trans (Ex.new hr)) upd_same⟩
theorem cut_1 : cutV xs (some 1) none = xs.drop 1 := by
  unfold cutV
  have h : HT.sIx xs.length 0 (some 1) = min 1 xs.length := by
    cases h : xs.length with
    | zero => rfl
    | succ n =>
      simp [HT.sIx]
  have h2 : HT.sIx xs.length xs.length none = xs.length := rfl
  rw [h, h2, List.take_of_length_le (by simp)]
  cases xs with
  | nil => simp
  | cons a l => simp
theorem el_from1 (h : Ev te σ H (.ref a)) (hs : SqL K H a xs) : EvL (tSl (rSlL K) te (tPart (tC (.int 1))) tNoPart) σ H (xs.drop 1) := by
  rw [← cut_1]
  exact el_sl h (eo_some ev_c) eo_none hs
theorem el_ca1 {R : R1} {E : XK} (ha : Ev ta σ H x) (h : ∀ H1, Ex H H1 → ∀ Q : VK, RetL xs H1 Q → R x H1 Q E) : EvL (tCall (sp1 R) [] E (tCons ta tNil)) σ H xs :=
  fun H1 e Q q => ha H1 e _ fun H2 e2 => h H2 (e.trans e2) Q fun p H3 h3 e3 k => q p H3 (fresh_back e2 h3) (e2.trans e3) k
theorem el_ca2 {R : R2'} {E : XK} (ha : Ev ta σ H x) (hb : Ev tb σ H y) (h : ∀ H1, Ex H H1 → ∀ Q : VK, RetL xs H1 Q → R x y H1 Q E) : EvL (tCall (sp2 R) [] E (tCons ta (tCons tb tNil))) σ H xs :=
  fun H1 e Q q => ha H1 e _ fun H2 e2 => hb H2 (e.trans e2) _ fun H3 e3 => h H3 (e.trans (e2.trans e3)) Q fun p H4 h4 e4 k => q p H4 (fresh_back (e2.trans e3) h4) ((e2.trans e3).trans e4) k
/-- .. the second argument a new list -/
theorem el_ca2L {R : R2'} {E : XK} {zs : List V} (ha : Ev ta σ H x) (hb : EvL tb σ H ys) (h : ∀ q H1, Ex H H1 → H1 q = some (.lst ys) → ∀ Q : VK, RetL zs H1 Q → R x (.ref q) H1 Q E) : EvL (tCall (sp2 R) [] E (tCons ta (tCons tb tNil))) σ H zs :=
  fun H1 e Q q => ha H1 e _ fun H2 e2 => hb H2 (e.trans e2) _ fun r H3 _ e3 h3 => h r H3 (e.trans (e2.trans e3)) h3 Q fun p H4 h4 e4 k => q p H4 (fresh_back (e2.trans e3) h4) ((e2.trans e3).trans e4) k
/-- == of a new list and a kept one | of two new ones -/
theorem ev_opL0 {r : R2} (ha : EvL ta σ H xs) (hb : Ev tb σ H y) (hr : ∀ p H1, H1 p = some (.lst xs) → Ex H H1 → RV r (.ref p) y H1 z) : Ev (tOp r ta tb) σ H z := ev_opL1 ha (fun H1 e => hb.mono e) hr
/-- f(..) as a statement, its refusals let out -/
theorem q_call1 {R : R1} {E : XK} (ha : Ev ta σ H x) (h : ∀ H1, Ex H H1 → R x H1 (fun _ H2 => tz D σ H2) E) : tSeq (tDrop (tCall (sp1 R) [] E (tCons ta tNil))) tz D σ H := ha H (Ex.refl H) _ fun H1 e1 => h H1 e1
theorem el_lcR2 {ta : TA} {j : Nat} {vs : List Nat} {u : TT} {lo n : Int} (f : Nat → Bool) (v : Nat → V) (h : EvA ta σ H [.int lo, .int n]) (hn : -40000 ≤ lo ∧ lo ≤ 40000 ∧ -40000 ≤ n ∧ n ≤ 40000 ∧ n - lo ≤ 40000) (hw : ∀ x, wipe ((wipe σ vs).set j (some x)) vs = wipe σ vs)
    (ht : ∀ (i : Nat) H1, Ex H H1 → lo + (i : Int) < n → EvT u ((wipe σ vs).set j (some (.int (lo + (i : Int))))) H1 (f i)) (he : ∀ (i : Nat) H1, Ex H H1 → lo + (i : Int) < n → f i = true → Ev te ((wipe σ vs).set j (some (.int (lo + (i : Int))))) H1 (v i)) :
    EvL (tLc (iRng2 ta) (gName j) u te vs) σ H (given (n - lo).toNat f v) := fun H0 e Q q => h H0 e _ fun H1 e1 => ⟨lo, n, rfl, ⟨by omega, by omega, by omega, by omega⟩, fun Dl hD =>
  lc_range (lo := lo) (n := (n - lo).toNat) (Cw H1 f v Dl) ⟨hD, Ex.new hD, upd_same⟩ (fun i H' hi p => ⟨hw _, cw_turn p (by omega) (ht i H1 (e.trans e1) (by omega)) (fun hf => he i H1 (e.trans e1) (by omega) hf)⟩) (fun H' p => q Dl H' (fresh_back e1 p.1) (e1.trans p.2.1) p.2.2)⟩
theorem el_ca1L {R : R1} {E : XK} {zs : List V} (ha : EvL ta σ H xs) (h : ∀ q H1, Ex H H1 → H1 q = some (.lst xs) → ∀ Q : VK, RetL zs H1 Q → R (.ref q) H1 Q E) : EvL (tCall (sp1 R) [] E (tCons ta tNil)) σ H zs :=
  fun H1 e Q q => ha H1 e _ fun r H2 _ e2 h2 => h r H2 (e.trans e2) h2 Q fun p H3 h3 e3 k => q p H3 (fresh_back e2 h3) (e2.trans e3) k
theorem tabs_mut {l : Addr} {o : HO} (hl : H l = some (.lst xs)) (h : Tabs T H) : Tabs T (upd H l o) := fun p hp => by
  obtain ⟨ps, h1, h2, h3⟩ := h p hp
  have n1 : p.1 ≠ l := fun z => by
    rw [z, hl] at h1
    cases h1
  refine ⟨ps, by rw [upd_ne n1]; exact h1, h2, fun pos cv hc => ?_⟩
  obtain ⟨c, e1, e2⟩ := h3 pos cv hc
  refine ⟨c, e1, ?_⟩
  rw [upd_ne]
  · exact e2
  · intro z
    rw [z, hl] at e2
    cases e2
theorem NX.mut {l : Addr} {o : HO} (n : NX T H H1) (h0 : H l = none) (hl : H1 l = some (.lst xs)) : NX T H (upd H1 l o) := ⟨fun b u hb nt => by
  rw [upd_ne (ne_of_none hb h0)]
  exact n.1 b u hb nt, tabs_mut hl n.2⟩
/-- xs.append(told(..)) -/
theorem q_appT {l : Addr} {i : Nat} (hT : Tabs T H) (hl : H l = some (.lst xs)) (hi : σ[i]? = some (some (.ref l))) (h : Tl T te σ H v) (hz : xs.length < 100000) (k : ∀ H1, NX T H H1 → tz D σ (upd H1 l (.lst (xs ++ [v])))) :
    tSeq (tDrop (tBM K "list" rAppend (tVar i) (tCons te tNil))) tz D σ H :=
  ⟨.ref l, hi, Or.inl ⟨rfl, xs, sq_of hl⟩, h H (NX.refl hT) _ fun H2 n2 => ⟨l, xs, v, rfl, rfl, n2.o hl, sz_lt hz, k H2 n2⟩⟩
end
/-! ### one flag of many -/
theorem one_flag (C : Addr) : ∀ (cs : List Addr) (j : Nat), cs.Nodup → cs[j]? = some C →
    ((cs.map fun D => decide (C = D)).map fun b => (if b then 1 else 0 : Int)).sum = 1 ∧ (cs.map fun D => decide (C = D))[j]? = some true ∧ ∀ m, m < j → (cs.map fun D => decide (C = D))[m]? = some false
  | [], _, _, h => by simp at h
  | c :: cs, 0, nd, h => by
    have e : c = C := by simpa using h
    subst e
    have no : ∀ D ∈ cs, c ≠ D := fun D hD z => (List.nodup_cons.mp nd).1 (z ▸ hD)
    refine ⟨?_, by simp, fun m hm => by omega⟩
    have z : ∀ ds : List Addr, (∀ D ∈ ds, c ≠ D) → ((ds.map fun D => decide (c = D)).map fun b => (if b then 1 else 0 : Int)).sum = 0 := fun ds => by
      induction ds with
      | nil => intro _; rfl
      | cons d ds ih =>
        intro h
        simp only [List.map_cons, List.sum_cons]
        rw [ih fun D hD => h D (List.mem_cons_of_mem _ hD), decide_eq_false (h d List.mem_cons_self)]
        rfl
    simp only [List.map_cons, List.sum_cons]
    rw [z cs no]
    simp
  | c :: cs, j + 1, nd, h => by
    obtain ⟨h1, h2, h3⟩ := one_flag C cs j (List.nodup_cons.mp nd).2 (by simpa using h)
    have ne : C ≠ c := fun z => (List.nodup_cons.mp nd).1 (z ▸ List.mem_of_getElem? (by simpa using h))
    refine ⟨?_, by simpa using h2, fun m hm => ?_⟩
    · simp only [List.map_cons, List.sum_cons]
      rw [h1, decide_eq_false ne]
      rfl
    · cases m with
      | zero => simp [ne]
      | succ m => simpa using h3 m (by omega)
end Sv

set_option Elab.async false
set_option linter.all false
set_option maxRecDepth 100000
set_option maxHeartbeats 4000000
/-! SvAll: a list of things that are made, one of them taken; lists of words; what is told put into a list. -/
namespace Sv
open PySem PySem.Spec PyProof.Rows L2 Evl HotX L2H LamX
section
variable {K : PySem.W.Frag} {σ : L2.St} {H H' H1 H2 : Hp} {ta tb te tc : TE} {tr : TA} {x y z v : V} {a p : Addr} {xs ys : List V} {T : List (Addr × Str)} {D : Ends} {tz : TS} {W : Addr → Str → Prop} {t : XK → TE} {Q : VK} {P : V → Hp → Prop}
/-- a value that P holds of -/
def EvP (te : TE) (σ : L2.St) (H : Hp) (P : V → Hp → Prop) : Prop := ∀ H1, Ex H H1 → ∀ Q : VK, (∀ v H2, Ex H1 H2 → P v H2 → Q v H2) → te σ H1 Q
def EvAll (tr : TA) (σ : L2.St) (H : Hp) (n : Nat) (P : V → Hp → Prop) : Prop := ∀ H1, Ex H H1 → ∀ Q : List V → Hp → Prop, (∀ vs H2, Ex H1 H2 → vs.length = n → (∀ v ∈ vs, P v H2) → Q vs H2) → tr σ H1 Q
theorem ep_ev (h : Ev te σ H v) (hp : ∀ H1, Ex H H1 → P v H1) : EvP te σ H P := fun H1 e Q q => h H1 e Q fun H2 e2 => q v H2 e2 (hp H2 (e.trans e2))
theorem ep_l (h : EvL te σ H xs) (hp : ∀ p H1, Ex H H1 → H1 p = some (.lst xs) → P (.ref p) H1) : EvP te σ H P := fun H1 e Q q => h H1 e Q fun p H2 _ e2 h2 => q _ H2 e2 (hp p H2 (e.trans e2) h2)
theorem ep_u (h : EvU te σ H xs) (hp : ∀ p H1, Ex H H1 → H1 p = some (.tup xs) → P (.ref p) H1) : EvP te σ H P := fun H1 e Q q => h H1 e Q fun p H2 _ e2 h2 => q _ H2 e2 (hp p H2 (e.trans e2) h2)
theorem eall_nil : EvAll tNil σ H 0 P := fun H1 _ Q q => q [] H1 (Ex.refl H1) rfl fun _ h => (by cases h)
theorem eall_cons {n : Nat} (st : ∀ v H H', Ex H H' → P v H → P v H') (h : EvP te σ H P) (hr : EvAll tr σ H n P) : EvAll (tCons te tr) σ H (n + 1) P := fun H1 e Q q =>
  h H1 e _ fun v H2 e2 hv => hr H2 (e.trans e2) _ fun vs H3 e3 hl hvs => q (v :: vs) H3 (e2.trans e3) (by rw [List.length_cons, hl]) fun w hw => by
    rcases List.mem_cons.mp hw with rfl | hw
    · exact st _ _ _ e3 hv
    · exact hvs w hw
/-- [..][j], a thing of which P holds -/
theorem ep_ix {n : Nat} {j : Nat} (st : ∀ v H H', Ex H H' → P v H → P v H') (ha : EvAll tr σ H n P) (hb : ∀ H1, Ex H H1 → Ev tb σ H1 (.int (j : Int))) (hj : j < n) (hn : n ≤ 100000) : EvP (tOp (rIxL K) (tLst tr) tb) σ H P := fun H1 e Q q =>
  ha H1 e _ fun vs H2 e2 hl hvs => ⟨sz_of (by omega), fun r hr => hb (upd H2 r (.lst vs)) ((e.trans e2).trans (Ex.new hr)) _ (Ex.refl _) _ fun H3 e3 =>
    ⟨r, vs, (j : Int), vs[j]'(by omega), rfl, rfl, sq_of (e3 r _ upd_same), atI_nat (List.getElem?_eq_getElem _), q _ H3 (e2.trans ((Ex.new hr).trans e3)) (st _ _ _ ((Ex.new hr).trans e3) (hvs _ (List.getElem_mem _)))⟩⟩
theorem q_asgP {i : Nat} (h : EvP te σ H P) (k : ∀ v H1, Ex H H1 → P v H1 → tz D (σ.set i (some v)) H1) : tSeq (tAsg te (gName i)) tz D σ H := h H (Ex.refl H) _ fun v H1 e p => k v H1 e p
theorem call1P {R : R1} {E : XK} (ha : EvP ta σ H P) (h : ∀ v H1, Ex H H1 → P v H1 → R v H1 Q E) : tCall (sp1 R) [] E (tCons ta tNil) σ H Q := ha H (Ex.refl H) _ fun v H1 e hp => h v H1 e hp
theorem call1 {R : R1} {E : XK} (ha : Ev ta σ H x) (h : ∀ H1, Ex H H1 → R x H1 Q E) : tCall (sp1 R) [] E (tCons ta tNil) σ H Q := ha H (Ex.refl H) _ fun H1 e => h H1 e
theorem call1L {R : R1} {E : XK} (ha : EvL ta σ H xs) (h : ∀ p H1, Ex H H1 → H1 p = some (.lst xs) → R (.ref p) H1 Q E) : tCall (sp1 R) [] E (tCons ta tNil) σ H Q := ha H (Ex.refl H) _ fun p H1 _ e h1 => h p H1 e h1
theorem call2 {R : R2'} {E : XK} (ha : Ev ta σ H x) (hb : Ev tb σ H y) (h : ∀ H1, Ex H H1 → R x y H1 Q E) : tCall (sp2 R) [] E (tCons ta (tCons tb tNil)) σ H Q := ha H (Ex.refl H) _ fun H1 e => hb H1 e _ fun H2 e2 => h H2 (e.trans e2)
theorem call2L {R : R2'} {E : XK} (ha : Ev ta σ H x) (hb : EvL tb σ H ys) (h : ∀ q H1, Ex H H1 → H1 q = some (.lst ys) → R x (.ref q) H1 Q E) : tCall (sp2 R) [] E (tCons ta (tCons tb tNil)) σ H Q := ha H (Ex.refl H) _ fun H1 e => hb H1 e _ fun q H2 _ e2 h2 => h q H2 (e.trans e2) h2
theorem q_asgC1 {R : R1} {E : XK} {i : Nat} (ha : Ev ta σ H x) (h : ∀ H1, Ex H H1 → R x H1 (fun v H2 => tz D (σ.set i (some v)) H2) E) : tSeq (tAsg (tCall (sp1 R) [] E (tCons ta tNil)) (gName i)) tz D σ H := call1 (Q := fun v H2 => tz D (σ.set i (some v)) H2) ha h
theorem q_asgC2 {R : R2'} {E : XK} {i : Nat} (ha : Ev ta σ H x) (hb : Ev tb σ H y) (h : ∀ H1, Ex H H1 → R x y H1 (fun v H2 => tz D (σ.set i (some v)) H2) E) : tSeq (tAsg (tCall (sp2 R) [] E (tCons ta (tCons tb tNil))) (gName i)) tz D σ H := call2 (Q := fun v H2 => tz D (σ.set i (some v)) H2) ha hb h
theorem ev_ca1L {R : R1} {E : XK} (ha : EvL ta σ H xs) (h : ∀ p H1, Ex H H1 → H1 p = some (.lst xs) → ∀ Q : VK, (∀ H2, Ex H1 H2 → Q z H2) → R (.ref p) H1 Q E) : Ev (tCall (sp1 R) [] E (tCons ta tNil)) σ H z :=
  fun H1 e Q q => ha H1 e _ fun p H2 _ e2 h2 => h p H2 (e.trans e2) h2 Q fun H3 e3 => q H3 (e2.trans e3)
/-- for x in [..], each of which P holds of -/
theorem s_forP {n j : Nat} {tu : TS} (st : ∀ v H H', Ex H H' → P v H → P v H') (ha : EvAll tr σ H n P) (hn : n ≤ 100000) (I : L2.St → Hp → Prop) (h0 : ∀ H1, Ex H H1 → I σ H1)
    (hs : ∀ H1 x σ' H', Ex H H1 → I σ' H' → Ex H1 H' → P x H' → tu { D with nx := fun σ2 H2 => I σ2 H2 ∧ Ex H1 H2, ct := fun σ2 H2 => I σ2 H2 ∧ Ex H1 H2, bk := D.nx } (σ'.set j (some x)) H') (hd : ∀ σ' H', I σ' H' → D.nx σ' H') : tFor (iList K (tLst tr)) (gName j) tu D σ H :=
  ha H (Ex.refl H) _ fun vs H1 e1 hl hvs => ⟨sz_of (by omega), fun r hr => ⟨r, rfl, ⟨vs, sq_of upd_same⟩, by
    have e2 := e1.trans (Ex.new (o := .lst vs) hr)
    exact for_list (xs := vs) (fun _ σ' H' => I σ' H' ∧ Ex (upd H1 r (.lst vs)) H') ⟨h0 _ e2, Ex.refl _⟩ (fun i σ' H' _ p => sq_of (p.2 r _ upd_same))
      (fun i x σ' H' hi p => hs _ x σ' H' e2 p.1 p.2 (st _ _ _ p.2 (st _ _ _ (Ex.new hr) (hvs x (List.mem_of_getElem? hi))))) fun σ' H' p => hd σ' H' p.1⟩⟩
theorem q_forP {n j : Nat} {tu : TS} (st : ∀ v H H', Ex H H' → P v H → P v H') (ha : EvAll tr σ H n P) (hn : n ≤ 100000) (I : L2.St → Hp → Prop) (h0 : ∀ H1, Ex H H1 → I σ H1)
    (hs : ∀ H1 x σ' H', Ex H H1 → I σ' H' → Ex H1 H' → P x H' → tu { D with nx := fun σ2 H2 => I σ2 H2 ∧ Ex H1 H2, ct := fun σ2 H2 => I σ2 H2 ∧ Ex H1 H2, bk := tz D } (σ'.set j (some x)) H') (hd : ∀ σ' H', I σ' H' → tz D σ' H') : tSeq (tFor (iList K (tLst tr)) (gName j) tu) tz D σ H :=
  s_forP (D := { D with nx := tz D }) st ha hn I h0 hs hd
theorem q_parUU {i j : Nat} (ha : EvU ta σ H xs) (hb : EvU tb σ H ys) (k : ∀ p q H1, Ex H H1 → H1 p = some (.tup xs) → H1 q = some (.tup ys) → tz D ((σ.set i (some (.ref p))).set j (some (.ref q))) H1) : tSeq (tPar i j (tCons ta (tCons tb tNil))) tz D σ H :=
  ha H (Ex.refl H) _ fun p H1 _ e1 h1 => hb H1 e1 _ fun q H2 _ e2 h2 => ⟨.ref p, .ref q, rfl, k p q H2 (e1.trans e2) (e2 p _ h1) h2⟩
theorem s_parVU {i j : Nat} (ha : Ev ta σ H v) (hb : EvU tb σ H ys) (k : ∀ q H1, Ex H H1 → H1 q = some (.tup ys) → D.nx ((σ.set i (some v)).set j (some (.ref q))) H1) : tPar i j (tCons ta (tCons tb tNil)) D σ H :=
  ha H (Ex.refl H) _ fun H1 e1 => hb H1 e1 _ fun q H2 _ e2 h2 => ⟨v, .ref q, rfl, k q H2 (e1.trans e2) h2⟩
theorem q_parLV {i j : Nat} (ha : EvL ta σ H xs) (hb : Ev tb σ H v) (k : ∀ q H1, H q = none → Ex H H1 → H1 q = some (.lst xs) → tz D ((σ.set i (some (.ref q))).set j (some v)) H1) : tSeq (tPar i j (tCons ta (tCons tb tNil))) tz D σ H :=
  ha H (Ex.refl H) _ fun q H1 h0 e1 h1 => hb H1 e1 _ fun H2 e2 => ⟨.ref q, v, rfl, k q H2 h0 (e1.trans e2) (e2 q _ h1)⟩
/-- [e for i, x in enumerate(xs) if t] -/
theorem el_lcE {j1 j2 : Nat} {vs : List Nat} {u : TT} (f : Nat → Bool) (v : Nat → V) (h : EvA tr σ H [.ref a]) (hx : SqL K H a xs) (hz : xs.length ≤ 40000) (hw : ∀ x y, wipe (((wipe σ vs).set j1 (some x)).set j2 (some y)) vs = wipe σ vs)
    (ht : ∀ (i : Nat) (x : V) H1, Ex H H1 → xs[i]? = some x → EvT u (((wipe σ vs).set j1 (some (.int (i : Nat)))).set j2 (some x)) H1 (f i)) (he : ∀ (i : Nat) (x : V) H1, Ex H H1 → xs[i]? = some x → f i = true → Ev te (((wipe σ vs).set j1 (some (.int (i : Nat)))).set j2 (some x)) H1 (v i)) :
    EvL (tLc (iEnum K tr) (gTup K 2 (gCons (gName j1) (gCons (gName j2) gNil))) u te vs) σ H (given xs.length f v) := fun H0 e Q q => h H0 e _ fun H1 e1 => ⟨a, xs, rfl, ex_l (e.trans e1) hx, fun Dl hD => by
  refine ⟨fun i m H' => m = xs.length - i ∧ i ≤ xs.length ∧ Cw H1 f v Dl i H', ⟨xs.length, by simp, Nat.zero_le _, hD, Ex.new hD, upd_same⟩, ?_⟩
  rintro i m H' ⟨rfl, hi, p⟩
  have hq := ex_l ((e.trans e1).trans p.2.1) hx
  by_cases hlt : i < xs.length
  · refine .inr ⟨⟨xs, xs[i], hq, by simp [hlt]⟩, Cw H1 f v Dl (i + 1), fun H2 p' => ⟨xs.length - (i + 1), by omega, rfl, hlt, p'⟩, fun x H2 y => ?_⟩
    obtain ⟨T0, x0, rfl, hT, rfl, hx0⟩ := y
    have hi0 := hx0 xs hq
    have p2 : Cw H1 f v Dl i (upd H' T0 (.tup [.int (i : Nat), x0])) := ⟨p.1, p.2.1.trans (Ex.new hT), by
      rw [upd_ne (ne_of_none p.2.2 hT)]
      exact p.2.2⟩
    exact g_tup2 (st_of upd_same) ⟨hw _ _, cw_turn p2 (by omega) (ht i x0 H1 (e.trans e1) hi0) fun hf => he i x0 H1 (e.trans e1) hi0 hf⟩
  · have ei : i = xs.length := by omega
    subst ei
    exact .inl ⟨⟨xs, hq, Nat.le_refl _⟩, q Dl H' (fresh_back e1 p.1) (e1.trans p.2.1) p.2.2⟩⟩
/-- a branch, what follows told once -/
theorem q_ifM {u : TT} {tu tw : TS} {b : Bool} {M : L2.St → Hp → Prop} (hz : ∀ σ' H', M σ' H' → tz D σ' H') (h : EvT u σ H b) (h1 : b = true → ∀ H1, Ex H H1 → ∀ N : L2.St → Hp → Prop, (∀ σ' H', M σ' H' → N σ' H') → tu { D with nx := N } σ H1)
    (h2 : b = false → ∀ H1, Ex H H1 → ∀ N : L2.St → Hp → Prop, (∀ σ' H', M σ' H' → N σ' H') → tw { D with nx := N } σ H1) : tSeq (tIfS u tu tw) tz D σ H :=
  q_if h (fun hb H1 e => h1 hb H1 e _ hz) fun hb H1 e => h2 hb H1 e _ hz
/-- x = [told(..)] -/
theorem q_lstT {i : Nat} (hT : Tabs T H) (h : Tl T te σ H v) (k : ∀ l H1, NX T H H1 → H1 l = none → tz D (σ.set i (some (.ref l))) (upd H1 l (.lst [v]))) : tSeq (tAsg (tLst (tCons te tNil)) (gName i)) tz D σ H :=
  h H (NX.refl hT) _ fun H2 n2 => ⟨sz_of (by show 1 ≤ 100000; decide), fun p hp => k p H2 n2 hp⟩
/-! ### lists of ints, of words, set against each other -/
theorem rv_neI {ns ms : List Int} {q : Addr} (h1 : SqL K H p (ns.map V.int)) (h2 : SqL K H q (ms.map V.int)) : RV (rNeD K) (.ref p) (.ref q) H (.bl (!decide (ns = ms))) := by
  rw [← eqv_il]
  exact rv_neD (dp_il h1) (dp_il h2) (sh_il _) (sh_il _)
theorem rv_eqI {ns ms : List Int} {q : Addr} (h1 : SqL K H p (ns.map V.int)) (h2 : SqL K H q (ms.map V.int)) : RV (rEqD K) (.ref p) (.ref q) H (.bl (decide (ns = ms))) := by
  rw [← eqv_il]
  exact rv_eqD (dp_il h1) (dp_il h2) (sh_il _) (sh_il _)
theorem dp_strs : ∀ ns : List Str, DpAll K H (ns.map V.str) (ns.map PyData.str)
  | [] => .nil
  | n :: ns => .cons (.str n) (dp_strs ns)
theorem canL_strs : ∀ ns : List Str, ns.all PyData.strOk = true → PyData.canLayAll0 (ns.map PyData.str) = true
  | [], _ => by simp [PyData.canLayAll0]
  | n :: ns, h => by
    rw [List.all_cons, Bool.and_eq_true] at h
    simp [PyData.canLayAll0, PyData.canLay0, canL_strs ns h.2, h.1]
theorem dep_strs : ∀ ns : List Str, PyData.depthAll (ns.map PyData.str) = 0
  | [] => by simp [PyData.depthAll]
  | n :: ns => by simp [PyData.depthAll, PyData.depth, dep_strs ns]
theorem sh_sl {ns : List Str} (h : ns.all PyData.strOk = true) : SeqAt.shaped (.list (ns.map PyData.str)) = true := by
  simp [SeqAt.shaped, PyData.canLay0, PyData.depth, canL_strs ns h, dep_strs]
theorem rv_neS {ns : List Str} {q : Addr} (h : ns.all PyData.strOk = true) (h1 : SqL K H p (ns.map V.str)) (h2 : SqL K H q (ns.map V.str)) : RV (rNeD K) (.ref p) (.ref q) H (.bl false) := by
  have := rv_neD (.lst h1 (dp_strs ns)) (.lst h2 (dp_strs ns)) (sh_sl h) (sh_sl h)
  rw [SeqAt.eqv_refl _ (SeqAt.canLay_of_shaped (sh_sl h))] at this
  exact this
end
end Sv

set_option Elab.async false
set_option linter.all false
set_option maxRecDepth 100000
set_option maxHeartbeats 4000000
/-! SvDat: lists of things that are made (each told by a word of it), loops over them past what is told; values by their data. -/
namespace Sv
open PySem PySem.Spec PyProof.Rows L2 Evl HotX L2H LamX
section
variable {K : PySem.W.Frag} {σ : L2.St} {H H' H1 H2 : Hp} {ta tb te tc : TE} {tr : TA} {x y z v : V} {a p : Addr} {xs ys : List V} {T : List (Addr × Str)} {D : Ends} {tz tu : TS} {W : Addr → Str → Prop} {t : XK → TE} {Q : VK} {P : V → Hp → Prop} {n m : Nat}
/-! ### a list each of whose n items P holds of -/
def EvLP (te : TE) (σ : L2.St) (H : Hp) (n : Nat) (P : V → Hp → Prop) : Prop := ∀ H1, Ex H H1 → ∀ Q : VK, (∀ p vs H2, Ex H1 H2 → H2 p = some (.lst vs) → vs.length = n → (∀ v ∈ vs, P v H2) → Q (.ref p) H2) → te σ H1 Q
theorem elp_lst (st : ∀ v H H', Ex H H' → P v H → P v H') (h : EvAll tr σ H n P) (hn : n ≤ 100000) : EvLP (tLst tr) σ H n P := fun H1 e Q q =>
  h H1 e _ fun vs H2 e2 hl hvs => ⟨sz_of (by omega), fun r hr => q r vs _ (e2.trans (Ex.new hr)) upd_same hl fun v hv => st _ _ _ (Ex.new hr) (hvs v hv)⟩
theorem elp_var {i : Nat} {vs : List V} (st : ∀ v H H', Ex H H' → P v H → P v H') (hi : σ[i]? = some (some (.ref p))) (hp : H p = some (.lst vs)) (hl : vs.length = n) (hv : ∀ v ∈ vs, P v H) : EvLP (tVar i) σ H n P := fun H1 e Q q =>
  ⟨.ref p, hi, q p vs H1 (Ex.refl H1) (e p _ hp) hl fun v h => st _ _ _ e (hv v h)⟩
theorem elp_cat (st : ∀ v H H', Ex H H' → P v H → P v H') (ha : EvLP ta σ H n P) (hb : EvLP tb σ H m P) (hn : n + m ≤ 100000) : EvLP (tOp rCat ta tb) σ H (n + m) P := fun H1 e Q q =>
  ha H1 e _ fun l vs H2 e2 h2 hl hv => hb H2 (e.trans e2) _ fun r ws H3 e3 h3 hl3 hw => ⟨l, r, vs, ws, rfl, rfl, e3 l _ h2, h3, sz_of (by omega), fun s hs => q s _ _ ((e2.trans e3).trans (Ex.new hs)) upd_same (by rw [List.length_append, hl, hl3]) fun v h => by
    rcases List.mem_append.mp h with h | h
    · exact st _ _ _ (e3.trans (Ex.new hs)) (hv v h)
    · exact st _ _ _ (Ex.new hs) (hw v h)⟩
theorem elp_rep (st : ∀ v H H', Ex H H' → P v H → P v H') (ha : EvLP ta σ H 1 P) (hn : n ≤ 100000) : EvLP (tOp rRep ta (tC (.int (n : Int)))) σ H n P := fun H1 e Q q =>
  ha H1 e _ fun l vs H2 e2 h2 hl hv => by
    obtain ⟨w, rfl⟩ := List.length_eq_one_iff.mp hl
    refine ⟨l, (n : Int), [w], rfl, rfl, h2, by omega, by omega, sz_of (by simpa using hn), fun s hs => q s (List.replicate n w) _ (e2.trans (Ex.new hs)) ?_ (by simp) fun v h => ?_⟩
    · rw [Int.toNat_natCast, rep_flat]
      exact upd_same
    · rw [(List.mem_replicate.mp h).2]
      exact st _ _ _ (Ex.new hs) (hv w List.mem_cons_self)
theorem ep_lp {P2 : V → Hp → Prop} (h : EvLP te σ H n P) (k : ∀ p vs H1, H1 p = some (.lst vs) → vs.length = n → (∀ v ∈ vs, P v H1) → P2 (.ref p) H1) : EvP te σ H P2 := fun H1 e Q q =>
  h H1 e _ fun p vs H2 e2 h2 hl hv => q _ H2 e2 (k p vs H2 h2 hl hv)
theorem q_asgLP {i : Nat} (h : EvLP te σ H n P) (k : ∀ p vs H1, Ex H H1 → H1 p = some (.lst vs) → vs.length = n → (∀ v ∈ vs, P v H1) → tz D (σ.set i (some (.ref p))) H1) : tSeq (tAsg te (gName i)) tz D σ H := h H (Ex.refl H) _ fun p vs H1 e h1 hl hv => k p vs H1 e h1 hl hv
/-- for x in such a list, past what is told -/
theorem s_forLP {j : Nat} (st : ∀ v H H', NX T H H' → P v H → P v H') (hT : Tabs T H) (ha : EvLP te σ H n P) (I : L2.St → Hp → Prop) (h0 : ∀ H1, NX T H H1 → I σ H1)
    (hs : ∀ H1 x σ' H', NX T H H1 → I σ' H' → NX T H1 H' → P x H' → tu { D with nx := fun σ2 H2 => I σ2 H2 ∧ NX T H1 H2, ct := fun σ2 H2 => I σ2 H2 ∧ NX T H1 H2, bk := D.nx } (σ'.set j (some x)) H') (hd : ∀ σ' H', I σ' H' → D.nx σ' H') : tFor (iList K te) (gName j) tu D σ H :=
  ha H (Ex.refl H) _ fun r vs H1 e1 h1 hl hvs => ⟨r, rfl, ⟨vs, sq_of h1⟩, by
    have n1 : NX T H H1 := nx_of hT e1
    exact for_list (xs := vs) (fun _ σ' H' => I σ' H' ∧ NX T H1 H') ⟨h0 _ n1, NX.refl n1.2⟩ (fun i σ' H' _ p => sq_of (p.2.o h1))
      (fun i x σ' H' hi p => hs _ x σ' H' n1 p.1 p.2 (st _ _ _ p.2 (hvs x (List.mem_of_getElem? hi)))) fun σ' H' p => hd σ' H' p.1⟩
theorem q_forLP {j : Nat} (st : ∀ v H H', NX T H H' → P v H → P v H') (hT : Tabs T H) (ha : EvLP te σ H n P) (I : L2.St → Hp → Prop) (h0 : ∀ H1, NX T H H1 → I σ H1)
    (hs : ∀ H1 x σ' H', NX T H H1 → I σ' H' → NX T H1 H' → P x H' → tu { D with nx := fun σ2 H2 => I σ2 H2 ∧ NX T H1 H2, ct := fun σ2 H2 => I σ2 H2 ∧ NX T H1 H2, bk := tz D } (σ'.set j (some x)) H') (hd : ∀ σ' H', I σ' H' → tz D σ' H') : tSeq (tFor (iList K te) (gName j) tu) tz D σ H :=
  s_forLP (D := { D with nx := tz D }) st hT ha I h0 hs hd
/-! ### told lists -/
def TlL (T : List (Addr × Str)) (te : TE) (σ : L2.St) (H : Hp) (xs : List V) : Prop := ∀ H1, NX T H H1 → ∀ Q : VK, (∀ p H2, NX T H1 H2 → H2 p = some (.lst xs) → Q (.ref p) H2) → te σ H1 Q
theorem tl_opLL {r : R2} (ha : TlL T ta σ H xs) (hb : ∀ H1, NX T H H1 → EvL tb σ H1 ys) (hr : ∀ p q H1, H1 p = some (.lst xs) → H1 q = some (.lst ys) → RV r (.ref p) (.ref q) H1 z) : Tl T (tOp r ta tb) σ H z := fun H1 n1 Q q =>
  ha H1 n1 _ fun p H2 n2 h2 => hb H2 (n1.trans n2) H2 (Ex.refl H2) _ fun s H3 _ e3 h3 => hr p s H3 (e3 p _ h2) h3 H3 (Ex.refl H3) Q fun H4 e4 => q H4 (n2.ex (e3.trans e4))
theorem tll_cat {i : Nat} {l : Addr} (ha : TlL T ta σ H xs) (hi : σ[i]? = some (some (.ref l))) (hl : H l = some (.lst ys)) (hz : xs.length + ys.length ≤ 100000) : TlL T (tOp rCat ta (tVar i)) σ H (xs ++ ys) := fun H1 n1 Q q =>
  ha H1 n1 _ fun p H2 n2 h2 => ⟨.ref l, hi, p, l, xs, ys, rfl, rfl, h2, (n1.trans n2).o hl, sz_of hz, fun r hr => q r _ (n2.ex (Ex.new hr)) upd_same⟩
theorem tll_ca2 {R : R2'} {E : XK} (ha : ∀ H1, NX T H H1 → Ev ta σ H1 x) (hb : ∀ H1, NX T H H1 → Ev tb σ H1 y) (h : ∀ H1, NX T H H1 → ∀ Q : VK, (∀ p H2, NX T H1 H2 → H2 p = some (.lst xs) → Q (.ref p) H2) → R x y H1 Q E) : TlL T (tCall (sp2 R) [] E (tCons ta (tCons tb tNil))) σ H xs :=
  fun H1 n1 Q q => ha H1 n1 H1 (Ex.refl H1) _ fun H2 e2 => hb H2 (n1.ex e2) H2 (Ex.refl H2) _ fun H3 e3 => h H3 (n1.ex (e2.trans e3)) Q fun p H4 n4 h4 => q p H4 ((nx_of n1.2 (e2.trans e3)).trans n4) h4
theorem tlt_B {b : Bool} (h : Tl T te σ H (.bl b)) : TlT T (tB te) σ H b := fun H1 n _ q => h H1 n _ fun H2 e2 => ⟨b, rfl, q H2 e2⟩
theorem tl_ca2 {R : R2'} {E : XK} (ha : ∀ H1, NX T H H1 → Ev ta σ H1 x) (hb : ∀ H1, NX T H H1 → Ev tb σ H1 y) (h : ∀ H1, NX T H H1 → ∀ Q : VK, (∀ H2, NX T H1 H2 → Q z H2) → R x y H1 Q E) : Tl T (tCall (sp2 R) [] E (tCons ta (tCons tb tNil))) σ H z :=
  fun H1 n Q q => ha H1 n H1 (Ex.refl H1) _ fun H2 e2 => hb H2 (n.ex e2) H2 (Ex.refl H2) _ fun H3 e3 => h H3 (n.ex (e2.trans e3)) Q fun H4 n4 => q H4 ((nx_of n.2 (e2.trans e3)).trans n4)
theorem call3 {w : V} {R : R3} {E : XK} (ha : Ev ta σ H x) (hb : Ev tb σ H y) (hc : Ev tc σ H w) (h : ∀ H1, Ex H H1 → R x y w H1 Q E) : tCall (sp3 R) [] E (tCons ta (tCons tb (tCons tc tNil))) σ H Q := ha H (Ex.refl H) _ fun H1 e => hb H1 e _ fun H2 e2 => hc H2 (e.trans e2) _ fun H3 e3 => h H3 ((e.trans e2).trans e3)
theorem call3c {R : R3} {E : XK} (ha : Ev ta σ H x) (hb : Ev tb σ H y) (h : ∀ H1, Ex H H1 → tc σ H1 fun v H2 => R x y v H2 Q E) : tCall (sp3 R) [] E (tCons ta (tCons tb (tCons tc tNil))) σ H Q := ha H (Ex.refl H) _ fun H1 e => hb H1 e _ fun H2 e2 => h H2 (e.trans e2)
/-- f(..).append(e), of a list that is new -/
theorem q_appN (ha : EvL ta σ H xs) (h : ∀ H1, Ex H H1 → Ev te σ H1 v) (hz : xs.length < 100000) (k : ∀ H1, Ex H H1 → tz D σ H1) : tSeq (tDrop (tBM K "list" rAppend ta (tCons te tNil))) tz D σ H :=
  ha H (Ex.refl H) _ fun p H1 h0 e1 h1 => ⟨Or.inl ⟨rfl, xs, sq_of h1⟩, h H1 e1 H1 (Ex.refl H1) _ fun H2 e2 => ⟨p, xs, v, rfl, rfl, e2 p _ h1, sz_lt hz, k _ (Ex.mut (e1.trans e2) h0)⟩⟩
/-! ### values by their data -/
def EvD (K : PySem.W.Frag) (te : TE) (σ : L2.St) (H : Hp) (d : PyData) : Prop := EvP te σ H fun v H => Dp K H v d
def EvDA (K : PySem.W.Frag) (tr : TA) (σ : L2.St) (H : Hp) (ds : List PyData) : Prop := ∀ H1, Ex H H1 → ∀ Q : List V → Hp → Prop, (∀ vs H2, Ex H1 H2 → DpAll K H2 vs ds → Q vs H2) → tr σ H1 Q
theorem dpAll_len : ∀ {vs : List V} {ds : List PyData}, DpAll K H vs ds → vs.length = ds.length
  | _, _, .nil => rfl
  | _, _, .cons _ h => congrArg (· + 1) (dpAll_len h)
theorem ed_ev {d : PyData} (h : Ev te σ H v) (hd : ∀ H1, Ex H H1 → Dp K H1 v d) : EvD K te σ H d := ep_ev h hd
theorem ed_i {i : Int} (h : Ev te σ H (.int i)) : EvD K te σ H (.int i) := ed_ev h fun _ _ => .int i
theorem ed_s {s : Str} (h : Ev te σ H (.str s)) : EvD K te σ H (.str s) := ed_ev h fun _ _ => .str s
theorem ed_n (h : Ev te σ H .non) : EvD K te σ H .none := ed_ev h fun _ _ => .non
theorem ed_var {i : Nat} {d : PyData} (h : σ[i]? = some (some v)) (hd : Dp K H v d) : EvD K (tVar i) σ H d := ed_ev (ev_var h) fun _ e => Dp.ex e d _ hd
theorem ed_l {ds : List PyData} (h : EvL te σ H xs) (hd : ∀ H1, DpAll K H1 xs ds) : EvD K te σ H (.list ds) := ep_l h fun p H1 _ h1 => .lst (sq_of h1) (hd H1)
theorem eda_nil : EvDA K tNil σ H [] := fun H1 _ Q q => q [] H1 (Ex.refl H1) .nil
theorem eda_cons {d : PyData} {ds : List PyData} (h : EvD K te σ H d) (hr : EvDA K tr σ H ds) : EvDA K (tCons te tr) σ H (d :: ds) := fun H1 e Q q =>
  h H1 e _ fun v H2 e2 hv => hr H2 (e.trans e2) _ fun vs H3 e3 hvs => q (v :: vs) H3 (e2.trans e3) (.cons (Dp.ex e3 d _ hv) hvs)
theorem ed_lst {ds : List PyData} (h : EvDA K tr σ H ds) (hl : ds.length ≤ 100000) : EvD K (tLst tr) σ H (.list ds) := fun H1 e Q q =>
  h H1 e _ fun vs H2 e2 hvs => ⟨sz_of (by rw [dpAll_len hvs]; exact hl), fun r hr => q _ _ (e2.trans (Ex.new hr)) (.lst (sq_of upd_same) (DpAll.ex (Ex.new hr) ds _ hvs))⟩
theorem ed_tup {ds : List PyData} (h : EvDA K tr σ H ds) (hl : ds.length ≤ 100000) : EvD K (tTup tr) σ H (.tuple ds) := fun H1 e Q q =>
  h H1 e _ fun vs H2 e2 hvs => ⟨sz_of (by rw [dpAll_len hvs]; exact hl), fun r hr => q _ _ (e2.trans (Ex.new hr)) (.tup (st_of upd_same) (DpAll.ex (Ex.new hr) ds _ hvs))⟩
theorem ev_neD {d e : PyData} (ha : EvD K ta σ H d) (hb : EvD K tb σ H e) (s1 : SeqAt.shaped d = true) (s2 : SeqAt.shaped e = true) : Ev (tOp (rNeD K) ta tb) σ H (.bl (!PyData.eqv d e)) := fun H1 ex Q q =>
  ha H1 ex _ fun v H2 e2 hv => hb H2 (ex.trans e2) _ fun w H3 e3 hw => ⟨d, e, Dp.ex e3 d _ hv, hw, s1, s2, q H3 (e2.trans e3)⟩
theorem ev_eqD {d e : PyData} (ha : EvD K ta σ H d) (hb : EvD K tb σ H e) (s1 : SeqAt.shaped d = true) (s2 : SeqAt.shaped e = true) : Ev (tOp (rEqD K) ta tb) σ H (.bl (PyData.eqv d e)) := fun H1 ex Q q =>
  ha H1 ex _ fun v H2 e2 hv => hb H2 (ex.trans e2) _ fun w H3 e3 hw => ⟨d, e, Dp.ex e3 d _ hv, hw, s1, s2, q H3 (e2.trans e3)⟩
theorem q_asgD {i : Nat} {d : PyData} (h : EvD K te σ H d) (k : ∀ v H1, Ex H H1 → Dp K H1 v d → tz D (σ.set i (some v)) H1) : tSeq (tAsg te (gName i)) tz D σ H := h H (Ex.refl H) _ fun v H1 e hv => k v H1 e hv
/-- [e for v, w in xs if t], of pairs -/
theorem el_lcP {j1 j2 : Nat} {vs : List Nat} {u : TT} {tl : TE} (v w : Nat → V) (f : Nat → Bool) (z : Nat → V) (h : Ev tl σ H (.ref a)) (hx : SqL K H a xs) (hz : xs.length ≤ 40000) (hw : ∀ x y, wipe (((wipe σ vs).set j1 (some x)).set j2 (some y)) vs = wipe σ vs)
    (hT : ∀ i, i < xs.length → ∀ H1, Ex H H1 → ∃ t, xs[i]? = some (.ref t) ∧ SqT K H1 t [v i, w i])
    (ht : ∀ (i : Nat) H1, Ex H H1 → i < xs.length → EvT u (((wipe σ vs).set j1 (some (v i))).set j2 (some (w i))) H1 (f i)) (he : ∀ (i : Nat) H1, Ex H H1 → i < xs.length → f i = true → Ev te (((wipe σ vs).set j1 (some (v i))).set j2 (some (w i))) H1 (z i)) :
    EvL (tLc (iList K tl) (gTup K 2 (gCons (gName j1) (gCons (gName j2) gNil))) u te vs) σ H (given xs.length f z) := fun H0 e Q q => h H0 e _ fun H1 e1 => ⟨a, rfl, ⟨xs, ex_l (e.trans e1) hx⟩, fun Dl hD =>
  lc_list (xs := xs) (Cw H1 f z Dl) ⟨hD, Ex.new hD, upd_same⟩ (fun i H' _ p => ex_l ((e.trans e1).trans p.2.1) hx) (fun i x H' hi p => by
    have il := (List.getElem?_eq_some_iff.mp hi).1
    obtain ⟨t, h1, h2⟩ := hT i il H' ((e.trans e1).trans p.2.1)
    rw [hi] at h1
    cases h1
    exact g_tup2 h2 ⟨hw _ _, cw_turn p (by omega) (ht i H1 (e.trans e1) il) (fun hf => he i H1 (e.trans e1) il hf)⟩)
    (fun H' p => q Dl H' (fresh_back e1 p.1) (e1.trans p.2.1) p.2.2)⟩
/-- {k1: .., k2: .., k3: ..}[x] -/
theorem ev_dict3 {t1 t2 t3 ty : TE} {k1 k2 k3 s : Str} {v1 v2 v3 : V} (h1 : Ev t1 σ H v1) (h2 : Ev t2 σ H v2) (h3 : Ev t3 σ H v3) (hy : Ev ty σ H (.str s))
    (hv : valV (mergeK [] [((Sum.inr k1 : Key), v1), (.inr k2, v2), (.inr k3, v3)]) (.inr s) = some v) : Ev (tDGet (tDisp [((tC (.str k1)), t1), ((tC (.str k2)), t2), ((tC (.str k3)), t3)]) ty) σ H v := fun H1 e Q q => by
  intro p hp
  have e0 : Ex H (upd H1 p (.dK [])) := e.trans (Ex.new hp)
  refine h1 _ e0 _ fun H2 e2 => h2 H2 (e0.trans e2) _ fun H3 e3 => h3 H3 ((e0.trans e2).trans e3) _ fun H4 e4 => ?_
  have e24 := (e2.trans e3).trans e4
  have hpd : H4 p = some (.dK []) := e24 p _ upd_same
  have eH : Ex H1 H4 := (Ex.new hp).trans e24
  refine ⟨hpd, [(.inr k1, v1), (.inr k2, v2), (.inr k3, v3)], rfl, by show 3 ≤ 15; decide, ?_⟩
  refine hy _ (Ex.mut (e.trans eH) (fresh_back e hp)) _ fun H5 e5 => ⟨p, v, rfl, .inl ⟨_, .inr s, .inl (e5 p _ upd_same), rfl, hv.symm⟩, q H5 ((Ex.mut eH hp).trans e5)⟩
theorem ev_lenN' (ha : EvL ta σ H xs) : Ev (tCB (bLenQ K) (tCons ta tNil)) σ H (.int (xs.length : Int)) := fun H1 e Q q =>
  ha H1 e _ fun p H2 _ e2 h2 => ⟨p, xs, rfl, .inl (sq_of h2), q H2 e2⟩
end
end Sv

set_option Elab.async false
set_option linter.all false
set_option maxRecDepth 100000
set_option maxHeartbeats 4000000
/-! SvCls: own classes: methods, instances made, fields read and stored; loops over enumerate and reversed. -/
namespace Sv
open PySem PySem.Spec PyProof.Rows L2 Evl HotX L2H LamX
/-! ### methods -/
structure MethAt (K : PySem.W.Frag) (C : Addr) (x q : Str) (st : Stmt) : Prop where
  ex : ∃ (f : Addr) (fd : FuncData), Fun K x q st f fd ∧ PySem.W.findIn K (.ref C) x = some (some (.ref f)) ∧ PySem.W.isFn K (.ref f) = true
structure OkM (P : Program) (w : World) (K : PySem.W.Frag) (mg : Str → Option Value) (base : Heap) (CX : CXT) (k : Nat) (C : Addr) (x : Str) (ps : List Str) (sp : Sp) : Prop where
  ex : ∃ (f : Addr) (fd : FuncData), FnOk P w K mg base CX k f fd ps sp ∧ Meth K C x f ∧ Binds K fd ps []
structure ClsT (K : PySem.W.Frag) (mg : Str → Option Value) (C : Addr) (x : Str) : Prop where
  cl : Cls K C
  mgC : mg x = some (.ref C)
  mks : PySem.W.makesIn K C = true
  kp : PySem.W.keepIn K (.ref C) = true
theorem methAt_mk {K : PySem.W.Frag} {C : Addr} {x q : Str} {st : Stmt} {f : Addr} {od an : Option Addr} {sl : Array (Option Value)} {oc kV dc pm cd ct : Value}
    (a : PySem.W.findIn K (.ref C) x = some (some (.ref f))) (i : PySem.W.isFn K (.ref f) = true) (l : K.lookup f = some ⟨oc, od, .func (PySem.W.fnOf x q (defArgs st) (defBody st) (defScope st) .none kV dc pm an cd ct), sl⟩) (c : PySem.W.codeIn K cd q = true) (k : PySem.W.keepIn K (.ref f) = true) : MethAt K C x q st :=
  ⟨f, _, fun_mk l c k, a, i⟩
section
variable {P : Program} {w : World} {K : PySem.W.Frag} {mg : Str → Option Value} {base : Heap} {CX : CXT} {x q : Str} {st : Stmt} {N ps : List Str} {k : Nat} {sp : Sp} {C : Addr}
theorem mk_okM (D : MethAt K C x q st) (S : FnScope N ps (defScope st))
    (hb : ∀ (kV doc pm : Value) (an : Option Addr) (cdv ct : Value) (us : List Value), us.length = ps.length → bindArgs (PySem.W.fnOf x q (defArgs st) (defBody st) (defScope st) .none kV doc pm an cdv ct) ⟨us, []⟩ = pure (ps.zip us))
    (len : ∀ vs H Q E, sp vs H Q E → vs.length = ps.length) (t : XK → TS) (hp : ∀ vs H Q E, sp vs H Q E → t E (dn Q) (start N vs) H)
    (hd : ∀ (f : Addr) (cdv : Value) (A : Around) (outer : List Env) (s : Shared) (H : Hp) (E : XK), Room k (A.deeper (envOfC q (defScope st) s.heap.objs.size f cdv)) → PSs (cxOf CX P w K mg base N q (defScope st) f cdv A outer s H E) (defBody st) (t E)) :
    OkM P w K mg base CX (k + 1) C x ps sp := by
  obtain ⟨f, fd, F, ha, hi⟩ := D.ex
  obtain ⟨oc, od, kV, doc, pm, an, cdv, ct, osl, rfl, lk, hcd⟩ := F.ex
  exact ⟨f, _, fn_of lk hcd S len fun A outer s H vs Q E hr hsp => ⟨t E, hd f cdv A outer s H E hr, hp vs H Q E hsp⟩, ⟨ha, hi, F.kp⟩, F.binds hb⟩
/-- a def that is promised nothing of -/
theorem ok_none (D : DefAt K mg x st)
    (hb : ∀ (kV doc pm : Value) (an : Option Addr) (cdv ct : Value) (us : List Value), us.length = ps.length → bindArgs (PySem.W.fnOf x x (defArgs st) (defBody st) (defScope st) .none kV doc pm an cdv ct) ⟨us, []⟩ = pure (ps.zip us))
    (no : ∀ vs H Q E, sp vs H Q E → False) : Ok P w K mg base CX 0 x ps sp := by
  obtain ⟨f, fd, F, hm⟩ := D.ex
  exact ⟨f, fd, ⟨fun vs H Q E h => (no vs H Q E h).elim, fun A outer s H args us vs Q E _ _ _ _ h => (no vs H Q E h).elim⟩, hm, F.kp, F.binds hb⟩
end
theorem Ok.mono {P : Program} {w : World} {K : PySem.W.Frag} {mg : Str → Option Value} {base : Heap} {CX : CXT} {j k : Nat} {x : Str} {ps : List Str} {sp : Sp} (F : Ok P w K mg base CX j x ps sp) (h : j ≤ k) : Ok P w K mg base CX k x ps sp := by
  obtain ⟨f, fd, F, hm, hk, hb⟩ := F.ex
  exact ⟨f, fd, F.mono h, hm, hk, hb⟩
theorem no1 : ∀ vs H Q E, sp1 (fun _ _ _ _ => False) vs H Q E → False := fun vs H Q E h => by
  match vs, h with
  | [_], h => exact h
theorem no2 : ∀ vs H Q E, sp2 (fun _ _ _ _ _ => False) vs H Q E → False := fun vs H Q E h => by
  match vs, h with
  | [_, _], h => exact h
section
variable {X : Cx} {CX : CXT} {k j : Nat} {ps : List Str} {sp : Sp} {E : XK} {x m : Str} {p pos apos : Pos} {e o : Expr} {es : List Expr} {t : TA} {ta : TE} {C : Addr}
theorem pe_okM {pl : Sem Bool} (F : OkM X.prog X.w X.K X.mg X.base CX k C m ps sp) (c : Cls X.K C) (hr : Room j X.A) (hk : k ≤ j) (hx : Passes CX X E) (ho : PE X o ta) (ha : PA X (e :: es) t)
    (hst : starEach (e :: es) X.env = (false, eval e X.env) :: starEach es X.env := by rfl) (hpl : (backTo pos (starEach es X.env)).any (·.1) = false := by rfl)
    (ht : eval (.Call (.Attribute o m apos) (e :: es) [] pos) X.env = (do
      let ov ← eval o X.env
      standAt apos.atName
      let (f, first) ← holding [ov] (getMethod ov m pl)
      callWith pos f first (backTo pos (starEach (e :: es) X.env)) (backToKw pos (keywordEach [] X.env))) := by rfl) :
    PE X (.Call (.Attribute o m apos) (e :: es) [] pos) (tMeth C m sp [] E ta t) := by
  obtain ⟨f, fd, F, hm, hb⟩ := F.ex
  exact pe_meth (pl := pl) ho c hm F (hr.mono hk) hb .nil hx ha hst hpl ht
theorem pe_okM0 {pl : Sem Bool} (F : OkM X.prog X.w X.K X.mg X.base CX k C m ps sp) (c : Cls X.K C) (hr : Room j X.A) (hk : k ≤ j) (hx : Passes CX X E) (ho : PE X o ta)
    (ht : eval (.Call (.Attribute o m apos) [] [] pos) X.env = (do
      let ov ← eval o X.env
      standAt apos.atName
      let (f, first) ← holding [ov] (getMethod ov m pl)
      callWith pos f first (backTo pos (starEach [] X.env)) (backToKw pos (keywordEach [] X.env))) := by rfl) :
    PE X (.Call (.Attribute o m apos) [] [] pos) (tMeth C m sp [] E ta tNil) := by
  obtain ⟨f, fd, F, hm, hb⟩ := F.ex
  exact pe_meth0 (pl := pl) ho c hm F (hr.mono hk) hb .nil hx ht
theorem pe_mkM (F : OkM X.prog X.w X.K X.mg X.base CX k C "__init__" ps sp) (T : ClsT X.K X.mg C x) (hr : Room j X.A) (hk : k + 1 ≤ j) (hg : Gl X x) (hx : Passes CX X E)
    (ha : PA X (e :: es) t) (hdb : (x == ("__debug__" : Str)) = false := by decide) (he : starEach (e :: es) X.env = (false, eval e X.env) :: starEach es X.env := by rfl) (hpl : (backTo pos (starEach es X.env)).any (·.1) = false := by rfl) :
    PE X (.Call (.Name x p) (e :: es) [] pos) (tMake C sp [] E t) := by
  obtain ⟨f, fd, F, hm, hb⟩ := F.ex
  exact pe_make ⟨T.mks, hm.at_, hm.fn, T.kp⟩ F (hr.mono hk) hg T.mgC hb .nil hx ha hdb he hpl
theorem pe_mkM0 (F : OkM X.prog X.w X.K X.mg X.base CX k C "__init__" ps sp) (T : ClsT X.K X.mg C x) (hr : Room j X.A) (hk : k + 1 ≤ j) (hg : Gl X x) (hx : Passes CX X E)
    (hdb : (x == ("__debug__" : Str)) = false := by decide) : PE X (.Call (.Name x p) [] [] pos) (tMake C sp [] E tNil) := by
  obtain ⟨f, fd, F, hm, hb⟩ := F.ex
  exact pe_make0 ⟨T.mks, hm.at_, hm.fn, T.kp⟩ F (hr.mono hk) hg T.mgC hb .nil hx hdb
end
/-! ### what they evaluate to -/
section
variable {K : PySem.W.Frag} {σ : L2.St} {H H' : Hp} {ta tb te tc tv : TE} {tr : TA} {x y z v : V} {a p C dx : Addr} {xs ys : List V} {D : Ends} {tz tu : TS} {fs : List (Str × V)} {f m : Str} {E : XK}
theorem ev_fld (ho : Ev ta σ H (.ref p)) (hp : H p = some (.ins C dx fs)) (c : Cls K C) (n : NoAttr K C f) (hl : fs.lookup f = some v) : Ev (tFld K ta f) σ H v :=
  fun H1 e Q q => ho H1 e _ fun H2 e2 => ⟨p, C, dx, fs, v, rfl, (e.trans e2) p _ hp, c, n, hl, q H2 e2⟩
theorem s_fld (hv : Ev tv σ H v) (ho : Ev ta σ H (.ref p)) (hp : H p = some (.ins C dx fs)) (c : Cls K C) (n : NoAttr K C f) (hl : fs.length < 1000) (k : ∀ H1, Ex H H1 → D.nx σ (upd H1 p (.ins C dx (putF f v fs)))) : sFld K ta tv f D σ H :=
  hv H (Ex.refl H) _ fun H1 e1 => ho H1 e1 _ fun H2 e2 => ⟨p, C, dx, fs, rfl, (e1.trans e2) p _ hp, c, n, hl, k H2 (e1.trans e2)⟩
theorem q_fld (hv : Ev tv σ H v) (ho : Ev ta σ H (.ref p)) (hp : H p = some (.ins C dx fs)) (c : Cls K C) (n : NoAttr K C f) (hl : fs.length < 1000) (k : ∀ H1, Ex H H1 → tz D σ (upd H1 p (.ins C dx (putF f v fs)))) : tSeq (sFld K ta tv f) tz D σ H :=
  s_fld (D := { D with nx := tz D }) hv ho hp c n hl k
theorem ev_meth1 {R : R2'} (ho : Ev ta σ H (.ref p)) (hp : H p = some (.ins C dx fs)) (hm : fs.lookup m = none) (ha : Ev tb σ H y) (h : ∀ H1, Ex H H1 → ∀ Q : VK, (∀ H2, Ex H1 H2 → Q z H2) → R (.ref p) y H1 Q E) : Ev (tMeth C m (sp2 R) [] E ta (tCons tb tNil)) σ H z :=
  fun H1 e Q q => ho H1 e _ fun H2 e2 => ⟨p, dx, fs, rfl, (e.trans e2) p _ hp, hm, ha H2 (e.trans e2) _ fun H3 e3 => h H3 ((e.trans e2).trans e3) Q fun H4 e4 => q H4 ((e2.trans e3).trans e4)⟩
theorem el_revN (ha : EvL ta σ H xs) : EvL (tRevL K ta) σ H xs.reverse :=
  fun H1 e Q q => ha H1 e _ fun r H2 h0 e2 h2 => ⟨r, xs, rfl, sq_of h2, fun p hp => q p _ (fresh_back e2 hp) (e2.trans (Ex.new hp)) upd_same⟩
/-- x = C(e, e') -/
theorem q_mk2 {R : R3} {i : Nat} (ha : Ev ta σ H x) (hb : Ev tb σ H y) (h : ∀ H1 p dx, Ex H H1 → H1 p = none → H1 dx = none → dx ≠ p → R (.ref p) x y (upd (upd H1 dx (.own p)) p (.ins C dx [])) (fun v H2 => v = .non ∧ tz D (σ.set i (some (.ref p))) H2) E) :
    tSeq (tAsg (tMake C (sp3 R) [] E (tCons ta (tCons tb tNil))) (gName i)) tz D σ H :=
  ha H (Ex.refl H) _ fun H1 e1 => hb H1 e1 _ fun H2 e2 => fun p dx h1 h2 h3 => h H2 p dx (e1.trans e2) h1 h2 h3
theorem q_mk2L {R : R3} {i : Nat} (ha : Ev ta σ H x) (hb : EvL tb σ H ys) (h : ∀ H1 l p dx, H l = none → Ex H H1 → H1 l = some (.lst ys) → H1 p = none → H1 dx = none → dx ≠ p → R (.ref p) x (.ref l) (upd (upd H1 dx (.own p)) p (.ins C dx [])) (fun v H2 => v = .non ∧ tz D (σ.set i (some (.ref p))) H2) E) :
    tSeq (tAsg (tMake C (sp3 R) [] E (tCons ta (tCons tb tNil))) (gName i)) tz D σ H :=
  ha H (Ex.refl H) _ fun H1 e1 => hb H1 e1 _ fun l H2 h0 e2 h2 => fun p dx h3 h4 h5 => h H2 l p dx (fresh_back e1 h0) (e1.trans e2) h2 h3 h4 h5
/-! ### for i, x in enumerate(xs); for x in reversed(xs) -/
theorem s_forE {j1 j2 : Nat} (h : EvA tr σ H [.ref a]) (hx : SqL K H a xs) (Pv : Nat → L2.St → Hp → Prop) (h0 : ∀ H1, Ex H H1 → Pv 0 σ H1) (hl : ∀ i σ' H', i ≤ xs.length → Pv i σ' H' → SqL K H' a xs)
    (hs : ∀ (i : Nat) (x : V) σ' H' t, xs[i]? = some x → Pv i σ' H' → H' t = none → tu { D with nx := Pv (i + 1), ct := Pv (i + 1), bk := D.nx } ((σ'.set j1 (some (.int (i : Nat)))).set j2 (some x)) (upd H' t (.tup [.int (i : Nat), x]))) (hd : ∀ σ' H', Pv xs.length σ' H' → D.nx σ' H') :
    tFor (iEnum K tr) (gTup K 2 (gCons (gName j1) (gCons (gName j2) gNil))) tu D σ H :=
  h H (Ex.refl H) _ fun H1 e1 => ⟨a, xs, rfl, ex_l e1 hx, by
    refine ⟨fun i m σ' H' => m = xs.length - i ∧ i ≤ xs.length ∧ Pv i σ' H', ⟨xs.length, by simp, Nat.zero_le _, h0 H1 e1⟩, ?_⟩
    rintro i m σ' H' ⟨rfl, hi, p⟩
    have hq := hl i σ' H' hi p
    by_cases hlt : i < xs.length
    · refine .inr ⟨⟨xs, xs[i], hq, by simp [hlt]⟩, Pv (i + 1), fun σ2 H2 p' => ⟨xs.length - (i + 1), by omega, rfl, hlt, p'⟩, fun x H2 y => ?_⟩
      obtain ⟨T0, x0, rfl, hT, rfl, hx0⟩ := y
      exact g_tup2 (st_of upd_same) (hs i x0 σ' H' T0 (hx0 xs hq) p hT)
    · have ei : i = xs.length := by omega
      subst ei
      exact .inl ⟨⟨xs, hq, Nat.le_refl _⟩, hd σ' H' p⟩⟩
theorem q_forE {j1 j2 : Nat} (h : EvA tr σ H [.ref a]) (hx : SqL K H a xs) (Pv : Nat → L2.St → Hp → Prop) (h0 : ∀ H1, Ex H H1 → Pv 0 σ H1) (hl : ∀ i σ' H', i ≤ xs.length → Pv i σ' H' → SqL K H' a xs)
    (hs : ∀ (i : Nat) (x : V) σ' H' t, xs[i]? = some x → Pv i σ' H' → H' t = none → tu { D with nx := Pv (i + 1), ct := Pv (i + 1), bk := tz D } ((σ'.set j1 (some (.int (i : Nat)))).set j2 (some x)) (upd H' t (.tup [.int (i : Nat), x]))) (hd : ∀ σ' H', Pv xs.length σ' H' → tz D σ' H') :
    tSeq (tFor (iEnum K tr) (gTup K 2 (gCons (gName j1) (gCons (gName j2) gNil))) tu) tz D σ H := s_forE (D := { D with nx := tz D }) h hx Pv h0 hl hs hd
theorem s_forRv {j : Nat} (h : EvL te σ H xs) (Pv : Addr → Nat → L2.St → Hp → Prop) (h0 : ∀ p H1, H p = none → Ex H H1 → H1 p = some (.lst xs) → Pv p 0 σ H1) (hl : ∀ p i σ' H', Pv p i σ' H' → SqL K H' p xs)
    (hs : ∀ p (i : Nat) (x : V) σ' H', i < xs.length → xs[xs.length - 1 - i]? = some x → Pv p i σ' H' → tu { D with nx := Pv p (i + 1), ct := Pv p (i + 1), bk := D.nx } (σ'.set j (some x)) H') (hd : ∀ p σ' H', Pv p xs.length σ' H' → D.nx σ' H') :
    tFor (RT.iRevA K te) (gName j) tu D σ H :=
  h H (Ex.refl H) _ fun p H1 hp e1 h1 => ⟨p, xs, rfl, .inl ⟨sq_of h1, RT.for_Itv (Pv p) (h0 p H1 hp e1 h1) (hl p) (hs p) (hd p)⟩⟩
/-- list(range(n)) -/
theorem el_lstRg {n : Nat} {tRg : L2.St → Hp → (Int → Int → Hp → Prop) → Prop} (h : ∀ H1, Ex H H1 → ∀ R : Int → Int → Hp → Prop, (∀ H2, Ex H1 H2 → R 0 (n : Int) H2) → tRg σ H1 R) (hn : n ≤ 100000) : EvL (tLstRg tRg) σ H (rgV 0 (n : Int)) :=
  fun H1 e Q q => h H1 e _ fun H2 e2 => ⟨.of_le (by omega) (by omega) (by omega) (by omega), fun r hr => q r _ (fresh_back e2 hr) (e2.trans (Ex.new hr)) upd_same⟩
end
/-! ### lists of triples of numbers -/
inductive Row3 (K : PySem.W.Frag) (H : Hp) : List V → List (Nat × Nat × Nat) → Prop
  | nil : Row3 K H [] []
  | cons {t : Addr} {p : Nat × Nat × Nat} {xs : List V} {ps : List (Nat × Nat × Nat)} : SqT K H t [.int (p.1 : Int), .int (p.2.1 : Int), .int (p.2.2 : Int)] → Row3 K H xs ps → Row3 K H (.ref t :: xs) (p :: ps)
theorem Row3.ex {K : PySem.W.Frag} {H H' : Hp} (e : Ex H H') : ∀ {xs : List V} {ps : List (Nat × Nat × Nat)}, Row3 K H xs ps → Row3 K H' xs ps
  | _, _, .nil => .nil
  | _, _, .cons h r => .cons (ex_t e h) (r.ex e)
theorem Row3.len {K : PySem.W.Frag} {H : Hp} : ∀ {xs : List V} {ps : List (Nat × Nat × Nat)}, Row3 K H xs ps → xs.length = ps.length
  | _, _, .nil => rfl
  | _, _, .cons _ r => congrArg (· + 1) r.len
theorem Row3.app {K : PySem.W.Frag} {H : Hp} : ∀ {xs ys : List V} {ps qs : List (Nat × Nat × Nat)}, Row3 K H xs ps → Row3 K H ys qs → Row3 K H (xs ++ ys) (ps ++ qs)
  | _, _, _, _, .nil, s => s
  | _, _, _, _, .cons h r, s => .cons h (r.app s)
theorem Row3.mut {K : PySem.W.Frag} {H : Hp} {l : Addr} {zs : List V} {o : HO} (hl : H l = some (.lst zs)) : ∀ {xs : List V} {ps : List (Nat × Nat × Nat)}, Row3 K H xs ps → Row3 K (upd H l o) xs ps
  | _, _, .nil => .nil
  | _, _, .cons h r => .cons (sqT_mut hl h) (r.mut hl)
theorem Row3.drop1 {K : PySem.W.Frag} {H : Hp} : ∀ {xs : List V} {ps : List (Nat × Nat × Nat)}, Row3 K H xs ps → Row3 K H (xs.drop 1) (ps.drop 1)
  | _, _, .nil => .nil
  | _, _, .cons h r => r
theorem Row3.at {K : PySem.W.Frag} {H : Hp} : ∀ {xs : List V} {ps : List (Nat × Nat × Nat)} {i : Nat} {x : V}, Row3 K H xs ps → xs[i]? = some x → ∃ t p, x = .ref t ∧ ps[i]? = some p ∧ SqT K H t [.int (p.1 : Int), .int (p.2.1 : Int), .int (p.2.2 : Int)]
  | _, _, _, _, .nil, h => by simp at h
  | _, _, 0, x, .cons (t := t) (p := p) h r, e => by
    simp at e
    exact ⟨t, p, e.symm, rfl, h⟩
  | _, _, i + 1, x, .cons h r, e => r.at (by simpa using e)
section
variable {K : PySem.W.Frag} {σ : L2.St} {H H' : Hp} {ta tb te tc tv : TE} {tr : TA} {L : List (Nat × Nat × Nat)} {D : Ends} {tz tu : TS}
/-- a new list of triples -/
def EvR (K : PySem.W.Frag) (te : TE) (σ : L2.St) (H : Hp) (L : List (Nat × Nat × Nat)) : Prop := ∀ H1, Ex H H1 → ∀ Q : VK, (∀ p xs H2, H1 p = none → Ex H1 H2 → H2 p = some (.lst xs) → Row3 K H2 xs L → Q (.ref p) H2) → te σ H1 Q
theorem er_from1 (h : EvR K te σ H L) (hz : L.length ≤ 100000) : EvR K (tSl (rSlL K) te (tPart (tC (.int 1))) tNoPart) σ H (L.drop 1) := fun H1 e Q q =>
  h H1 e _ fun p xs H2 h0 e2 h2 hR => by
    have := el_from1 (K := K) (te := tC (.ref p)) (σ := σ) (H := H2) ev_c (sq_of h2)
    exact this H2 (Ex.refl H2) Q fun r H3 h3 e3 h4 => q r _ H3 (fresh_back e2 h3) (e2.trans e3) h4 ((hR.ex e3).drop1)
theorem g_tup3 {i j k : Nat} {u v w : V} {p : Addr} {Q : L2.St → Hp → Prop} (h : SqT K H p [u, v, w]) (q : Q (((σ.set i (some u)).set j (some v)).set k (some w)) H) : gTup K 3 (gCons (gName i) (gCons (gName j) (gCons (gName k) gNil))) (.ref p) σ H Q :=
  ⟨p, [u, v, w], rfl, h, rfl, u, [v, w], rfl, v, [w], rfl, w, [], rfl, rfl, q⟩
/-- [e for i, j, k in triples if t] -/
theorem el_lc3 {j1 j2 j3 : Nat} {vs : List Nat} {u : TT} {tl : TE} (f : Nat → Bool) (z : Nat → V) (h : EvR K tl σ H L) (hz : L.length ≤ 40000) (hw : ∀ x y v, wipe ((((wipe σ vs).set j1 (some x)).set j2 (some y)).set j3 (some v)) vs = wipe σ vs)
    (ht : ∀ (i : Nat) r H1, Ex H H1 → L[i]? = some r → EvT u ((((wipe σ vs).set j1 (some (.int (r.1 : Int)))).set j2 (some (.int (r.2.1 : Int)))).set j3 (some (.int (r.2.2 : Int)))) H1 (f i))
    (he : ∀ (i : Nat) r H1, Ex H H1 → L[i]? = some r → f i = true → Ev te ((((wipe σ vs).set j1 (some (.int (r.1 : Int)))).set j2 (some (.int (r.2.1 : Int)))).set j3 (some (.int (r.2.2 : Int)))) H1 (z i)) :
    EvL (tLc (iList K tl) (gTup K 3 (gCons (gName j1) (gCons (gName j2) (gCons (gName j3) gNil)))) u te vs) σ H (given L.length f z) := fun H0 e Q q => h H0 e _ fun a xs H1 h0 e1 h1 hR => by
  have hl := hR.len
  rw [← hl] at q
  exact ⟨a, rfl, ⟨xs, sq_of h1⟩, fun Dl hD =>
    lc_list (xs := xs) (Cw H1 f z Dl) ⟨hD, Ex.new hD, upd_same⟩ (fun i H' _ p => sq_of (p.2.1 a _ h1)) (fun i x H' hi p => by
      have il := (List.getElem?_eq_some_iff.mp hi).1
      obtain ⟨t, r, rfl, h2, h3⟩ := (hR.ex p.2.1).at hi
      exact g_tup3 h3 ⟨hw _ _ _, cw_turn p (by omega) (ht i r H1 (e.trans e1) h2) (fun hf => he i r H1 (e.trans e1) h2 hf)⟩)
      (fun H' p => q Dl H' (fresh_back e1 p.1) (e1.trans p.2.1) p.2.2)⟩
/-- [e for i, j, k in triples], by the triples -/
theorem el_map3 {j1 j2 j3 : Nat} {vs : List Nat} {tl : TE} (z : Nat × Nat × Nat → V) (h : EvR K tl σ H L) (hz : L.length ≤ 40000) (hw : ∀ x y v, wipe ((((wipe σ vs).set j1 (some x)).set j2 (some y)).set j3 (some v)) vs = wipe σ vs)
    (he : ∀ r H1, Ex H H1 → r ∈ L → Ev te ((((wipe σ vs).set j1 (some (.int (r.1 : Int)))).set j2 (some (.int (r.2.1 : Int)))).set j3 (some (.int (r.2.2 : Int)))) H1 (z r)) :
    EvL (tLc (iList K tl) (gTup K 3 (gCons (gName j1) (gCons (gName j2) (gCons (gName j3) gNil)))) tYes te vs) σ H (L.map z) := by
  have h0 := el_lc3 (te := te) (fun _ => true) (fun i => z (L.getD i (0, 0, 0))) h hz hw (fun _ _ _ _ _ => et_yes) fun i r H1 e1 hi _ => by
    rw [show L.getD i (0, 0, 0) = r by rw [List.getD_eq_getElem?_getD, hi]; rfl]
    exact he r H1 e1 (List.mem_of_getElem? hi)
  refine el_eq h0 ?_
  rw [given_all]
  apply List.ext_getElem
  · simp
  · intro i h1 h2
    simp only [List.getElem_map, List.getElem_range]
    rw [List.getD_eq_getElem?_getD, List.getElem?_eq_getElem (by simpa using h2)]
    rfl
end
section
variable {K : PySem.W.Frag} {σ : L2.St} {H H' Hb : Hp} {ta tb te tc tv : TE} {tr : TA} {x y z v : V} {a p l q : Addr} {xs ys : List V} {D : Ends} {tz tu : TS} {T : List (Addr × Str)} {W : Addr → Str → Prop} {t : XK → TE}
/-! ### what is told, listed -/
theorem tll_told (h : ∀ H1, NX T H H1 → ∀ Q : VK, (∀ p H2, NX T H1 H2 → H2 p = some (.lst xs) → Q (.ref p) H2) → t (ET W Q) σ H1 Q) : TlL T (tTold T W t) σ H xs :=
  fun H1 n Q q => ⟨n.2, fun H2 n2 t2 => h H2 (n.trans ⟨n2, t2⟩) Q fun p H3 n3 h3 => q p H3 (NX.trans ⟨n2, t2⟩ n3) h3⟩
theorem call2P {P : V → Hp → Prop} {Q : VK} {R : R2'} {E : XK} (ha : Ev ta σ H x) (hb : EvP tb σ H P) (h : ∀ v H1, Ex H H1 → P v H1 → R x v H1 Q E) : tCall (sp2 R) [] E (tCons ta (tCons tb tNil)) σ H Q := ha H (Ex.refl H) _ fun H1 e => hb H1 e _ fun v H2 e2 hv => h v H2 (e.trans e2) hv
theorem q_lstS {i : Nat} (hT : Tabs T H) (h : Tl T te σ H v) (k : ∀ l H1 H2, NX T H H1 → H1 l = none → NX T H1 H2 → H2 l = some (.lst [v]) → tz D (σ.set i (some (.ref l))) H2) : tSeq (tAsg (tLst (tCons te tNil)) (gName i)) tz D σ H :=
  q_lstT hT h fun l H1 n1 l0 => k l H1 _ n1 l0 (nx_of n1.2 (Ex.new l0)) upd_same
theorem q_appS {i : Nat} (nb : NX T Hb H) (l0 : Hb l = none) (hl : H l = some (.lst xs)) (hi : σ[i]? = some (some (.ref l))) (h : Tl T te σ H v) (hz : xs.length < 100000) (k : ∀ H2, NX T Hb H2 → H2 l = some (.lst (xs ++ [v])) → tz D σ H2) :
    tSeq (tDrop (tBM K "list" rAppend (tVar i) (tCons te tNil))) tz D σ H := q_appT nb.2 hl hi h hz fun H1 n1 => k _ ((nb.trans n1).mut l0 (n1.o hl)) upd_same
theorem tl_opLv {r : R2} (ha : TlL T ta σ H xs) (hb : ∀ H1, NX T H H1 → Ev tb σ H1 (.ref q)) (hr : ∀ p H1, NX T H H1 → H1 p = some (.lst xs) → RV r (.ref p) (.ref q) H1 z) : Tl T (tOp r ta tb) σ H z := fun H1 n1 Q k =>
  ha H1 n1 _ fun p H2 n2 h2 => hb H2 (n1.trans n2) H2 (Ex.refl H2) _ fun H3 e3 => hr p H3 ((n1.trans n2).ex e3) (e3 p _ h2) H3 (Ex.refl H3) Q fun H4 e4 => k H4 (n2.ex (e3.trans e4))
theorem ev_sumL {ns : List Int} (ha : Ev ta σ H (.ref a)) (h : SqL K H a (ns.map V.int)) : Ev (tCB (rSum K) (tCons ta tNil)) σ H (.int ns.sum) :=
  fun H1 e Q q => ha H1 e _ fun H2 e2 => ⟨a, ns, rfl, ex_l (e.trans e2) h, q H2 e2⟩
theorem cut_to {s : Nat} : cutV xs none (some (s : Int)) = xs.take s := by
  unfold cutV
  have h : HT.sIx xs.length 0 none = 0 := rfl
  have h2 : HT.sIx xs.length xs.length (some (s : Int)) = min s xs.length := by
    simp [HT.sIx]
    omega
  rw [h, h2]
  rcases Nat.le_total s xs.length with z | z
  · rw [Nat.min_eq_left z]
    simp
  · rw [Nat.min_eq_right z]
    simp [List.take_of_length_le z]
theorem el_to {s : Nat} (h : Ev te σ H (.ref a)) (hs : SqL K H a xs) (hi : Ev tb σ H (.int (s : Int))) : EvL (tSl (rSlL K) te tNoPart (tPart tb)) σ H (xs.take s) := by
  rw [← cut_to]
  exact el_sl h eo_none (eo_some hi) hs
theorem q_told1 {i : Nat} (hT : Tabs T H) (h : ∀ H1, NX T H H1 → t (ET W fun v H2 => tz D (σ.set i (some v)) H2) σ H1 fun v H2 => tz D (σ.set i (some v)) H2) : tSeq (tAsg (tTold T W t) (gName i)) tz D σ H := q_told hT fun H1 n => h H1 n
theorem evt_nx {u : TT} {b : Bool} (hT : Tabs T H) (h : ∀ H1, NX T H H1 → EvT u σ H1 b) : TlT T u σ H b := tlt_of h
theorem call3L {Q : VK} {R : R3} {E : XK} (ha : Ev ta σ H x) (hb : EvL tb σ H ys) (hc : Ev tc σ H z) (h : ∀ p H1, Ex H H1 → H1 p = some (.lst ys) → R x (.ref p) z H1 Q E) : tCall (sp3 R) [] E (tCons ta (tCons tb (tCons tc tNil))) σ H Q :=
  ha H (Ex.refl H) _ fun H1 e => hb H1 e _ fun p H2 _ e2 h2 => hc H2 (e.trans e2) _ fun H3 e3 => h p H3 ((e.trans e2).trans e3) (e3 p _ h2)
end
end Sv

set_option Elab.async false
set_option linter.all false
set_option maxRecDepth 100000
set_option maxHeartbeats 4000000
/-! MSum: sums by 1..n; tables put together by divisors: in either turn, of three, taken back. -/
namespace Sv
/-- the sum of f a by a = 1..n -/
def S1 : Nat → (Nat → Int) → Int
  | 0, _ => 0
  | n + 1, f => S1 n f + f (n + 1)
section
variable {n m : Nat} {f g h : Nat → Int}
theorem S1_congr : ∀ {n : Nat} {f g : Nat → Int}, (∀ a, 1 ≤ a → a ≤ n → f a = g a) → S1 n f = S1 n g
  | 0, _, _, _ => rfl
  | n + 1, f, g, h => by
    show S1 n f + f (n + 1) = S1 n g + g (n + 1)
    rw [S1_congr fun a h1 h2 => h a h1 (by omega), h (n + 1) (by omega) (by omega)]
theorem S1_add (n : Nat) (f g : Nat → Int) : S1 n (fun a => f a + g a) = S1 n f + S1 n g := by
  induction n with
  | zero => rfl
  | succ n ih =>
    simp only [S1, ih]
    omega
theorem S1_sub (n : Nat) (f g : Nat → Int) : S1 n (fun a => f a - g a) = S1 n f - S1 n g := by
  induction n with
  | zero => rfl
  | succ n ih =>
    simp only [S1, ih]
    omega
theorem S1_zero (n : Nat) : S1 n (fun _ => 0) = 0 := by
  induction n with
  | zero => rfl
  | succ n ih => simp only [S1, ih]; rfl
theorem S1_mulL (n : Nat) (c : Int) (f : Nat → Int) : S1 n (fun a => c * f a) = c * S1 n f := by
  induction n with
  | zero => simp [S1]
  | succ n ih => simp only [S1, ih, Int.mul_add]
theorem S1_mulR (n : Nat) (c : Int) (f : Nat → Int) : S1 n (fun a => f a * c) = S1 n f * c := by
  induction n with
  | zero => simp [S1]
  | succ n ih => simp only [S1, ih, Int.add_mul]
theorem S1_swap (n m : Nat) (f : Nat → Nat → Int) : S1 n (fun a => S1 m (fun b => f a b)) = S1 m (fun b => S1 n (fun a => f a b)) := by
  induction n with
  | zero => simp only [S1, S1_zero]
  | succ n ih =>
    simp only [S1, ih]
    rw [S1_add]
theorem S1_one (n k : Nat) (c : Nat → Int) : S1 n (fun a => if a = k then c a else 0) = if 1 ≤ k ∧ k ≤ n then c k else 0 := by
  induction n with
  | zero =>
    rw [if_neg (by omega)]
    rfl
  | succ n ih =>
    simp only [S1, ih]
    by_cases h1 : n + 1 = k
    · subst h1
      rw [if_neg (by omega), if_pos rfl, if_pos (by omega)]
      omega
    · rw [if_neg h1]
      by_cases h2 : 1 ≤ k ∧ k ≤ n
      · rw [if_pos h2, if_pos (by omega)]
        omega
      · rw [if_neg h2, if_neg (by omega)]
        rfl
theorem S1_cut {k : Nat} (hk : k ≤ n) (h : ∀ a, k < a → a ≤ n → f a = 0) : S1 n f = S1 k f := by
  induction n with
  | zero =>
    have : k = 0 := by omega
    subst this
    rfl
  | succ n ih =>
    by_cases e : k = n + 1
    · subst e
      rfl
    · simp only [S1]
      rw [ih (by omega) (fun a h1 h2 => h a h1 (by omega)), h (n + 1) (by omega) (by omega)]
      omega
/-! ### by divisors -/
/-- put together, at n -/
def dv (f g : Nat → Int) (n : Nat) : Int := S1 n fun a => if n % a = 0 then f a * g (n / a) else 0
/-- .. by pairs up to N -/
def dc (N : Nat) (f g : Nat → Int) (n : Nat) : Int := S1 N fun a => S1 N fun b => if a * b = n then f a * g b else 0
theorem mul_is {a b n : Nat} (ha : 1 ≤ a) : a * b = n ↔ n % a = 0 ∧ b = n / a := by
  constructor
  · intro h
    subst h
    exact ⟨Nat.mul_mod_right a b, (Nat.mul_div_cancel_left b ha).symm⟩
  · rintro ⟨h1, rfl⟩
    exact Nat.mul_div_cancel' (Nat.dvd_of_mod_eq_zero h1)
theorem pair_one {N a n : Nat} {c : Nat → Int} (ha : 1 ≤ a) (hn : 1 ≤ n) (hN : n ≤ N) : S1 N (fun b => if a * b = n then c b else 0) = if n % a = 0 then c (n / a) else 0 := by
  by_cases h : n % a = 0
  · rw [if_pos h]
    have e : S1 N (fun b => if a * b = n then c b else 0) = S1 N (fun b => if b = n / a then c b else 0) := S1_congr fun b _ _ => by
      by_cases h1 : b = n / a
      · rw [if_pos h1, if_pos ((mul_is ha).mpr ⟨h, h1⟩)]
      · rw [if_neg h1, if_neg fun z => h1 ((mul_is ha).mp z).2]
    rw [e, S1_one, if_pos]
    have : n / a * a = n := Nat.div_mul_cancel (Nat.dvd_of_mod_eq_zero h)
    constructor
    · rcases Nat.eq_zero_or_pos (n / a) with z | z
      · rw [z] at this
        omega
      · exact z
    · exact Nat.le_trans (Nat.div_le_self n a) hN
  · rw [if_neg h]
    have e : S1 N (fun b => if a * b = n then c b else 0) = S1 N (fun _ => 0) := S1_congr fun b _ _ => if_neg fun z => h ((mul_is ha).mp z).1
    rw [e, S1_zero]
theorem dc_dv {N : Nat} (hn : 1 ≤ n) (hN : n ≤ N) : dc N f g n = dv f g n := by
  unfold dc dv
  rw [S1_congr (g := fun a => if n % a = 0 then f a * g (n / a) else 0) fun a h1 _ => pair_one (c := fun b => f a * g b) h1 hn hN]
  refine S1_cut hN fun a h1 _ => if_neg ?_
  rw [Nat.mod_eq_of_lt h1]
  omega
theorem dc_comm (N n : Nat) (f g : Nat → Int) : dc N f g n = dc N g f n := by
  unfold dc
  rw [S1_swap]
  refine S1_congr fun a _ _ => S1_congr fun b _ _ => ?_
  rw [Nat.mul_comm b a, Int.mul_comm (f b)]
theorem dv_comm (hn : 1 ≤ n) : dv f g n = dv g f n := by
  rw [← dc_dv hn (Nat.le_refl n), dc_comm, dc_dv hn (Nat.le_refl n)]
theorem dv_congr {f' g' : Nat → Int} (hn : 1 ≤ n) (hf : ∀ a, 1 ≤ a → a ≤ n → f a = f' a) (hg : ∀ a, 1 ≤ a → a ≤ n → g a = g' a) : dv f g n = dv f' g' n := by
  refine S1_congr fun a h1 h2 => ?_
  by_cases h : n % a = 0
  · rw [if_pos h, if_pos h, hf a h1 h2, hg (n / a) (Nat.div_pos h2 h1) (Nat.div_le_self _ _)]
  · rw [if_neg h, if_neg h]
theorem ite_S1 {p : Prop} [Decidable p] (n : Nat) (f : Nat → Int) : (if p then S1 n f else 0) = S1 n fun a => if p then f a else 0 := by
  by_cases h : p
  · simp only [if_pos h]
  · simp only [if_neg h, S1_zero]
/-- of three, by the three -/
def d3 (N : Nat) (f g h : Nat → Int) (n : Nat) : Int := S1 N fun a => S1 N fun b => S1 N fun c => if a * b * c = n then f a * g b * h c else 0
theorem d3_left {N : Nat} (hn : 1 ≤ n) (hN : n ≤ N) : dc N (dc N f g) h n = d3 N f g h n := by
  unfold dc d3
  have e1 : ∀ m c, (if m * c = n then (S1 N fun a => S1 N fun b => if a * b = m then f a * g b else 0) * h c else 0) = S1 N fun a => S1 N fun b => if a * b = m then (if m * c = n then f a * g b * h c else 0) else 0 := fun m c => by
    rw [← S1_mulR, ite_S1]
    refine S1_congr fun a _ _ => ?_
    rw [← S1_mulR, ite_S1]
    refine S1_congr fun b _ _ => ?_
    by_cases h1 : m * c = n <;> by_cases h2 : a * b = m <;> simp [h1, h2]
  rw [S1_congr fun m _ _ => S1_congr fun c _ _ => e1 m c]
  -- m inmost
  rw [S1_congr fun m _ _ => S1_swap N N fun c a => _, S1_swap]
  refine S1_congr fun a ha _ => ?_
  rw [S1_congr fun m _ _ => S1_swap N N fun c b => _, S1_swap]
  refine S1_congr fun b hb _ => ?_
  rw [S1_swap]
  refine S1_congr fun c hc _ => ?_
  rw [S1_congr (g := fun m => if m = a * b then (if m * c = n then f a * g b * h c else 0) else 0) fun m _ _ => by
    by_cases z : a * b = m
    · rw [if_pos z, if_pos z.symm]
    · rw [if_neg z, if_neg fun y => z y.symm], S1_one]
  by_cases z : a * b * c = n
  · rw [if_pos z, if_pos]
    exact ⟨Nat.mul_pos ha hb, Nat.le_trans (Nat.le_mul_of_pos_right _ hc) (by rw [z]; exact hN)⟩
  · rw [if_neg z]
    split <;> rfl
theorem d3_right {N : Nat} (hn : 1 ≤ n) (hN : n ≤ N) : dc N f (dc N g h) n = d3 N f g h n := by
  unfold dc d3
  refine S1_congr fun a ha _ => ?_
  have e1 : ∀ m, (if a * m = n then f a * (S1 N fun b => S1 N fun c => if b * c = m then g b * h c else 0) else 0) = S1 N fun b => S1 N fun c => if b * c = m then (if a * m = n then f a * g b * h c else 0) else 0 := fun m => by
    rw [← S1_mulL, ite_S1]
    refine S1_congr fun b _ _ => ?_
    rw [← S1_mulL, ite_S1]
    refine S1_congr fun c _ _ => ?_
    by_cases h1 : a * m = n <;> by_cases h2 : b * c = m <;> simp [h1, h2, Int.mul_assoc]
  rw [S1_congr fun m _ _ => e1 m, S1_swap]
  refine S1_congr fun b hb _ => ?_
  rw [S1_swap]
  refine S1_congr fun c hc _ => ?_
  rw [S1_congr (g := fun m => if m = b * c then (if a * m = n then f a * g b * h c else 0) else 0) fun m _ _ => by
    by_cases z : b * c = m
    · rw [if_pos z, if_pos z.symm]
    · rw [if_neg z, if_neg fun y => z y.symm], S1_one, ← Nat.mul_assoc]
  by_cases z : a * b * c = n
  · rw [if_pos z, if_pos]
    refine ⟨Nat.mul_pos hb hc, Nat.le_trans ?_ hN⟩
    rw [← z, Nat.mul_assoc]
    exact Nat.le_mul_of_pos_left _ ha
  · rw [if_neg z]
    split <;> rfl
theorem dv_assoc (hn : 1 ≤ n) : dv (dv f g) h n = dv f (dv g h) n := by
  have e : ∀ {f g f' g' : Nat → Int}, (∀ a, 1 ≤ a → a ≤ n → f a = f' a) → (∀ a, 1 ≤ a → a ≤ n → g a = g' a) → dv f g n = dc n f' g' n := fun h1 h2 => by
    rw [dc_dv hn (Nat.le_refl n)]
    exact dv_congr hn h1 h2
  rw [e (f' := dc n f g) (g' := h) (fun a h1 h2 => (dc_dv h1 h2).symm) (fun _ _ _ => rfl), d3_left hn (Nat.le_refl n), ← d3_right hn (Nat.le_refl n), e (f' := f) (g' := dc n g h) (fun _ _ _ => rfl) (fun a h1 h2 => (dc_dv h1 h2).symm)]
/-- 1 at 1 alone -/
def u1 (n : Nat) : Int := if n = 1 then 1 else 0
theorem dv_unitR (hn : 1 ≤ n) : dv f u1 n = f n := by
  unfold dv
  rw [S1_congr (g := fun a => if a = n then f a else 0) fun a h1 h2 => ?_, S1_one, if_pos ⟨hn, Nat.le_refl n⟩]
  by_cases h : a = n
  · subst h
    rw [if_pos rfl, Nat.mod_self, if_pos rfl, Nat.div_self h1, u1, if_pos rfl, Int.mul_one]
  · rw [if_neg h]
    split
    · rename_i h3
      have : a * (n / a) = n := Nat.mul_div_cancel' (Nat.dvd_of_mod_eq_zero h3)
      rw [u1, if_neg, Int.mul_zero]
      intro z
      rw [z] at this
      omega
    · rfl
theorem dv_unitL (hn : 1 ≤ n) : dv u1 f n = f n := by rw [dv_comm hn, dv_unitR hn]
theorem dv_last (n : Nat) (g f : Nat → Int) : dv g f (n + 1) = S1 n (fun a => if (n + 1) % a = 0 then g a * f ((n + 1) / a) else 0) + g (n + 1) * f 1 := by
  unfold dv
  simp only [S1]
  rw [Nat.mod_self, if_pos rfl, Nat.div_self (Nat.succ_pos n)]
theorem one_sq {z : Int} (h : z = 1 ∨ z = -1) : z * z = 1 := by
  rcases h with h | h <;> subst h <;> decide
/-- taken back -/
theorem inv_ex (f : Nat → Int) (h1 : f 1 = 1 ∨ f 1 = -1) : ∀ N, ∃ g : Nat → Int, ∀ n, 1 ≤ n → n ≤ N → dv g f n = u1 n
  | 0 => ⟨f, fun n h1 h2 => by omega⟩
  | N + 1 => by
    obtain ⟨g, hg⟩ := inv_ex f h1 N
    refine ⟨fun m => if m = N + 1 then f 1 * (u1 (N + 1) - S1 N (fun a => if (N + 1) % a = 0 then g a * f ((N + 1) / a) else 0)) else g m, fun n h2 h3 => ?_⟩
    by_cases e : n = N + 1
    · subst e
      rw [dv_last, if_pos rfl]
      rw [S1_congr (g := fun a => if (N + 1) % a = 0 then g a * f ((N + 1) / a) else 0) fun a _ h5 => by rw [if_neg (show ¬ a = N + 1 by omega)]]
      rw [Int.mul_comm (f 1), Int.mul_assoc, one_sq h1, Int.mul_one]
      omega
    · rw [← hg n h2 (by omega)]
      refine dv_congr h2 (fun a _ h5 => ?_) fun _ _ _ => rfl
      rw [if_neg (by omega)]
theorem inv_uniq {N : Nat} {g' : Nat → Int} (h1 : ∀ n, 1 ≤ n → n ≤ N → dv g f n = u1 n) (h2 : ∀ n, 1 ≤ n → n ≤ N → dv g' f n = u1 n) (hn : 1 ≤ n) (hN : n ≤ N) : g n = g' n := by
  have a1 : dv (dv g f) g' n = g' n := by
    rw [dv_congr (f' := u1) (g' := g') hn (fun a h3 h4 => h1 a h3 (by omega)) (fun _ _ _ => rfl), dv_unitL hn]
  have a2 : dv g (dv f g') n = g n := by
    rw [dv_congr (f' := g) (g' := u1) hn (fun _ _ _ => rfl) (fun a h3 h4 => by rw [dv_comm h3, h2 a h3 (by omega)]), dv_unitR hn]
  rw [← a2, ← dv_assoc hn, a1]
theorem inv_at1 {N : Nat} (hN : 1 ≤ N) (h : ∀ n, 1 ≤ n → n ≤ N → dv g f n = u1 n) : g 1 * f 1 = 1 := by
  have := h 1 (Nat.le_refl 1) hN
  simp only [dv, S1, u1, Nat.mod_self, Nat.div_self Nat.one_pos, if_pos rfl] at this
  simpa using this
end
/-! ### lists as tables -/
def tab (n : Nat) (F : Nat → Int) : List Int := (List.range n).map fun i => F (i + 1)
def at1 (xs : List Int) (m : Nat) : Int := xs.getD (m - 1) 0
section
variable {n m : Nat} {F G : Nat → Int} {xs ys zs : List Int}
@[simp] theorem tab_len : (tab n F).length = n := by simp [tab]
theorem tab_at (h1 : 1 ≤ m) (h2 : m ≤ n) : at1 (tab n F) m = F m := by
  unfold at1 tab
  rw [List.getD_eq_getElem?_getD, List.getElem?_map, List.getElem?_range (by omega)]
  show F (m - 1 + 1) = F m
  rw [show m - 1 + 1 = m by omega]
theorem tab_self (xs : List Int) : tab xs.length (at1 xs) = xs := by
  apply List.ext_getElem
  · simp
  · intro i h1 h2
    simp only [tab, List.getElem_map, List.getElem_range, at1]
    rw [show i + 1 - 1 = i by omega, List.getD_eq_getElem?_getD, List.getElem?_eq_getElem h2]
    rfl
theorem tab_congr (h : ∀ m, 1 ≤ m → m ≤ n → F m = G m) : tab n F = tab n G := by
  unfold tab
  refine List.map_congr_left fun i hi => h (i + 1) (by omega) ?_
  have := List.mem_range.mp hi
  omega
theorem tab_inj (h : tab n F = tab n G) (h1 : 1 ≤ m) (h2 : m ≤ n) : F m = G m := by
  rw [← tab_at (F := F) h1 h2, h, tab_at h1 h2]
theorem tab_set {v : Int} (h1 : 1 ≤ m) : (tab n F).set (m - 1) v = tab n fun k => if k = m then v else F k := by
  apply List.ext_getElem
  · simp
  · intro i h2 h3
    rw [List.getElem_set]
    simp only [tab, List.getElem_map, List.getElem_range]
    by_cases e : m - 1 = i
    · rw [if_pos e, if_pos (by omega)]
    · rw [if_neg e, if_neg (by omega)]
theorem tab_get (h1 : 1 ≤ m) (h2 : m ≤ n) : ((tab n F).map L2.V.int)[m - 1]? = some (.int (F m)) := by
  rw [List.getElem?_map, tab, List.getElem?_map, List.getElem?_range (by omega)]
  show some (L2.V.int (F (m - 1 + 1))) = _
  rw [show m - 1 + 1 = m by omega]
theorem tab_setV {v : Int} (h1 : 1 ≤ m) : ((tab n F).map L2.V.int).set (m - 1) (.int v) = (tab n fun k => if k = m then v else F k).map L2.V.int := by
  rw [← tab_set h1, List.map_set]
theorem at1_get (h1 : 1 ≤ m) (h2 : m ≤ xs.length) : (xs.map L2.V.int)[m - 1]? = some (.int (at1 xs m)) := by
  have := tab_get (F := at1 xs) h1 h2
  rwa [tab_self] at this
/-- two tables put together -/
def conv (xs ys : List Int) : List Int := tab xs.length (dv (at1 xs) (at1 ys))
@[simp] theorem conv_len : (conv xs ys).length = xs.length := by simp [conv]
theorem conv_comm (h : xs.length = ys.length) : conv xs ys = conv ys xs := by
  unfold conv
  rw [h]
  exact tab_congr fun m h1 _ => dv_comm h1
theorem conv_assoc (h : xs.length = ys.length) : conv (conv xs ys) zs = conv xs (conv ys zs) := by
  unfold conv
  rw [tab_len, ← h]
  refine tab_congr fun m h1 h2 => ?_
  rw [dv_congr (f' := dv (at1 xs) (at1 ys)) (g' := at1 zs) h1 (fun a h3 h4 => tab_at h3 (by omega)) (fun _ _ _ => rfl), dv_assoc h1]
  exact dv_congr h1 (fun _ _ _ => rfl) fun a h3 h4 => (tab_at h3 (by omega)).symm
/-- gs leads fs back to 1 at 1 alone -/
def Back (fs gs : List Int) : Prop := gs.length = fs.length ∧ ∀ n, 1 ≤ n → n ≤ fs.length → dv (at1 gs) (at1 fs) n = u1 n
theorem back_ex (fs : List Int) (h : at1 fs 1 = 1 ∨ at1 fs 1 = -1) : ∃ gs, Back fs gs := by
  obtain ⟨g, hg⟩ := inv_ex (at1 fs) h fs.length
  refine ⟨tab fs.length g, tab_len, fun n h1 h2 => ?_⟩
  rw [← hg n h1 h2]
  exact dv_congr h1 (fun a h3 h4 => tab_at h3 (by omega)) fun _ _ _ => rfl
theorem Back.sym {fs gs : List Int} (h : Back fs gs) : Back gs fs := ⟨h.1.symm, fun n h1 h2 => by rw [dv_comm h1, h.2 n h1 (by have := h.1; omega)]⟩
theorem Back.sign {fs gs : List Int} (h : Back fs gs) (hl : 1 ≤ fs.length) (h1 : at1 fs 1 = 1 ∨ at1 fs 1 = -1) : at1 gs 1 = at1 fs 1 := by
  have := inv_at1 hl h.2
  rcases h1 with e | e <;> rw [e] at this ⊢ <;> omega
theorem Back.conv {fs gs : List Int} (h : Back fs gs) : conv fs gs = tab fs.length u1 := tab_congr fun n h1 h2 => by rw [dv_comm h1, h.2 n h1 h2]
theorem unit_tab (n : Nat) : tab (n + 1) u1 = 1 :: List.replicate n 0 := by
  apply List.ext_getElem
  · simp
  · intro i h1 h2
    simp only [tab, List.getElem_map, List.getElem_range]
    cases i with
    | zero => rfl
    | succ i =>
      rw [List.getElem_cons_succ, List.getElem_replicate, u1, if_neg (by omega)]
end
end Sv

set_option Elab.async false
set_option linter.all false
set_option maxRecDepth 100000
set_option maxHeartbeats 4000000
/-! MMul: functions that go by shares (multiplicative ones): put together, taken back, built up of powers of primes; bounds. -/
namespace Sv
def Ml (N : Nat) (f : Nat → Int) : Prop := f 1 = 1 ∧ ∀ a b, 1 ≤ a → 1 ≤ b → a * b ≤ N → Nat.gcd a b = 1 → f (a * b) = f a * f b
section
variable {N m n : Nat} {f g F : Nat → Int}
theorem gcd_of_dvd {a b m n : Nat} (co : Nat.gcd m n = 1) (ha : a ∣ m) (hb : b ∣ n) : Nat.gcd a b = 1 := by
  have h1 : Nat.gcd a b ∣ Nat.gcd m n := Nat.dvd_gcd (Nat.dvd_trans (Nat.gcd_dvd_left a b) ha) (Nat.dvd_trans (Nat.gcd_dvd_right a b) hb)
  rw [co] at h1
  exact Nat.dvd_one.mp h1
theorem mod_dvd {m a : Nat} : m % a = 0 ↔ a ∣ m := ⟨Nat.dvd_of_mod_eq_zero, Nat.mod_eq_zero_of_dvd⟩
theorem pair_iff {m n a b c : Nat} (co : Nat.gcd m n = 1) (hc : (m * n) % c = 0) : (c = a * b ∧ m % a = 0 ∧ n % b = 0) ↔ (a = Nat.gcd c m ∧ b = Nat.gcd c n) := by
  constructor
  · rintro ⟨rfl, h1, h2⟩
    have d1 := mod_dvd.mp h1
    have d2 := mod_dvd.mp h2
    have c1 : Nat.Coprime b m := by
      have := gcd_of_dvd co (Nat.dvd_refl m) d2
      rwa [Nat.gcd_comm] at this
    have c2 : Nat.Coprime a n := gcd_of_dvd co d1 (Nat.dvd_refl n)
    refine ⟨?_, ?_⟩
    · rw [Nat.Coprime.gcd_mul_right_cancel a c1]
      exact (Nat.gcd_eq_left d1).symm
    · rw [Nat.Coprime.gcd_mul_left_cancel b c2]
      exact (Nat.gcd_eq_left d2).symm
  · rintro ⟨rfl, rfl⟩
    refine ⟨?_, mod_dvd.mpr (Nat.gcd_dvd_right c m), mod_dvd.mpr (Nat.gcd_dvd_right c n)⟩
    rw [← Nat.Coprime.gcd_mul c co, Nat.gcd_eq_left (mod_dvd.mp hc)]
theorem S1_pairs (hm : 1 ≤ m) (hn : 1 ≤ n) (co : Nat.gcd m n = 1) (F : Nat → Int) :
    S1 (m * n) (fun c => if (m * n) % c = 0 then F c else 0) = S1 m fun a => S1 n fun b => if m % a = 0 then (if n % b = 0 then F (a * b) else 0) else 0 := by
  have e1 : (S1 m fun a => S1 n fun b => if m % a = 0 then (if n % b = 0 then F (a * b) else 0) else 0) = S1 m fun a => S1 n fun b => S1 (m * n) fun c => if c = a * b then (if m % a = 0 then (if n % b = 0 then F c else 0) else 0) else 0 :=
    S1_congr fun a h1 h2 => S1_congr fun b h3 h4 => by
      rw [S1_one, if_pos (show 1 ≤ a * b ∧ a * b ≤ m * n from ⟨Nat.mul_pos h1 h3, Nat.mul_le_mul h2 h4⟩)]
  rw [e1, S1_congr fun a _ _ => S1_swap n (m * n) fun b c => _, S1_swap]
  refine S1_congr fun c h1 h2 => ?_
  by_cases hc : (m * n) % c = 0
  · rw [if_pos hc]
    have e2 : (S1 m fun a => S1 n fun b => if c = a * b then (if m % a = 0 then (if n % b = 0 then F c else 0) else 0) else 0) = S1 m fun a => if a = Nat.gcd c m then (S1 n fun b => if b = Nat.gcd c n then F c else 0) else 0 :=
      S1_congr fun a h3 h4 => by
        rw [ite_S1]
        refine S1_congr fun b h5 h6 => ?_
        have key := pair_iff (a := a) (b := b) co hc
        by_cases k : a = Nat.gcd c m ∧ b = Nat.gcd c n
        · obtain ⟨k1, k2, k3⟩ := key.mpr k
          rw [if_pos k1, if_pos k2, if_pos k3, if_pos k.1, if_pos k.2]
        · have nk : ¬ (c = a * b ∧ m % a = 0 ∧ n % b = 0) := fun z => k (key.mp z)
          have r : (if a = Nat.gcd c m then (if b = Nat.gcd c n then F c else 0) else 0) = 0 := by
            by_cases z1 : a = Nat.gcd c m
            · rw [if_pos z1, if_neg fun z2 => k ⟨z1, z2⟩]
            · rw [if_neg z1]
          rw [r]
          by_cases z1 : c = a * b
          · rw [if_pos z1]
            by_cases z2 : m % a = 0
            · rw [if_pos z2, if_neg fun z3 => nk ⟨z1, z2, z3⟩]
            · rw [if_neg z2]
          · rw [if_neg z1]
    rw [e2, S1_one, if_pos ⟨Nat.gcd_pos_of_pos_left _ h1, Nat.gcd_le_right _ hm⟩, S1_one, if_pos ⟨Nat.gcd_pos_of_pos_left _ h1, Nat.gcd_le_right _ hn⟩]
  · rw [if_neg hc]
    symm
    rw [S1_congr (g := fun _ => 0) fun a _ _ => ?_, S1_zero]
    rw [S1_congr (g := fun _ => 0) fun b _ _ => ?_, S1_zero]
    by_cases z1 : c = a * b
    · rw [if_pos z1]
      by_cases z2 : m % a = 0
      · rw [if_pos z2]
        by_cases z3 : n % b = 0
        · exact absurd (by rw [z1]; exact mod_dvd.mpr (Nat.mul_dvd_mul (mod_dvd.mp z2) (mod_dvd.mp z3))) hc
        · rw [if_neg z3]
      · rw [if_neg z2]
    · rw [if_neg z1]
theorem S1_prod (m n : Nat) (f g : Nat → Int) : S1 m f * S1 n g = S1 m fun a => S1 n fun b => f a * g b := by
  rw [← S1_mulR]
  exact S1_congr fun a _ _ => (S1_mulL n (f a) g).symm
theorem dv_one (f g : Nat → Int) : dv f g 1 = f 1 * g 1 := by
  simp [dv, S1]
theorem div_pairs {a b m n : Nat} (ha : m % a = 0) (hb : n % b = 0) : m * n / (a * b) = m / a * (n / b) := (Nat.div_mul_div_comm (mod_dvd.mp ha) (mod_dvd.mp hb)).symm
theorem div_gcd {a b m n : Nat} (co : Nat.gcd m n = 1) (ha : m % a = 0) (hb : n % b = 0) : Nat.gcd (m / a) (n / b) = 1 := gcd_of_dvd co (Nat.div_dvd_of_dvd (mod_dvd.mp ha)) (Nat.div_dvd_of_dvd (mod_dvd.mp hb))
theorem div_pos' {a m : Nat} (ha : 1 ≤ a) (h : a ≤ m) : 1 ≤ m / a := Nat.div_pos h ha
theorem div_le_pairs {a b m n : Nat} (hN : m * n ≤ N) : m / a * (n / b) ≤ N := Nat.le_trans (Nat.mul_le_mul (Nat.div_le_self _ _) (Nat.div_le_self _ _)) hN
theorem im4 (a b c d : Int) : a * b * (c * d) = a * c * (b * d) := by rw [Int.mul_assoc, Int.mul_left_comm b, ← Int.mul_assoc]
/-- two that go by shares, put together, do -/
theorem ml_dv (hf : Ml N f) (hg : Ml N g) : Ml N (dv f g) := by
  refine ⟨by rw [dv_one, hf.1, hg.1]; rfl, fun m n hm hn hN co => ?_⟩
  have e : dv f g (m * n) = S1 (m * n) fun c => if (m * n) % c = 0 then (fun c => f c * g (m * n / c)) c else 0 := rfl
  rw [e, S1_pairs hm hn co]
  unfold dv
  rw [S1_prod]
  refine S1_congr fun a h1 h2 => S1_congr fun b h3 h4 => ?_
  by_cases z1 : m % a = 0
  · by_cases z2 : n % b = 0
    · simp only [if_pos z1, if_pos z2]
      rw [div_pairs z1 z2, hf.2 a b h1 h3 (Nat.le_trans (Nat.mul_le_mul h2 h4) hN) (gcd_of_dvd co (mod_dvd.mp z1) (mod_dvd.mp z2)), hg.2 _ _ (div_pos' h1 h2) (div_pos' h3 h4) (div_le_pairs hN) (div_gcd co z1 z2)]
      rw [im4]
    · simp only [if_pos z1, if_neg z2, Int.mul_zero]
  · simp only [if_neg z1, Int.zero_mul]
/-- .. taken back -/
theorem ml_inv (hf : Ml N f) (hN1 : 1 ≤ N) (hg : ∀ n, 1 ≤ n → n ≤ N → dv g f n = u1 n) : Ml N g := by
  have g1 : g 1 = 1 := by
    have := inv_at1 hN1 hg
    rwa [hf.1, Int.mul_one] at this
  refine ⟨g1, ?_⟩
  have main : ∀ k m n, m * n = k → 1 ≤ m → 1 ≤ n → m * n ≤ N → Nat.gcd m n = 1 → g (m * n) = g m * g n := by
    intro k
    induction k using Nat.strongRecOn with
    | _ k ih =>
      intro m n hk hm hn hN co
      by_cases e1 : m = 1
      · subst e1
        rw [Nat.one_mul, g1, Int.one_mul]
      by_cases e2 : n = 1
      · subst e2
        rw [Nat.mul_one, g1, Int.mul_one]
      have hmN : m ≤ N := Nat.le_trans (Nat.le_mul_of_pos_right m hn) hN
      have hnN : n ≤ N := Nat.le_trans (Nat.le_mul_of_pos_left n hm) hN
      have hmn1 : m * n ≠ 1 := fun z => e1 (Nat.eq_one_of_mul_eq_one_right z)
      have h0 : dv g f (m * n) = 0 := by rw [hg _ (Nat.mul_pos hm hn) hN, u1, if_neg hmn1]
      have hm0 : dv g f m = 0 := by rw [hg _ hm hmN, u1, if_neg e1]
      have e : dv g f (m * n) = S1 (m * n) fun c => if (m * n) % c = 0 then (fun c => g c * f (m * n / c)) c else 0 := rfl
      rw [e, S1_pairs hm hn co] at h0
      have t : (S1 m fun a => S1 n fun b => if m % a = 0 then (if n % b = 0 then (fun c => g c * f (m * n / c)) (a * b) else 0) else 0) =
          (S1 m fun a => S1 n fun b => (if m % a = 0 then g a * f (m / a) else 0) * (if n % b = 0 then g b * f (n / b) else 0)) + S1 m fun a => if a = m then (S1 n fun b => if b = n then g (m * n) - g m * g n else 0) else 0 := by
        rw [← S1_add]
        refine S1_congr fun a h1 h2 => ?_
        rw [ite_S1, ← S1_add]
        refine S1_congr fun b h3 h4 => ?_
        by_cases z1 : m % a = 0
        · by_cases z2 : n % b = 0
          · simp only [if_pos z1, if_pos z2]
            rw [div_pairs z1 z2, hf.2 _ _ (div_pos' h1 h2) (div_pos' h3 h4) (div_le_pairs hN) (div_gcd co z1 z2)]
            by_cases kk : a = m ∧ b = n
            · obtain ⟨rfl, rfl⟩ := kk
              rw [if_pos rfl, if_pos rfl]
              rw [Nat.div_self hm, Nat.div_self hn, hf.1]
              simp only [Int.mul_one]
              omega
            · have r : (if a = m then (if b = n then g (m * n) - g m * g n else 0) else 0) = 0 := by
                by_cases z1 : a = m
                · rw [if_pos z1, if_neg fun z2 => kk ⟨z1, z2⟩]
                · rw [if_neg z1]
              rw [r]
              have lt : a * b < k := by
                rcases Nat.lt_or_ge a m with z | z
                · exact Nat.lt_of_lt_of_le (Nat.mul_lt_mul_of_pos_right z h3) (by rw [← hk]; exact Nat.mul_le_mul_left m h4)
                · have ea : a = m := Nat.le_antisymm h2 z
                  have lb : b < n := Nat.lt_of_le_of_ne h4 fun y => kk ⟨ea, y⟩
                  rw [← hk, ea]
                  exact Nat.mul_lt_mul_of_pos_left lb hm
              rw [ih (a * b) lt a b rfl h1 h3 (Nat.le_trans (Nat.mul_le_mul h2 h4) hN) (gcd_of_dvd co (mod_dvd.mp z1) (mod_dvd.mp z2)), im4, Int.add_zero]
          · have nb : b ≠ n := fun z => z2 (by rw [z, Nat.mod_self])
            simp only [if_pos z1, if_neg z2, if_neg nb, Int.mul_zero]
            split <;> rfl
        · have na : a ≠ m := fun z => z1 (by rw [z, Nat.mod_self])
          simp only [if_neg z1, if_neg na, Int.zero_mul]
          rfl
      rw [t, ← S1_prod, S1_one, if_pos ⟨hm, Nat.le_refl m⟩, S1_one, if_pos ⟨hn, Nat.le_refl n⟩] at h0
      have z : S1 m (fun a => if m % a = 0 then g a * f (m / a) else 0) = 0 := hm0
      rw [z, Int.zero_mul] at h0
      omega
  exact fun a b => main (a * b) a b rfl
/-! ### built up of powers of primes -/
def IsPart (n q : Nat) : Prop := ∃ p k, 2 ≤ p ∧ p ∣ n ∧ (∀ d, 2 ≤ d → d ∣ n → p ≤ d) ∧ 1 ≤ k ∧ q = p ^ k ∧ p ^ k ∣ n ∧ ¬ p ^ (k + 1) ∣ n
theorem IsPart.uniq {n q q' : Nat} (h : IsPart n q) (h' : IsPart n q') : q = q' := by
  obtain ⟨p, k, a1, a2, a3, a4, rfl, a6, a7⟩ := h
  obtain ⟨p', k', b1, b2, b3, b4, rfl, b6, b7⟩ := h'
  have e : p = p' := Nat.le_antisymm (a3 p' b1 b2) (b3 p a1 a2)
  subst e
  have e2 : k = k' := by
    rcases Nat.lt_trichotomy k k' with z | z | z
    · exact absurd (Nat.dvd_trans (Nat.pow_dvd_pow p z) b6) a7
    · exact z
    · exact absurd (Nat.dvd_trans (Nat.pow_dvd_pow p z) a6) b7
  rw [e2]
theorem IsPart.dvd {n q : Nat} (h : IsPart n q) : q ∣ n := by
  obtain ⟨p, k, _, _, _, _, rfl, a6, _⟩ := h
  exact a6
theorem IsPart.two {n q : Nat} (h : IsPart n q) : 2 ≤ q := by
  obtain ⟨p, k, a1, _, _, a4, rfl, _, _⟩ := h
  calc 2 ≤ p := a1
    _ = p ^ 1 := (Nat.pow_one p).symm
    _ ≤ p ^ k := Nat.pow_le_pow_right (by omega) a4
/-- what the law builds -/
def Bu (N : Nat) (F : Nat → Int) : Prop := F 1 = 1 ∧ ∀ n, 2 ≤ n → n ≤ N → ∃ q, IsPart n q ∧ (q = n → -3 ≤ F n ∧ F n ≤ 3) ∧ (q ≠ n → F n = F q * F (n / q))
theorem ml_bu (h : Bu N F) : Ml N F := by
  refine ⟨h.1, ?_⟩
  have main : ∀ k a b, a * b = k → 1 ≤ a → 1 ≤ b → a * b ≤ N → Nat.gcd a b = 1 → F (a * b) = F a * F b := by
    intro k
    induction k using Nat.strongRecOn with
    | _ k ih =>
      have core : ∀ a b q p j, a * b = k → 1 < a → 1 < b → a * b ≤ N → Nat.gcd a b = 1 → 2 ≤ p → p ∣ a → (∀ d, 2 ≤ d → d ∣ a * b → p ≤ d) → 1 ≤ j → q = p ^ j → p ^ j ∣ a * b → ¬ p ^ (j + 1) ∣ a * b → (q ≠ a * b → F (a * b) = F q * F (a * b / q)) → F (a * b) = F a * F b := by
        intro a b q p j hk ha hb hN co p2 pa pl j1 eq pd pn hF
        have cpb : Nat.Coprime p b := gcd_of_dvd co pa (Nat.dvd_refl b)
        have qa : q ∣ a := by
          rw [eq]
          exact Nat.Coprime.dvd_of_dvd_mul_right (Nat.Coprime.pow_left j cpb) pd
        have hq2 : 2 ≤ q := IsPart.two (n := a * b) ⟨p, j, p2, Nat.dvd_trans pa (Nat.dvd_mul_right a b), pl, j1, eq, pd, pn⟩
        have pq : IsPart a q := ⟨p, j, p2, pa, fun d d2 da => pl d d2 (Nat.dvd_trans da (Nat.dvd_mul_right a b)), j1, eq, eq ▸ qa, fun z => pn (Nat.dvd_trans z (Nat.dvd_mul_right a b))⟩
        obtain ⟨c, rfl⟩ := qa
        have c1 : 1 ≤ c := by
          rcases Nat.eq_zero_or_pos c with z | z
          · rw [z] at ha
            omega
          · exact z
        have qlt : q * c < q * c * b := by
          have := Nat.mul_lt_mul_of_pos_left hb (show 0 < q * c by omega)
          rwa [Nat.mul_one] at this
        have qle : q ≤ q * c := Nat.le_mul_of_pos_right q c1
        have e1 : q * c * b / q = c * b := by
          rw [Nat.mul_assoc, Nat.mul_div_cancel_left _ (by omega)]
        rw [hF (by omega), e1]
        have cb : c * b < k := by
          rw [← hk, Nat.mul_assoc]
          have := Nat.mul_lt_mul_of_pos_right (show 1 < q by omega) (show 0 < c * b from Nat.mul_pos c1 (by omega))
          rwa [Nat.one_mul] at this
        rw [ih (c * b) cb c b rfl c1 (by omega) (by omega) (gcd_of_dvd co (Nat.dvd_mul_left c q) (Nat.dvd_refl b)), ← Int.mul_assoc]
        congr 1
        by_cases e : c = 1
        · subst e
          rw [h.1, Int.mul_one, Nat.mul_one]
        · obtain ⟨q', h1, _, h3⟩ := h.2 (q * c) (by omega) (by omega)
          have := pq.uniq h1
          subst this
          have ne : q ≠ q * c := fun z => by
            have := Nat.mul_lt_mul_of_pos_left (show 1 < c by omega) (show 0 < q by omega)
            omega
          rw [h3 ne, Nat.mul_div_cancel_left _ (by omega)]
      intro a b hk ha hb hN co
      by_cases e1 : a = 1
      · subst e1
        rw [Nat.one_mul, h.1, Int.one_mul]
      by_cases e2 : b = 1
      · subst e2
        rw [Nat.mul_one, h.1, Int.mul_one]
      have n2 : 2 ≤ a * b := Nat.le_trans (show 2 ≤ a by omega) (Nat.le_mul_of_pos_right a hb)
      obtain ⟨q, ⟨p, j, p2, pd0, pl, j1, eq, pd, pn⟩, _, hF⟩ := h.2 (a * b) n2 hN
      by_cases pa : p ∣ a
      · exact core a b q p j hk (by omega) (by omega) hN co p2 pa pl j1 eq pd pn hF
      · have cpa : Nat.Coprime p a := by
          have d1 : Nat.gcd p a ∣ a * b := Nat.dvd_trans (Nat.gcd_dvd_right p a) (Nat.dvd_mul_right a b)
          rcases Nat.lt_or_ge (Nat.gcd p a) 2 with z | z
          · have : 0 < Nat.gcd p a := Nat.gcd_pos_of_pos_left _ (by omega)
            show Nat.gcd p a = 1
            omega
          · have l := pl _ z d1
            have l2 : Nat.gcd p a ≤ p := Nat.gcd_le_left _ (by omega)
            have e : Nat.gcd p a = p := Nat.le_antisymm l2 l
            exact absurd (e ▸ Nat.gcd_dvd_right p a) pa
        have pb : p ∣ b := Nat.Coprime.dvd_of_dvd_mul_left cpa pd0
        rw [Nat.mul_comm a b] at hk hN pl pd pn hF ⊢
        rw [Int.mul_comm]
        exact core b a q p j hk (by omega) (by omega) hN (by rw [Nat.gcd_comm]; exact co) p2 pb pl j1 eq pd pn hF
  exact fun a b => main (a * b) a b rfl
/-! ### bounds -/
theorem S1_abs {M : Nat} (h : ∀ a, 1 ≤ a → a ≤ n → (f a).natAbs ≤ M) : (S1 n f).natAbs ≤ n * M := by
  induction n with
  | zero => simp [S1]
  | succ n ih =>
    simp only [S1]
    have h1 := ih fun a h1 h2 => h a h1 (by omega)
    have h2 := h (n + 1) (by omega) (by omega)
    rw [Nat.succ_mul]
    exact Nat.le_trans (Int.natAbs_add_le _ _) (Nat.add_le_add h1 h2)
theorem dv_abs {A B : Nat} (hn : 1 ≤ n) (hf : ∀ a, 1 ≤ a → a ≤ n → (f a).natAbs ≤ A) (hg : ∀ a, 1 ≤ a → a ≤ n → (g a).natAbs ≤ B) : (dv f g n).natAbs ≤ n * (A * B) := by
  refine S1_abs fun a h1 h2 => ?_
  split
  · rw [Int.natAbs_mul]
    exact Nat.mul_le_mul (hf a h1 h2) (hg _ (Nat.div_pos h2 h1) (Nat.div_le_self _ _))
  · simp
theorem bu_abs (h : Bu N F) : ∀ n, 1 ≤ n → n ≤ N → (F n).natAbs ≤ 2 ^ (2 * n) := by
  intro n
  induction n using Nat.strongRecOn with
  | _ n ih =>
    intro h1 h2
    by_cases e : n = 1
    · subst e
      rw [h.1]
      decide
    obtain ⟨q, hq, ha, hb⟩ := h.2 n (by omega) h2
    by_cases eq : q = n
    · have := ha eq
      have : (F n).natAbs ≤ 2 ^ 2 := by
        show _ ≤ 4
        omega
      exact Nat.le_trans this (Nat.pow_le_pow_right (by decide) (by omega))
    · rw [hb eq, Int.natAbs_mul]
      obtain ⟨c, hc⟩ := hq.dvd
      have q2 := hq.two
      have c2 : 2 ≤ c := by
        rcases Nat.lt_or_ge c 2 with z | z
        · have : c = 0 ∨ c = 1 := by omega
          rcases this with y | y <;> subst y <;> simp at hc <;> omega
        · exact z
      have ed : n / q = c := by rw [hc, Nat.mul_div_cancel_left _ (by omega)]
      have sum : q + c ≤ n := by
        obtain ⟨x, rfl⟩ : ∃ x, q = x + 2 := ⟨q - 2, by omega⟩
        obtain ⟨y, rfl⟩ : ∃ y, c = y + 2 := ⟨c - 2, by omega⟩
        rw [hc, Nat.add_mul, Nat.mul_add]
        omega
      rw [ed]
      refine Nat.le_trans (Nat.mul_le_mul (ih q (by omega) (by omega) (by omega)) (ih c (by omega) (by omega) (by omega))) ?_
      rw [← Nat.pow_add]
      exact Nat.pow_le_pow_right (by decide) (by omega)
theorem inv_abs {N : Nat} (hN : N ≤ 63) (f1 : f 1 = 1) (hf : ∀ n, 1 ≤ n → n ≤ N → (f n).natAbs ≤ 2 ^ 130) (hg : ∀ n, 1 ≤ n → n ≤ N → dv g f n = u1 n) : ∀ n, 1 ≤ n → n ≤ N → (g n).natAbs ≤ 2 ^ (140 * n) := by
  intro n
  induction n using Nat.strongRecOn with
  | _ n ih =>
    intro h1 h2
    obtain ⟨k, rfl⟩ : ∃ k, n = k + 1 := ⟨n - 1, by omega⟩
    have e := hg (k + 1) h1 h2
    rw [dv_last, f1, Int.mul_one] at e
    have b : (S1 k fun a => if (k + 1) % a = 0 then g a * f ((k + 1) / a) else 0).natAbs ≤ k * (2 ^ (140 * k) * 2 ^ 130) := S1_abs fun a h3 h4 => by
      split
      · rw [Int.natAbs_mul]
        refine Nat.mul_le_mul (Nat.le_trans (ih a (by omega) h3 (by omega)) (Nat.pow_le_pow_right (by decide) (by omega))) (hf _ (Nat.div_pos (by omega) h3) (Nat.le_trans (Nat.div_le_self _ _) h2))
      · simp
    have u : (u1 (k + 1)).natAbs ≤ 1 := by
      unfold u1
      split <;> decide
    have z : (g (k + 1)).natAbs ≤ 1 + k * (2 ^ (140 * k) * 2 ^ 130) := by omega
    refine Nat.le_trans z ?_
    rw [show 140 * (k + 1) = 140 * k + 140 by omega, Nat.pow_add]
    have p : 1 ≤ 2 ^ (140 * k) := Nat.one_le_two_pow
    generalize 2 ^ (140 * k) = P at *
    have q1 : k * (P * 2 ^ 130) ≤ 63 * (P * 2 ^ 130) := Nat.mul_le_mul_right _ (by omega)
    omega
end
end Sv

set_option Elab.async false
set_option linter.all false
set_option maxRecDepth 100000
set_option maxHeartbeats 4000000
/-! MFac: primes and how often each is in a number; sums by divisors of powers of primes; the shares. -/
namespace Sv
def IsP (p : Nat) : Prop := 2 ≤ p ∧ ∀ d, 2 ≤ d → d ∣ p → d = p
def prodF : List (Nat × Nat) → Nat
  | [] => 1
  | q :: ps => q.1 ^ q.2 * prodF ps
def Fac (n : Nat) (ps : List (Nat × Nat)) : Prop := n = prodF ps ∧ (∀ q ∈ ps, IsP q.1 ∧ 1 ≤ q.2) ∧ ps.Pairwise fun a b => a.1 < b.1
section
variable {p q n e N : Nat} {ps : List (Nat × Nat)} {f g F : Nat → Int}
theorem IsP.cop (h : IsP p) {a : Nat} (hd : ¬ p ∣ a) : Nat.Coprime p a := by
  have d1 := Nat.gcd_dvd_left p a
  have gp : 0 < Nat.gcd p a := Nat.gcd_pos_of_pos_left _ (by have := h.1; omega)
  rcases Nat.lt_or_ge (Nat.gcd p a) 2 with z | z
  · show Nat.gcd p a = 1
    omega
  · have := h.2 _ z d1
    exact absurd (this ▸ Nat.gcd_dvd_right p a) hd
theorem IsP.ne_cop (h : IsP p) (hq : IsP q) (ne : p ≠ q) : Nat.Coprime p q := h.cop fun z => ne (hq.2 p h.1 z)
theorem IsP.dvd_mul (h : IsP p) {a b : Nat} (hd : p ∣ a * b) : p ∣ a ∨ p ∣ b := by
  by_cases z : p ∣ a
  · exact .inl z
  · exact .inr ((h.cop z).dvd_of_dvd_mul_left hd)
theorem cop_prodF (h : IsP p) : ∀ {ps : List (Nat × Nat)}, (∀ q ∈ ps, IsP q.1 ∧ p ≠ q.1) → Nat.Coprime p (prodF ps)
  | [], _ => Nat.coprime_one_right p
  | q :: ps, hq => Nat.Coprime.mul_right (Nat.Coprime.pow_right _ (h.ne_cop (hq q List.mem_cons_self).1 (hq q List.mem_cons_self).2)) (cop_prodF h fun r hr => hq r (List.mem_cons_of_mem _ hr))
theorem prodF_pos : ∀ {ps : List (Nat × Nat)}, (∀ q ∈ ps, IsP q.1 ∧ 1 ≤ q.2) → 1 ≤ prodF ps
  | [], _ => Nat.le_refl 1
  | q :: ps, h => Nat.mul_pos (Nat.pow_pos (by have := (h q List.mem_cons_self).1.1; omega)) (prodF_pos fun r hr => h r (List.mem_cons_of_mem _ hr))
theorem prodF_app : ∀ (ps qs : List (Nat × Nat)), prodF (ps ++ qs) = prodF ps * prodF qs
  | [], qs => by simp [prodF]
  | q :: ps, qs => by
    show q.1 ^ q.2 * prodF (ps ++ qs) = q.1 ^ q.2 * prodF ps * prodF qs
    rw [prodF_app ps qs, Nat.mul_assoc]
theorem Fac.pos (h : Fac n ps) : 1 ≤ n := by
  rw [h.1]
  exact prodF_pos h.2.1
/-- the head, apart from the rest -/
theorem fac_head {q : Nat × Nat} (h : Fac n (q :: ps)) : Fac (prodF ps) ps ∧ IsP q.1 ∧ 1 ≤ q.2 ∧ n = q.1 ^ q.2 * prodF ps ∧ Nat.gcd (q.1 ^ q.2) (prodF ps) = 1 ∧ 1 ≤ q.1 ^ q.2 := by
  obtain ⟨h1, h2, h3⟩ := h
  obtain ⟨h4, h5⟩ := List.pairwise_cons.mp h3
  have hp := h2 q List.mem_cons_self
  refine ⟨⟨rfl, fun r hr => h2 r (List.mem_cons_of_mem _ hr), h5⟩, hp.1, hp.2, h1, ?_, Nat.pow_pos (by have := hp.1.1; omega)⟩
  exact Nat.Coprime.pow_left _ (cop_prodF hp.1 fun r hr => ⟨(h2 r (List.mem_cons_of_mem _ hr)).1, fun z => by have := h4 r hr; omega⟩)
/-- divisors of a power of a prime -/
theorem dvd_pp (h : IsP p) : ∀ {e d : Nat}, d ∣ p ^ e → ∃ k, k ≤ e ∧ d = p ^ k
  | 0, d, hd => ⟨0, Nat.le_refl 0, by
    rw [Nat.pow_zero] at hd ⊢
    exact Nat.dvd_one.mp hd⟩
  | e + 1, d, hd => by
    by_cases z : p ∣ d
    · obtain ⟨c, rfl⟩ := z
      rw [Nat.pow_succ, Nat.mul_comm] at hd
      obtain ⟨k, hk, rfl⟩ := dvd_pp h (Nat.dvd_of_mul_dvd_mul_right (k := p) (by have := h.1; omega) hd)
      exact ⟨k + 1, by omega, by rw [Nat.pow_succ, Nat.mul_comm]⟩
    · have c : Nat.Coprime d (p ^ (e + 1)) := Nat.Coprime.pow_right _ (Nat.Coprime.symm (h.cop z))
      exact ⟨0, Nat.zero_le _, by
        rw [Nat.pow_zero]
        have := Nat.gcd_eq_left hd
        rw [← this]
        exact c⟩
theorem pow_inj (h : IsP p) {j k : Nat} (e : p ^ j = p ^ k) : j = k := by
  rcases Nat.lt_trichotomy j k with z | z | z
  · have := Nat.pow_lt_pow_right h.1 z
    omega
  · exact z
  · have := Nat.pow_lt_pow_right h.1 z
    omega
/-- a sum by the divisors of a power of a prime -/
theorem S1_pp (h : IsP p) (e : Nat) (F : Nat → Int) : S1 (p ^ e) (fun a => if p ^ e % a = 0 then F a else 0) = S1 (e + 1) fun k => F (p ^ (k - 1)) := by
  have pp : 0 < p := by have := h.1; omega
  have e1 : S1 (p ^ e) (fun a => if p ^ e % a = 0 then F a else 0) = S1 (p ^ e) fun a => S1 (e + 1) fun k => if a = p ^ (k - 1) then F a else 0 := S1_congr fun a h1 h2 => by
    by_cases z : p ^ e % a = 0
    · rw [if_pos z]
      obtain ⟨j, hj, rfl⟩ := dvd_pp h (mod_dvd.mp z)
      rw [S1_congr (g := fun k => if k = j + 1 then F (p ^ j) else 0) fun k k1 k2 => ?_, S1_one, if_pos ⟨by omega, by omega⟩]
      by_cases y : k = j + 1
      · subst y
        rw [if_pos rfl, if_pos (by rw [show j + 1 - 1 = j by omega])]
      · rw [if_neg y, if_neg]
        intro x
        have := pow_inj h x
        omega
    · rw [if_neg z, S1_congr (g := fun _ => 0) fun k k1 k2 => ?_, S1_zero]
      rw [if_neg]
      rintro rfl
      exact z (mod_dvd.mpr (Nat.pow_dvd_pow p (by omega)))
  rw [e1, S1_swap]
  refine S1_congr fun k k1 k2 => ?_
  rw [S1_one, if_pos ⟨Nat.pow_pos pp, Nat.pow_le_pow_right pp (by omega)⟩]
/-- what a multiplicative function is, by a number's primes -/
def pI : List Int → Int
  | [] => 1
  | z :: zs => z * pI zs
theorem ml_fac (hf : Ml N f) : ∀ {ps : List (Nat × Nat)} {n : Nat}, Fac n ps → n ≤ N → f n = pI (ps.map fun q => f (q.1 ^ q.2))
  | [], n, h, _ => by
    have : n = 1 := h.1
    rw [this]
    exact hf.1
  | q :: ps, n, h, hn => by
    obtain ⟨h1, h2, h3, h4, h5, h6⟩ := fac_head h
    have p1 := h1.pos
    rw [h4] at hn ⊢
    rw [hf.2 _ _ h6 p1 hn h5, ml_fac hf h1 (Nat.le_trans (Nat.le_mul_of_pos_left _ h6) hn)]
    rfl
def w1 (_ : Nat) : Int := 1
def wId (n : Nat) : Int := n
theorem ml_w1 (N : Nat) : Ml N w1 := ⟨rfl, fun _ _ _ _ _ _ => rfl⟩
theorem ml_wId (N : Nat) : Ml N wId := ⟨rfl, fun a b _ _ _ _ => by unfold wId; rw [Int.natCast_mul]⟩
/-- how many divisors, their sum -/
def wMany : Nat → Int := dv w1 w1
def wSum : Nat → Int := dv wId w1
theorem S1_const (n : Nat) (c : Int) : S1 n (fun _ => c) = n * c := by
  induction n with
  | zero => simp [S1]
  | succ n ih =>
    simp only [S1, ih]
    rw [Int.natCast_add, Int.add_mul]
    simp
theorem many_fac (h : Fac n ps) : wMany n = pI (ps.map fun q => ((q.2 + 1 : Nat) : Int)) := by
  unfold wMany
  rw [ml_fac (ml_dv (ml_w1 n) (ml_w1 n)) h (Nat.le_refl n)]
  congr 1
  refine List.map_congr_left fun q hq => ?_
  have : dv w1 w1 (q.1 ^ q.2) = S1 (q.1 ^ q.2) fun a => if q.1 ^ q.2 % a = 0 then (fun _ => (1 : Int)) a else 0 := rfl
  rw [this, S1_pp (h.2.1 q hq).1, S1_const]
  simp
theorem sum_fac (h : Fac n ps) : wSum n = pI (ps.map fun q => S1 (q.2 + 1) fun k => ((q.1 ^ (k - 1) : Nat) : Int)) := by
  unfold wSum
  rw [ml_fac (ml_dv (ml_wId n) (ml_w1 n)) h (Nat.le_refl n)]
  congr 1
  refine List.map_congr_left fun q hq => ?_
  have : dv wId w1 (q.1 ^ q.2) = S1 (q.1 ^ q.2) fun a => if q.1 ^ q.2 % a = 0 then wId a else 0 := S1_congr fun a _ _ => by
    split
    · show wId a * 1 = wId a
      rw [Int.mul_one]
    · rfl
  rw [this, S1_pp (h.2.1 q hq).1]
  rfl
/-! ### the shares: how many numbers up to n have no common divisor with n -/
def wShares (n : Nat) : Int := S1 n fun k => if Nat.gcd k n = 1 then 1 else 0
theorem S1_mult (d m : Nat) (hd : 1 ≤ d) (F : Nat → Int) : S1 (d * m) (fun k => if k % d = 0 then F k else 0) = S1 m fun j => F (d * j) := by
  have e1 : S1 (d * m) (fun k => if k % d = 0 then F k else 0) = S1 (d * m) fun k => S1 m fun j => if k = d * j then F k else 0 := S1_congr fun k k1 k2 => by
    by_cases z : k % d = 0
    · rw [if_pos z]
      obtain ⟨j, rfl⟩ := mod_dvd.mp z
      rw [S1_congr (g := fun i => if i = j then F (d * j) else 0) fun i _ _ => ?_, S1_one, if_pos]
      · refine ⟨?_, Nat.le_of_mul_le_mul_left k2 hd⟩
        rcases Nat.eq_zero_or_pos j with y | y
        · rw [y] at k1
          omega
        · exact y
      · by_cases y : i = j
        · rw [if_pos y, if_pos (by rw [y])]
        · rw [if_neg y, if_neg fun x => y (Nat.eq_of_mul_eq_mul_left hd x).symm]
    · rw [if_neg z, S1_congr (g := fun _ => 0) fun j _ _ => ?_, S1_zero]
      rw [if_neg]
      rintro rfl
      exact z (Nat.mul_mod_right d j)
  rw [e1, S1_swap]
  refine S1_congr fun j j1 j2 => ?_
  rw [S1_one, if_pos ⟨Nat.mul_pos hd j1, Nat.mul_le_mul_left d j2⟩]
/-- the shares of all divisors together -/
theorem shares_sum {n : Nat} (hn : 1 ≤ n) : dv w1 wShares n = n := by
  have e0 : (n : Int) = S1 n fun k => S1 n fun d => if d = Nat.gcd k n then 1 else 0 := by
    rw [S1_congr (g := fun _ => 1) fun k k1 k2 => ?_, S1_const, Int.mul_one]
    rw [S1_one, if_pos ⟨Nat.gcd_pos_of_pos_left _ k1, Nat.gcd_le_right _ hn⟩]
  rw [e0, S1_swap]
  unfold dv
  refine S1_congr fun d d1 d2 => ?_
  by_cases z : n % d = 0
  · rw [if_pos z]
    obtain ⟨m, rfl⟩ := mod_dvd.mp z
    have dm : d * m / d = m := Nat.mul_div_cancel_left m d1
    rw [dm]
    show w1 d * wShares m = _
    unfold w1 wShares
    rw [Int.one_mul]
    have key : S1 m (fun j => if Nat.gcd j m = 1 then (1 : Int) else 0) = S1 m fun j => (fun k => if d = Nat.gcd k (d * m) then (1 : Int) else 0) (d * j) := S1_congr fun j _ _ => by
      show _ = if d = Nat.gcd (d * j) (d * m) then (1 : Int) else 0
      rw [Nat.gcd_mul_left]
      by_cases y : Nat.gcd j m = 1
      · rw [if_pos y, y, Nat.mul_one, if_pos rfl]
      · rw [if_neg y, if_neg]
        intro x
        have : d * 1 = d * Nat.gcd j m := by rw [Nat.mul_one]; exact x
        exact y (Nat.eq_of_mul_eq_mul_left d1 this).symm
    refine key.trans ((S1_mult d m d1 (fun k => if d = Nat.gcd k (d * m) then (1 : Int) else 0)).symm.trans ?_)
    refine S1_congr fun k k1 k2 => ?_
    by_cases y : k % d = 0
    · rw [if_pos y]
    · rw [if_neg y, if_neg]
      intro x
      exact y (mod_dvd.mpr (x ▸ Nat.gcd_dvd_left k (d * m)))
  · rw [if_neg z, S1_congr (g := fun _ => 0) fun k _ _ => ?_, S1_zero]
    rw [if_neg]
    intro x
    exact z (mod_dvd.mpr (x ▸ Nat.gcd_dvd_right k n))
theorem ml_congr' {n : Nat} {f g : Nat → Int} (n1 : 1 ≤ n) (h : ∀ m, 1 ≤ m → m ≤ n → f m = g m) (hf : Ml n f) : Ml n g := ⟨by rw [← h 1 (Nat.le_refl 1) n1]; exact hf.1, fun a b ha hb hab co => by
  rw [← h _ (Nat.mul_pos ha hb) hab, ← h a ha (Nat.le_trans (Nat.le_mul_of_pos_right a hb) hab), ← h b hb (Nat.le_trans (Nat.le_mul_of_pos_left b ha) hab)]
  exact hf.2 a b ha hb hab co⟩
theorem ml_shares (N : Nat) (hN : 1 ≤ N) : Ml N wShares := by
  obtain ⟨mu, hmu⟩ := inv_ex w1 (.inl rfl) N
  have mm : Ml N mu := ml_inv (ml_w1 N) hN hmu
  refine ml_congr' hN (fun n h1 h2 => ?_) (ml_dv mm (ml_wId N))
  have a1 : dv (dv mu w1) wShares n = wShares n := by
    rw [dv_congr (f' := u1) (g' := wShares) h1 (fun a h3 h4 => hmu a h3 (by omega)) (fun _ _ _ => rfl), dv_unitL h1]
  rw [← a1, dv_assoc h1]
  exact dv_congr h1 (fun _ _ _ => rfl) fun a h3 h4 => (shares_sum h3).symm
end
end Sv

set_option Elab.async false
set_option linter.all false
set_option maxRecDepth 100000
set_option maxHeartbeats 4000000
/-! MFac2: a number's primes are one list; the named functions by them. -/
namespace Sv
section
variable {p q n e N : Nat} {ps qs : List (Nat × Nat)}
theorem IsP.dvd_pow (h : IsP p) : ∀ {k a : Nat}, p ∣ a ^ k → p ∣ a
  | 0, a, hd => by
    rw [Nat.pow_zero] at hd
    have := Nat.le_of_dvd (by decide) hd
    have := h.1
    omega
  | k + 1, a, hd => by
    rw [Nat.pow_succ] at hd
    rcases h.dvd_mul hd with z | z
    · exact h.dvd_pow z
    · exact z
theorem IsP.in_prodF (h : IsP p) : ∀ {ps : List (Nat × Nat)}, (∀ q ∈ ps, IsP q.1 ∧ 1 ≤ q.2) → p ∣ prodF ps → ∃ q ∈ ps, q.1 = p
  | [], _, hd => by
    have : p ≤ 1 := Nat.le_of_dvd (by decide) hd
    have := h.1
    omega
  | q :: ps, hq, hd => by
    rcases h.dvd_mul hd with z | z
    · exact ⟨q, List.mem_cons_self, ((hq q List.mem_cons_self).1.2 p h.1 (h.dvd_pow z)).symm⟩
    · obtain ⟨r, hr, e⟩ := h.in_prodF (fun r hr => hq r (List.mem_cons_of_mem _ hr)) z
      exact ⟨r, List.mem_cons_of_mem _ hr, e⟩
theorem fac_uniq : ∀ {ps qs : List (Nat × Nat)} {n : Nat}, Fac n ps → Fac n qs → ps = qs
  | [], [], _, _, _ => rfl
  | [], q :: qs, n, h, h' => by
    obtain ⟨_, h2, h3, h4, _, h6⟩ := fac_head h'
    have e : n = 1 := h.1
    have : q.1 ∣ 1 := by
      rw [← e, h4]
      exact Nat.dvd_trans (Nat.dvd_trans (by rw [Nat.pow_one]; exact Nat.dvd_refl _) (Nat.pow_dvd_pow q.1 h3)) (Nat.dvd_mul_right _ _)
    have := Nat.le_of_dvd (by decide) this
    have := h2.1
    omega
  | q :: qs, [], n, h', h => by
    obtain ⟨_, h2, h3, h4, _, h6⟩ := fac_head h'
    have e : n = 1 := h.1
    have : q.1 ∣ 1 := by
      rw [← e, h4]
      exact Nat.dvd_trans (Nat.dvd_trans (by rw [Nat.pow_one]; exact Nat.dvd_refl _) (Nat.pow_dvd_pow q.1 h3)) (Nat.dvd_mul_right _ _)
    have := Nat.le_of_dvd (by decide) this
    have := h2.1
    omega
  | a :: ps, b :: qs, n, h, h' => by
    have dv0 : ∀ {q : Nat × Nat} {ps : List (Nat × Nat)}, Fac n (q :: ps) → q.1 ∣ n := fun {q ps} h => by
      obtain ⟨_, _, h3, h4, _, _⟩ := fac_head h
      rw [h4]
      exact Nat.dvd_trans (Nat.dvd_trans (by rw [Nat.pow_one]; exact Nat.dvd_refl _) (Nat.pow_dvd_pow q.1 h3)) (Nat.dvd_mul_right _ _)
    have le : ∀ {q r : Nat × Nat} {ps qs : List (Nat × Nat)}, Fac n (q :: ps) → Fac n (r :: qs) → r.1 ≤ q.1 := fun {q r ps qs} h h' => by
      have d := dv0 h
      rw [h'.1] at d
      obtain ⟨s, hs, es⟩ := (h.2.1 q List.mem_cons_self).1.in_prodF h'.2.1 d
      rcases List.mem_cons.mp hs with rfl | hs
      · omega
      · have := (List.pairwise_cons.mp h'.2.2).1 s hs
        omega
    have e1 : a.1 = b.1 := Nat.le_antisymm (le h' h) (le h h')
    obtain ⟨f1, p1, k1, g1, c1, t1⟩ := fac_head h
    obtain ⟨f2, p2, k2, g2, c2, t2⟩ := fac_head h'
    have nd : ∀ {q r : Nat × Nat} {ps qs : List (Nat × Nat)}, q.1 = r.1 → Fac n (q :: ps) → Fac n (r :: qs) → q.2 ≤ r.2 := fun {q r ps qs} e h h' => by
      obtain ⟨f1, p1, k1, g1, c1, t1⟩ := fac_head h
      obtain ⟨f2, p2, k2, g2, c2, t2⟩ := fac_head h'
      have d : q.1 ^ q.2 ∣ r.1 ^ r.2 * prodF qs := by
        rw [← g2, g1]
        exact Nat.dvd_mul_right _ _
      have c : Nat.Coprime (q.1 ^ q.2) (prodF qs) := by
        rw [e]
        refine Nat.Coprime.pow_left _ (cop_prodF p2 fun s hs => ⟨(h'.2.1 s (List.mem_cons_of_mem _ hs)).1, fun z => ?_⟩)
        have := (List.pairwise_cons.mp h'.2.2).1 s hs
        omega
      have d2 := c.dvd_of_dvd_mul_right d
      rw [e] at d2
      rcases Nat.lt_or_ge r.2 q.2 with z | z
      · have l := Nat.le_of_dvd t2 d2
        have := Nat.pow_lt_pow_right p2.1 z
        omega
      · exact z
    have e2 : a.2 = b.2 := Nat.le_antisymm (nd e1 h h') (nd e1.symm h' h)
    have eab : a = b := Prod.ext e1 e2
    subst eab
    have e3 : prodF ps = prodF qs := by
      have : a.1 ^ a.2 * prodF ps = a.1 ^ a.2 * prodF qs := by rw [← g1, ← g2]
      exact Nat.eq_of_mul_eq_mul_left t1 this
    rw [fac_uniq (n := prodF ps) f1 (by rw [e3]; exact f2)]
/-- the one list -/
noncomputable def facOf (n : Nat) : List (Nat × Nat) := @dite _ (∃ ps, Fac n ps) (Classical.propDecidable _) (fun h => Classical.choose h) fun _ => []
theorem facOf_eq (h : Fac n ps) : facOf n = ps := by
  unfold facOf
  rw [dif_pos ⟨ps, h⟩]
  exact fac_uniq (Classical.choose_spec (⟨ps, h⟩ : ∃ ps, Fac n ps)) h
/-! ### shares by the primes -/
theorem shares_pp (h : IsP p) (e : Nat) (he : 1 ≤ e) : wShares (p ^ e) = ((p ^ (e - 1) : Nat) : Int) * ((p : Int) - 1) := by
  have pp : 0 < p := by have := h.1; omega
  have sm : ∀ e, (S1 (e + 1) fun k => wShares (p ^ (k - 1))) = ((p ^ e : Nat) : Int) := fun e => by
    have pe : 1 ≤ p ^ e := Nat.pow_pos pp
    rw [← shares_sum pe, dv_comm pe, ← S1_pp h]
    refine S1_congr fun a _ _ => ?_
    split
    · show wShares a = wShares a * 1
      rw [Int.mul_one]
    · rfl
  obtain ⟨k, rfl⟩ : ∃ k, e = k + 1 := ⟨e - 1, by omega⟩
  have h1 := sm (k + 1)
  have h2 := sm k
  have h3 : (S1 (k + 1 + 1) fun k => wShares (p ^ (k - 1))) = (S1 (k + 1) fun k => wShares (p ^ (k - 1))) + wShares (p ^ (k + 1)) := rfl
  rw [h3, h2] at h1
  rw [show k + 1 - 1 = k by omega, Int.mul_sub, Int.mul_one]
  rw [Nat.pow_succ, Int.natCast_mul] at h1
  rw [Nat.pow_succ]
  omega
theorem shares_fac (h : Fac n ps) : wShares n = pI (ps.map fun q => ((q.1 ^ (q.2 - 1) : Nat) : Int) * ((q.1 : Int) - 1)) := by
  rw [ml_fac (ml_shares n h.pos) h (Nat.le_refl n)]
  congr 1
  exact List.map_congr_left fun q hq => shares_pp (h.2.1 q hq).1 _ (h.2.1 q hq).2
/-! ### free, mark, even, prime -/
def cntE (ps : List (Nat × Nat)) : Nat := (ps.map (·.2)).sum
def flatE (ps : List (Nat × Nat)) : Bool := ps.all fun q => decide (q.2 ≤ 1)
noncomputable def wEven (n : Nat) : Int := 1 - 2 * ((cntE (facOf n) : Int) % 2)
noncomputable def wFree (n : Nat) : Int := if flatE (facOf n) then 1 else 0
noncomputable def wMark (n : Nat) : Int := wFree n * wEven n
def wPrime (n : Nat) : Int := if wMany n = 2 then 1 else 0
theorem flat_cnt (h : ∀ q ∈ ps, 1 ≤ q.2) (hf : flatE ps = true) : cntE ps = ps.length := by
  induction ps with
  | nil => rfl
  | cons q ps ih =>
    unfold flatE at hf
    rw [List.all_cons, Bool.and_eq_true] at hf
    have h1 := of_decide_eq_true hf.1
    have h2 := h q List.mem_cons_self
    have h3 := ih (fun r hr => h r (List.mem_cons_of_mem _ hr)) hf.2
    unfold cntE at h3 ⊢
    rw [List.map_cons, List.sum_cons, h3, List.length_cons]
    omega
theorem pI_pos : ∀ ps : List (Nat × Nat), 1 ≤ pI (ps.map fun q => ((q.2 + 1 : Nat) : Int))
  | [] => Int.le_refl 1
  | q :: ps => by
    have h := pI_pos ps
    show 1 ≤ ((q.2 + 1 : Nat) : Int) * pI _
    have h2 : (1 : Int) ≤ ((q.2 + 1 : Nat) : Int) := by omega
    calc (1 : Int) = 1 * 1 := rfl
      _ ≤ _ := Int.mul_le_mul h2 h (by decide) (by omega)
theorem prime_fac (h : ∀ q ∈ ps, 1 ≤ q.2) : pI (ps.map fun q => ((q.2 + 1 : Nat) : Int)) = 2 ↔ ∃ p, ps = [(p, 1)] := by
  constructor
  · intro e
    match ps, h, e with
    | [], _, e => exact absurd e (by decide)
    | [q], h, e =>
      have : ((q.2 + 1 : Nat) : Int) * 1 = 2 := e
      exact ⟨q.1, by rw [show q = (q.1, 1) from Prod.ext rfl (by show q.2 = 1; omega)]⟩
    | q :: r :: ps, h, e =>
      have e' : ((q.2 + 1 : Nat) : Int) * (((r.2 + 1 : Nat) : Int) * pI (ps.map fun q => ((q.2 + 1 : Nat) : Int))) = 2 := e
      have a := h q List.mem_cons_self
      have b := h r (List.mem_cons_of_mem _ List.mem_cons_self)
      have c := pI_pos ps
      have d : (2 : Int) * 1 ≤ ((r.2 + 1 : Nat) : Int) * pI (ps.map fun q => ((q.2 + 1 : Nat) : Int)) := Int.mul_le_mul (by omega) c (by decide) (by omega)
      have f : (2 : Int) * 2 ≤ ((q.2 + 1 : Nat) : Int) * (((r.2 + 1 : Nat) : Int) * pI (ps.map fun q => ((q.2 + 1 : Nat) : Int))) := Int.mul_le_mul (by omega) d (by decide) (by omega)
      omega
  · rintro ⟨p, rfl⟩
    rfl
/-- the named functions, in their turn -/
noncomputable def W : Nat → Nat → Int
  | 0 => u1
  | 1 => w1
  | 2 => wId
  | 3 => wMany
  | 4 => wSum
  | 5 => wShares
  | 6 => wFree
  | 7 => wMark
  | 8 => wEven
  | _ => wPrime
end
end Sv

set_option Elab.async false
set_option linter.all false
set_option maxRecDepth 100000
set_option maxHeartbeats 4000000
/-! MDiv: all divisors, by the primes; how many at most; sorted lists. -/
namespace Sv
/-- the products that the program lays, pair by pair -/
def dlN (ds : List Nat) (q : Nat × Nat) : List Nat := ds.flatMap fun d => (List.range (q.2 + 1)).map fun k => d * q.1 ^ k
def dl (ps : List (Nat × Nat)) : List Nat := ps.foldl dlN [1]
def divs (n : Nat) : List Nat := ((List.range n).map (· + 1)).filter fun d => decide (n % d = 0)
section
variable {p q n e : Nat} {ps : List (Nat × Nat)}
theorem dl_snoc (ps : List (Nat × Nat)) (q : Nat × Nat) : dl (ps ++ [q]) = dlN (dl ps) q := by
  unfold dl
  rw [List.foldl_append]
  rfl
theorem dlN_len (ds : List Nat) (q : Nat × Nat) : (dlN ds q).length = ds.length * (q.2 + 1) := by
  unfold dlN
  induction ds with
  | nil => simp
  | cons d ds ih =>
    rw [List.flatMap_cons, List.length_append, ih, List.length_map, List.length_range, List.length_cons, Nat.succ_mul, Nat.add_comm]
def cntD : List (Nat × Nat) → Nat
  | [] => 1
  | q :: ps => (q.2 + 1) * cntD ps
theorem cntD_snoc : ∀ (ps : List (Nat × Nat)) (q : Nat × Nat), cntD (ps ++ [q]) = cntD ps * (q.2 + 1)
  | [], q => by simp [cntD]
  | r :: ps, q => by
    show (r.2 + 1) * cntD (ps ++ [q]) = (r.2 + 1) * cntD ps * (q.2 + 1)
    rw [cntD_snoc ps q, Nat.mul_assoc]
theorem cntD_pos : ∀ ps : List (Nat × Nat), 1 ≤ cntD ps
  | [] => Nat.le_refl 1
  | q :: ps => Nat.mul_pos (Nat.succ_pos _) (cntD_pos ps)
theorem pI_cnt : ∀ ps : List (Nat × Nat), pI (ps.map fun q => ((q.2 + 1 : Nat) : Int)) = (cntD ps : Int)
  | [] => rfl
  | q :: ps => by
    show ((q.2 + 1 : Nat) : Int) * pI _ = (((q.2 + 1) * cntD ps : Nat) : Int)
    rw [pI_cnt ps, Int.natCast_mul]
/-- bounds -/
theorem sq4 : ∀ e : Nat, (e + 1) * (e + 1) ≤ 4 ^ e
  | 0 => by decide
  | e + 1 => by
    have h := sq4 e
    rw [Nat.pow_succ]
    have : (e + 1 + 1) * (e + 1 + 1) ≤ (e + 1) * (e + 1) * 4 := by
      rw [Nat.add_mul, Nat.mul_add, Nat.one_mul, Nat.mul_one]
      have : e + 1 ≤ (e + 1) * (e + 1) := Nat.le_mul_of_pos_left _ (Nat.succ_pos e)
      omega
    exact Nat.le_trans this (Nat.mul_le_mul_right 4 h)
theorem sq2 : ∀ e : Nat, 4 * ((e + 1) * (e + 1)) ≤ 9 * 2 ^ e
  | 0 => by decide
  | 1 => by decide
  | 2 => by decide
  | e + 3 => by
    have h := sq2 (e + 2)
    rw [Nat.pow_succ]
    have : (e + 3 + 1) * (e + 3 + 1) ≤ (e + 2 + 1) * (e + 2 + 1) * 2 := by
      have a : (e + 3 + 1) * (e + 3 + 1) = (e + 3) * (e + 3) + 2 * (e + 3) + 1 := by
        rw [Nat.add_mul, Nat.mul_add, Nat.one_mul, Nat.mul_one]
        omega
      have b : 3 * (e + 3) ≤ (e + 3) * (e + 3) := Nat.mul_le_mul_right _ (by omega)
      rw [a]
      show (e + 3) * (e + 3) + 2 * (e + 3) + 1 ≤ (e + 3) * (e + 3) * 2
      omega
    omega
theorem cnt_big : ∀ {ps : List (Nat × Nat)}, (∀ q ∈ ps, 4 ≤ q.1) → cntD ps * cntD ps ≤ prodF ps
  | [], _ => Nat.le_refl 1
  | q :: ps, h => by
    have h1 := cnt_big fun r hr => h r (List.mem_cons_of_mem _ hr)
    have h2 := Nat.le_trans (sq4 q.2) (Nat.pow_le_pow_left (h q List.mem_cons_self) q.2)
    show (q.2 + 1) * cntD ps * ((q.2 + 1) * cntD ps) ≤ q.1 ^ q.2 * prodF ps
    rw [Nat.mul_mul_mul_comm]
    exact Nat.mul_le_mul h2 h1
theorem cnt_step {q : Nat × Nat} {c : Nat} (h2 : 2 ≤ q.1) (h : c * (cntD ps * cntD ps) ≤ 9 * prodF ps) : 4 * c * (cntD (q :: ps) * cntD (q :: ps)) ≤ 9 * 9 * prodF (q :: ps) := by
  have a := Nat.le_trans (sq2 q.2) (Nat.mul_le_mul_left 9 (Nat.pow_le_pow_left h2 q.2))
  show 4 * c * ((q.2 + 1) * cntD ps * ((q.2 + 1) * cntD ps)) ≤ 9 * 9 * (q.1 ^ q.2 * prodF ps)
  rw [Nat.mul_mul_mul_comm (q.2 + 1), Nat.mul_mul_mul_comm 4 c, Nat.mul_mul_mul_comm 9 9]
  exact Nat.mul_le_mul a h
theorem cnt_bound (h : Fac n ps) (hn : n ≤ 1000000000) : cntD ps ≤ 90000 := by
  have main : 16 * (cntD ps * cntD ps) ≤ 81 * prodF ps := by
    match ps, h with
    | [], _ => decide
    | q :: ps, h =>
      have p2 := (h.2.1 q List.mem_cons_self).1.1
      obtain ⟨l1, l2⟩ := List.pairwise_cons.mp h.2.2
      refine cnt_step (c := 4) p2 ?_
      match ps, h, l1, l2 with
      | [], _, _, _ => decide
      | r :: ps, h, l1, l2 =>
        have r3 : 3 ≤ r.1 := by
          have := l1 r List.mem_cons_self
          omega
        obtain ⟨m1, m2⟩ := List.pairwise_cons.mp l2
        have big := cnt_big (ps := ps) fun s hs => by
          have := m1 s hs
          omega
        show 4 * ((r.2 + 1) * cntD ps * ((r.2 + 1) * cntD ps)) ≤ 9 * (r.1 ^ r.2 * prodF ps)
        have a := Nat.le_trans (sq2 r.2) (Nat.mul_le_mul_left 9 (Nat.pow_le_pow_left (show 2 ≤ r.1 by omega) r.2))
        rw [Nat.mul_mul_mul_comm (r.2 + 1), ← Nat.mul_assoc, ← Nat.mul_assoc 9]
        exact Nat.mul_le_mul a big
  rw [← h.1] at main
  rcases Nat.lt_or_ge 90000 (cntD ps) with z | z
  · have := Nat.mul_le_mul (Nat.le_of_lt z) (Nat.le_of_lt z)
    omega
  · exact z
/-- members of dl -/
theorem fac_snoc {q : Nat × Nat} (h : Fac n (ps ++ [q])) : Fac (prodF ps) ps ∧ IsP q.1 ∧ 1 ≤ q.2 ∧ n = prodF ps * q.1 ^ q.2 ∧ Nat.gcd (prodF ps) (q.1 ^ q.2) = 1 := by
  obtain ⟨h1, h2, h3⟩ := h
  obtain ⟨h4, _, h5⟩ := List.pairwise_append.mp h3
  have hp := h2 q (List.mem_append_right _ List.mem_cons_self)
  refine ⟨⟨rfl, fun r hr => h2 r (List.mem_append_left _ hr), h4⟩, hp.1, hp.2, ?_, ?_⟩
  · rw [h1, prodF_app]
    simp [prodF]
  · have c : Nat.Coprime q.1 (prodF ps) := cop_prodF hp.1 fun r hr => ⟨(h2 r (List.mem_append_left _ hr)).1, fun z => by
      have := h5 r hr q List.mem_cons_self
      omega⟩
    exact Nat.Coprime.pow_right _ c.symm
theorem dl_mem : ∀ (k : Nat) {ps : List (Nat × Nat)} {n : Nat}, ps.length = k → Fac n ps → ∀ d, d ∈ dl ps ↔ d ∣ n
  | 0, ps, n, hk, h, d => by
    have : ps = [] := List.length_eq_zero_iff.mp hk
    subst this
    have : n = 1 := h.1
    rw [this, Nat.dvd_one]
    simp [dl]
  | k + 1, ps, n, hk, h, d => by
    rcases List.eq_nil_or_concat ps with rfl | ⟨qs, q, rfl⟩
    · cases hk
    · rw [List.concat_eq_append] at hk h ⊢
      obtain ⟨f1, p1, k1, e1, c1⟩ := fac_snoc h
      have ih := dl_mem k (by simpa using hk) f1
      rw [dl_snoc]
      unfold dlN
      rw [List.mem_flatMap]
      constructor
      · rintro ⟨a, ha, hd⟩
        obtain ⟨j, hj, rfl⟩ := List.mem_map.mp hd
        have := List.mem_range.mp hj
        rw [e1]
        exact Nat.mul_dvd_mul ((ih a).mp ha) (Nat.pow_dvd_pow q.1 (by omega))
      · intro hd
        rw [e1] at hd
        have e2 : d = Nat.gcd d (prodF qs) * Nat.gcd d (q.1 ^ q.2) := by
          rw [← Nat.Coprime.gcd_mul d c1, Nat.gcd_eq_left hd]
        obtain ⟨j, hj, ej⟩ := dvd_pp p1 (Nat.gcd_dvd_right d (q.1 ^ q.2))
        refine ⟨Nat.gcd d (prodF qs), (ih _).mpr (Nat.gcd_dvd_right _ _), List.mem_map.mpr ⟨j, List.mem_range.mpr (by omega), ?_⟩⟩
        rw [← ej]
        exact e2.symm
theorem dl_nodup : ∀ (k : Nat) {ps : List (Nat × Nat)} {n : Nat}, ps.length = k → Fac n ps → (dl ps).Nodup
  | 0, ps, n, hk, h => by
    have : ps = [] := List.length_eq_zero_iff.mp hk
    subst this
    simp [dl]
  | k + 1, ps, n, hk, h => by
    rcases List.eq_nil_or_concat ps with rfl | ⟨qs, q, rfl⟩
    · cases hk
    · rw [List.concat_eq_append] at hk h ⊢
      obtain ⟨f1, p1, k1, e1, c1⟩ := fac_snoc h
      have ih := dl_nodup k (by simpa using hk) f1
      have im := dl_mem k (by simpa using hk) f1
      have pos : ∀ d ∈ dl qs, 0 < d := fun d hd => Nat.pos_of_dvd_of_pos ((im d).mp hd) f1.pos
      -- the parts of a product
      have part : ∀ d ∈ dl qs, ∀ j, Nat.gcd (d * q.1 ^ j) (prodF qs) = d := fun d hd j => by
        have cj : Nat.Coprime (q.1 ^ j) (prodF qs) := by
          have : Nat.Coprime q.1 (prodF qs) := by
            have := gcd_of_dvd c1 (Nat.dvd_refl _) (Nat.dvd_trans (by rw [Nat.pow_one]; exact Nat.dvd_refl _) (Nat.pow_dvd_pow q.1 k1))
            rw [Nat.gcd_comm] at this
            exact this
          exact Nat.Coprime.pow_left _ this
        rw [Nat.Coprime.gcd_mul_right_cancel d cj]
        exact Nat.gcd_eq_left ((im d).mp hd)
      rw [dl_snoc]
      unfold dlN
      have gen : ∀ ds : List Nat, ds.Nodup → (∀ d ∈ ds, d ∈ dl qs) → (ds.flatMap fun d => (List.range (q.2 + 1)).map fun k => d * q.1 ^ k).Nodup := fun ds => by
        induction ds with
        | nil => intro _ _; simp
        | cons d ds ihd =>
          intro hn hm
          rw [List.flatMap_cons, List.nodup_append]
          obtain ⟨n1, n2⟩ := List.nodup_cons.mp hn
          refine ⟨?_, ihd n2 fun x hx => hm x (List.mem_cons_of_mem _ hx), fun x hx y hy e => ?_⟩
          · refine List.Pairwise.map _ (fun a b hab e => hab ?_) List.nodup_range
            have := Nat.eq_of_mul_eq_mul_left (pos d (hm d List.mem_cons_self)) e
            exact pow_inj p1 this
          · obtain ⟨j, _, rfl⟩ := List.mem_map.mp hx
            obtain ⟨c, hc, hy⟩ := List.mem_flatMap.mp hy
            obtain ⟨i, _, rfl⟩ := List.mem_map.mp hy
            have a := part d (hm d List.mem_cons_self) j
            have b := part c (hm c (List.mem_cons_of_mem _ hc)) i
            rw [e, b] at a
            exact n1 (a ▸ hc)
      exact gen _ ih fun d hd => hd
/-- sorted lists of the same members -/
theorem sorted_ext : ∀ {l l' : List Int}, l.Pairwise (· < ·) → l'.Pairwise (· < ·) → (∀ x, x ∈ l ↔ x ∈ l') → l = l'
  | [], [], _, _, _ => rfl
  | [], b :: l', _, _, h => by
    have := (h b).mpr List.mem_cons_self
    cases this
  | a :: l, [], _, _, h => by
    have := (h a).mp List.mem_cons_self
    cases this
  | a :: l, b :: l', h1, h2, h => by
    obtain ⟨a1, a2⟩ := List.pairwise_cons.mp h1
    obtain ⟨b1, b2⟩ := List.pairwise_cons.mp h2
    have ab : a = b := by
      rcases List.mem_cons.mp ((h a).mp List.mem_cons_self) with z | z
      · exact z
      · rcases List.mem_cons.mp ((h b).mpr List.mem_cons_self) with y | y
        · exact y.symm
        · have := a1 b y
          have := b1 a z
          omega
    subst ab
    rw [sorted_ext a2 b2 fun x => ?_]
    constructor
    · intro hx
      rcases List.mem_cons.mp ((h x).mp (List.mem_cons_of_mem _ hx)) with z | z
      · have := a1 x hx
        omega
      · exact z
    · intro hx
      rcases List.mem_cons.mp ((h x).mpr (List.mem_cons_of_mem _ hx)) with z | z
      · have := b1 x hx
        omega
      · exact z
theorem divs_mem (hn : 1 ≤ n) (d : Nat) : d ∈ divs n ↔ d ∣ n := by
  unfold divs
  rw [List.mem_filter, List.mem_map]
  constructor
  · rintro ⟨_, h⟩
    exact mod_dvd.mp (of_decide_eq_true h)
  · intro h
    have d1 : 0 < d := Nat.pos_of_dvd_of_pos h hn
    have d2 := Nat.le_of_dvd hn h
    exact ⟨⟨d - 1, List.mem_range.mpr (by omega), by omega⟩, decide_eq_true (mod_dvd.mpr h)⟩
theorem divs_sorted (n : Nat) : (divs n).Pairwise (· < ·) := by
  unfold divs
  refine List.Pairwise.filter _ (List.Pairwise.map _ (fun a b h => ?_) List.pairwise_lt_range)
  omega
/-- what is sorted of dl is divs -/
theorem sorted_dl (h : Fac n ps) {ms : List Int} (hp : ms.Perm ((dl ps).map fun d : Nat => (d : Int))) (hs : ms.Pairwise (· ≤ ·)) : ms = (divs n).map fun d : Nat => (d : Int) := by
  have nd : ms.Nodup := by
    rw [hp.nodup_iff]
    refine List.Pairwise.map _ (fun a b hab e => hab ?_) (dl_nodup _ rfl h)
    omega
  refine sorted_ext ?_ ?_ fun x => ?_
  · refine (hs.and nd).imp fun {a b} hab => ?_
    have := hab.1
    have := hab.2
    omega
  · refine List.Pairwise.map _ (fun a b hab => ?_) (divs_sorted n)
    omega
  · rw [hp.mem_iff, List.mem_map, List.mem_map]
    constructor
    · rintro ⟨d, hd, rfl⟩
      exact ⟨d, (divs_mem h.pos d).mpr ((dl_mem _ rfl h d).mp hd), rfl⟩
    · rintro ⟨d, hd, rfl⟩
      exact ⟨d, (dl_mem _ rfl h d).mpr ((divs_mem h.pos d).mp hd), rfl⟩
end
end Sv

set_option Elab.async false
set_option linter.all false
set_option maxRecDepth 100000
set_option maxHeartbeats 4000000
/-! MFac3: each number has its primes. -/
namespace Sv
theorem least_div {n : Nat} (hn : 2 ≤ n) : ∃ d, 2 ≤ d ∧ d ∣ n ∧ ∀ e, 2 ≤ e → e ∣ n → d ≤ e := by
  have main : ∀ k d, d ≤ k → 2 ≤ d → d ∣ n → ∃ d, 2 ≤ d ∧ d ∣ n ∧ ∀ e, 2 ≤ e → e ∣ n → d ≤ e := fun k => by
    induction k with
    | zero => intro d h1 h2; omega
    | succ k ih =>
      intro d h1 h2 h3
      by_cases z : ∃ e, 2 ≤ e ∧ e ∣ n ∧ e < d
      · obtain ⟨e, e2, en, ed⟩ := z
        exact ih e (by omega) e2 en
      · refine ⟨d, h2, h3, fun e e2 en => ?_⟩
        rcases Nat.lt_or_ge e d with y | y
        · exact absurd ⟨e, e2, en, y⟩ z
        · exact y
  exact main n n (Nat.le_refl n) hn (Nat.dvd_refl n)
theorem max_pow {d : Nat} (hd : 2 ≤ d) : ∀ k n, n ≤ k → 1 ≤ n → ∃ e m, n = d ^ e * m ∧ ¬ d ∣ m := fun k => by
  induction k with
  | zero => intro n h1 h2; omega
  | succ k ih =>
    intro n h1 h2
    by_cases z : d ∣ n
    · obtain ⟨c, rfl⟩ := z
      have c1 : 1 ≤ c := by
        rcases Nat.eq_zero_or_pos c with y | y
        · rw [y] at h2
          omega
        · exact y
      have : 2 * c ≤ d * c := Nat.mul_le_mul_right c hd
      obtain ⟨e, m, h3, h4⟩ := ih c (by omega) c1
      exact ⟨e + 1, m, by rw [h3, Nat.pow_succ, Nat.mul_comm (d ^ e) d, Nat.mul_assoc], h4⟩
    · exact ⟨0, n, by simp, z⟩
theorem fac_ex' : ∀ k n, n ≤ k → 1 ≤ n → ∃ ps, Fac n ps ∧ ∀ p, (∀ d, 2 ≤ d → d ∣ n → p ≤ d) → ∀ q ∈ ps, p ≤ q.1 := fun k => by
  induction k with
  | zero => intro n h1 h2; omega
  | succ k ih =>
    intro n h1 h2
    by_cases e : n = 1
    · subst e
      exact ⟨[], ⟨rfl, fun _ h => (by cases h), .nil⟩, fun _ _ _ h => (by cases h)⟩
    · obtain ⟨d, d2, dn, dl⟩ := least_div (n := n) (by omega)
      obtain ⟨j, m, hm, nd⟩ := max_pow d2 n n (Nat.le_refl n) h2
      have pd : IsP d := ⟨d2, fun c c2 cd => by
        have a := dl c c2 (Nat.dvd_trans cd dn)
        have b := Nat.le_of_dvd (by omega) cd
        omega⟩
      have j1 : 1 ≤ j := by
        rcases Nat.eq_zero_or_pos j with z | z
        · subst z
          rw [Nat.pow_zero, Nat.one_mul] at hm
          rw [hm] at dn
          exact absurd dn nd
        · exact z
      have m1 : 1 ≤ m := by
        rcases Nat.eq_zero_or_pos m with z | z
        · rw [z] at nd
          exact absurd (Nat.dvd_zero d) nd
        · exact z
      have pw : 2 ≤ d ^ j := Nat.le_trans d2 (by
        calc d = d ^ 1 := (Nat.pow_one _).symm
          _ ≤ d ^ j := Nat.pow_le_pow_right (by omega) j1)
      have lt : 2 * m ≤ n := by
        rw [hm]
        exact Nat.mul_le_mul_right m pw
      obtain ⟨ps, hF, hl⟩ := ih m (by omega) m1
      have big : ∀ q ∈ ps, d + 1 ≤ q.1 := hl (d + 1) fun c c2 cm => by
        have a := dl c c2 (Nat.dvd_trans cm ⟨d ^ j, by rw [hm, Nat.mul_comm]⟩)
        rcases Nat.lt_or_ge d c with z | z
        · exact z
        · have : c = d := by omega
          exact absurd (this ▸ cm) nd
      refine ⟨(d, j) :: ps, ⟨?_, fun q hq => ?_, List.pairwise_cons.mpr ⟨fun q hq => big q hq, hF.2.2⟩⟩, fun p hp q hq => ?_⟩
      · rw [hm, hF.1]
        rfl
      · rcases List.mem_cons.mp hq with rfl | hq
        · exact ⟨pd, j1⟩
        · exact hF.2.1 q hq
      · have a := hp d d2 dn
        rcases List.mem_cons.mp hq with rfl | hq
        · exact a
        · have := big q hq
          omega
theorem fac_ex {n : Nat} (hn : 1 ≤ n) : ∃ ps, Fac n ps := by
  obtain ⟨ps, h, _⟩ := fac_ex' n n (Nat.le_refl n) hn
  exact ⟨ps, h⟩
end Sv

set_option Elab.async false
set_option linter.all false
set_option maxRecDepth 100000
set_option maxHeartbeats 4000000
/-! MFac4: one more prime; few primes, few divisors. -/
namespace Sv
def ins (p : Nat) : List (Nat × Nat) → List (Nat × Nat)
  | [] => [(p, 1)]
  | q :: ps => if p = q.1 then (q.1, q.2 + 1) :: ps else if p < q.1 then (p, 1) :: q :: ps else q :: ins p ps
theorem ins_mem {p : Nat} : ∀ {ps : List (Nat × Nat)} {r : Nat × Nat}, r ∈ ins p ps → r = (p, 1) ∨ (∃ q ∈ ps, r.1 = q.1 ∧ 1 ≤ r.2 + 0 ∧ q.2 ≤ r.2)∨ r.2 = 0
  | [], r, h => .inl (List.mem_singleton.mp h)
  | q :: ps, r, h => by
    unfold ins at h
    split at h
    · rcases List.mem_cons.mp h with rfl | h
      · exact .inr (.inl ⟨q, List.mem_cons_self, rfl, by show 1 ≤ q.2 + 1 + 0; omega, by show q.2 ≤ q.2 + 1; omega⟩)
      · rcases Nat.eq_zero_or_pos r.2 with z | z
        · exact .inr (.inr z)
        · exact .inr (.inl ⟨r, List.mem_cons_of_mem _ h, rfl, by omega, Nat.le_refl _⟩)
    · split at h
      · rcases List.mem_cons.mp h with rfl | h
        · exact .inl rfl
        · rcases Nat.eq_zero_or_pos r.2 with z | z
          · exact .inr (.inr z)
          · exact .inr (.inl ⟨r, h, rfl, by omega, Nat.le_refl _⟩)
      · rcases List.mem_cons.mp h with rfl | h
        · rcases Nat.eq_zero_or_pos r.2 with z | z
          · exact .inr (.inr z)
          · exact .inr (.inl ⟨r, List.mem_cons_self, rfl, by omega, Nat.le_refl _⟩)
        · rcases ins_mem h with h | ⟨s, hs, h1, h2, h3⟩ | h
          · exact .inl h
          · exact .inr (.inl ⟨s, List.mem_cons_of_mem _ hs, h1, h2, h3⟩)
          · exact .inr (.inr h)
theorem ins_prod {p : Nat} : ∀ ps : List (Nat × Nat), prodF (ins p ps) = prodF ps * p
  | [] => by simp [ins, prodF]
  | q :: ps => by
    unfold ins
    split
    · rename_i h
      show q.1 ^ (q.2 + 1) * prodF ps = q.1 ^ q.2 * prodF ps * p
      rw [h, Nat.pow_succ, Nat.mul_assoc, Nat.mul_assoc, Nat.mul_comm q.1]
    · split
      · show p ^ 1 * (q.1 ^ q.2 * prodF ps) = q.1 ^ q.2 * prodF ps * p
        rw [Nat.pow_one, Nat.mul_comm]
      · show q.1 ^ q.2 * prodF (ins p ps) = q.1 ^ q.2 * prodF ps * p
        rw [ins_prod ps, Nat.mul_assoc]
theorem ins_cnt {p : Nat} : ∀ ps : List (Nat × Nat), cntE (ins p ps) = cntE ps + 1
  | [] => rfl
  | q :: ps => by
    have e : ∀ (r : Nat × Nat) (l : List (Nat × Nat)), cntE (r :: l) = r.2 + cntE l := fun r l => by
      unfold cntE
      rw [List.map_cons, List.sum_cons]
    unfold ins
    split
    · rw [e, e]
      show q.2 + 1 + _ = _
      omega
    · split
      · rw [e]
        show 1 + _ = _
        omega
      · rw [e, e, ins_cnt ps]
        omega
theorem ins_gt {p b : Nat} (hb : b < p) : ∀ {ps : List (Nat × Nat)}, (∀ q ∈ ps, b < q.1) → ∀ q ∈ ins p ps, b < q.1
  | [], _, q, hq => by
    rw [List.mem_singleton.mp hq]
    exact hb
  | r :: ps, h, q, hq => by
    unfold ins at hq
    split at hq
    · rcases List.mem_cons.mp hq with rfl | hq
      · exact h r List.mem_cons_self
      · exact h q (List.mem_cons_of_mem _ hq)
    · split at hq
      · rcases List.mem_cons.mp hq with rfl | hq
        · exact hb
        · exact h q hq
      · rcases List.mem_cons.mp hq with rfl | hq
        · exact h q List.mem_cons_self
        · exact ins_gt hb (fun s hs => h s (List.mem_cons_of_mem _ hs)) q hq
theorem ins_sorted {p : Nat} : ∀ {ps : List (Nat × Nat)}, ps.Pairwise (fun a b => a.1 < b.1) → (ins p ps).Pairwise (fun a b => a.1 < b.1)
  | [], _ => List.pairwise_singleton _ _
  | q :: ps, h => by
    obtain ⟨h1, h2⟩ := List.pairwise_cons.mp h
    unfold ins
    split
    · exact List.pairwise_cons.mpr ⟨h1, h2⟩
    · rename_i n1
      split
      · rename_i n2
        refine List.pairwise_cons.mpr ⟨fun r hr => ?_, h⟩
        rcases List.mem_cons.mp hr with rfl | hr
        · exact n2
        · exact Nat.lt_trans n2 (h1 r hr)
      · rename_i n2
        exact List.pairwise_cons.mpr ⟨ins_gt (by omega) h1, ins_sorted h2⟩
theorem ins_ok {p : Nat} (hp : IsP p) : ∀ {ps : List (Nat × Nat)}, (∀ q ∈ ps, IsP q.1 ∧ 1 ≤ q.2) → ∀ q ∈ ins p ps, IsP q.1 ∧ 1 ≤ q.2
  | [], _, q, hq => by
    rw [List.mem_singleton.mp hq]
    exact ⟨hp, Nat.le_refl 1⟩
  | r :: ps, h, q, hq => by
    unfold ins at hq
    split at hq
    · rcases List.mem_cons.mp hq with rfl | hq
      · exact ⟨(h r List.mem_cons_self).1, Nat.succ_pos _⟩
      · exact h q (List.mem_cons_of_mem _ hq)
    · split at hq
      · rcases List.mem_cons.mp hq with rfl | hq
        · exact ⟨hp, Nat.le_refl 1⟩
        · exact h q hq
      · rcases List.mem_cons.mp hq with rfl | hq
        · exact h q List.mem_cons_self
        · exact ins_ok hp (fun s hs => h s (List.mem_cons_of_mem _ hs)) q hq
/-- n p, of one prime more -/
theorem fac_ins {n p : Nat} {ps : List (Nat × Nat)} (h : Fac n ps) (hp : IsP p) : Fac (n * p) (ins p ps) := ⟨by rw [ins_prod, ← h.1], ins_ok hp h.2.1, ins_sorted h.2.2⟩
theorem cntD_two : ∀ {ps : List (Nat × Nat)}, cntD ps ≤ 2 ^ cntE ps
  | [] => Nat.le_refl 1
  | q :: ps => by
    have e : cntE (q :: ps) = q.2 + cntE ps := by
      unfold cntE
      rw [List.map_cons, List.sum_cons]
    rw [e, Nat.pow_add]
    exact Nat.mul_le_mul (Nat.lt_two_pow_self) cntD_two
end Sv

set_option Elab.async false
set_option linter.all false
set_option maxRecDepth 100000
set_option maxHeartbeats 4000000
/-! MFac5: even, free, mark go by shares. -/
namespace Sv
theorem om_mul {n p : Nat} (hn : 1 ≤ n) (hp : IsP p) : cntE (facOf (n * p)) = cntE (facOf n) + 1 := by
  obtain ⟨ps, hF⟩ := fac_ex hn
  rw [facOf_eq hF, facOf_eq (fac_ins hF hp), ins_cnt]
theorem fac_1 : Fac 1 [] := ⟨rfl, fun _ h => (by cases h), .nil⟩
theorem om_one : cntE (facOf 1) = 0 := by
  rw [facOf_eq fac_1]
  rfl
theorem om_add : ∀ (k b a : Nat), b ≤ k → 1 ≤ a → 1 ≤ b → cntE (facOf (a * b)) = cntE (facOf a) + cntE (facOf b) := fun k => by
  induction k with
  | zero => intro b a h1 h2 h3; omega
  | succ k ih =>
    intro b a h1 h2 h3
    by_cases e : b = 1
    · subst e
      rw [Nat.mul_one, om_one]
      rfl
    · obtain ⟨p, p2, pb, pl⟩ := least_div (n := b) (by omega)
      have pp : IsP p := ⟨p2, fun d d2 dp => by
        have x := pl d d2 (Nat.dvd_trans dp pb)
        have y := Nat.le_of_dvd (by omega) dp
        omega⟩
      obtain ⟨c, rfl⟩ := pb
      have c1 : 1 ≤ c := by
        rcases Nat.eq_zero_or_pos c with z | z
        · rw [z] at h3
          omega
        · exact z
      have : 2 * c ≤ p * c := Nat.mul_le_mul_right c p2
      rw [show a * (p * c) = a * c * p by rw [Nat.mul_comm p c, Nat.mul_assoc], om_mul (Nat.mul_pos h2 c1) pp, ih c a (by omega) h2 c1, Nat.mul_comm p c, om_mul c1 pp]
      omega
theorem even_mul {a b : Nat} (ha : 1 ≤ a) (hb : 1 ≤ b) : wEven (a * b) = wEven a * wEven b := by
  unfold wEven
  rw [om_add b b a (Nat.le_refl b) ha hb, Int.natCast_add]
  have x : (cntE (facOf a) : Int) % 2 = 0 ∨ (cntE (facOf a) : Int) % 2 = 1 := by omega
  have y : (cntE (facOf b) : Int) % 2 = 0 ∨ (cntE (facOf b) : Int) % 2 = 1 := by omega
  rw [Int.add_emod]
  rcases x with x | x <;> rcases y with y | y <;> rw [x, y] <;> decide
theorem ml_even (N : Nat) : Ml N wEven := ⟨by unfold wEven; rw [om_one]; rfl, fun a b ha hb _ _ => even_mul ha hb⟩
/-- free: no square above 1 divides -/
theorem free_iff {n : Nat} (hn : 1 ≤ n) : flatE (facOf n) = true ↔ ∀ p, IsP p → ¬ p * p ∣ n := by
  obtain ⟨ps, hF⟩ := fac_ex hn
  rw [facOf_eq hF]
  constructor
  · intro h p hp hd
    have gen : ∀ (ps : List (Nat × Nat)) (n : Nat), Fac n ps → flatE ps = true → ¬ p * p ∣ n := fun ps => by
      induction ps with
      | nil =>
        intro n hF _ hd
        have : n = 1 := hF.1
        rw [this] at hd
        have := Nat.le_of_dvd (by decide) hd
        have := Nat.mul_le_mul hp.1 hp.1
        omega
      | cons q ps ih =>
        intro n hF hf hd
        unfold flatE at hf
        rw [List.all_cons, Bool.and_eq_true] at hf
        have q1 := of_decide_eq_true hf.1
        obtain ⟨h1, h2, h3, h4, h5, h6⟩ := fac_head hF
        have e1 : q.2 = 1 := by omega
        rw [e1, Nat.pow_one] at h4 h5
        by_cases z : p = q.1
        · subst z
          rw [h4] at hd
          have d2 := Nat.dvd_of_mul_dvd_mul_left (by have := h2.1; omega) hd
          have := Nat.le_of_dvd (by decide) (h5 ▸ Nat.dvd_gcd (Nat.dvd_refl q.1) d2)
          have := h2.1
          omega
        · have c : Nat.Coprime (p * p) q.1 := Nat.Coprime.mul_left (hp.ne_cop h2 z) (hp.ne_cop h2 z)
          rw [h4] at hd
          exact ih _ h1 hf.2 (c.dvd_of_dvd_mul_left hd)
    exact gen ps n hF h hd
  · intro h
    unfold flatE
    rw [List.all_eq_true]
    intro q hq
    refine decide_eq_true ?_
    rcases Nat.lt_or_ge 1 q.2 with z | z
    · refine absurd ?_ (h q.1 (hF.2.1 q hq).1)
      have gen : ∀ ps : List (Nat × Nat), q ∈ ps → q.1 ^ q.2 ∣ prodF ps := fun ps => by
        induction ps with
        | nil => intro h; cases h
        | cons r ps ih =>
          intro h
          rcases List.mem_cons.mp h with rfl | h
          · exact Nat.dvd_mul_right _ _
          · exact Nat.dvd_trans (ih h) (Nat.dvd_mul_left _ _)
      rw [hF.1]
      refine Nat.dvd_trans ?_ (gen ps hq)
      have : q.1 * q.1 = q.1 ^ 2 := (Nat.pow_two q.1).symm
      rw [this]
      exact Nat.pow_dvd_pow _ z
    · exact z
theorem free_mul {a b : Nat} (ha : 1 ≤ a) (hb : 1 ≤ b) (co : Nat.gcd a b = 1) : wFree (a * b) = wFree a * wFree b := by
  have key : flatE (facOf (a * b)) = (flatE (facOf a) && flatE (facOf b)) := by
    rw [Bool.eq_iff_iff, Bool.and_eq_true, free_iff (Nat.mul_pos ha hb), free_iff ha, free_iff hb]
    constructor
    · intro h
      exact ⟨fun p hp hd => h p hp (Nat.dvd_trans hd (Nat.dvd_mul_right a b)), fun p hp hd => h p hp (Nat.dvd_trans hd (Nat.dvd_mul_left b a))⟩
    · rintro ⟨h1, h2⟩ p hp hd
      rcases hp.dvd_mul (Nat.dvd_trans (Nat.dvd_mul_right p p) hd) with z | z
      · have c : Nat.Coprime p b := gcd_of_dvd co z (Nat.dvd_refl b)
        exact h1 p hp ((Nat.Coprime.mul_left c c).dvd_of_dvd_mul_right hd)
      · have c : Nat.Coprime p a := by
          have := gcd_of_dvd co (Nat.dvd_refl a) z
          rwa [Nat.gcd_comm] at this
        exact h2 p hp ((Nat.Coprime.mul_left c c).dvd_of_dvd_mul_left hd)
  unfold wFree
  rw [key]
  cases flatE (facOf a) <;> cases flatE (facOf b) <;> rfl
theorem free_one : wFree 1 = 1 := by
  unfold wFree
  rw [facOf_eq fac_1]
  rfl
theorem ml_free (N : Nat) : Ml N wFree := ⟨free_one, fun a b ha hb _ co => free_mul ha hb co⟩
theorem ml_mark (N : Nat) : Ml N wMark := ⟨by
    show wFree 1 * wEven 1 = 1
    rw [free_one, (ml_even N).1]
    rfl, fun a b ha hb _ co => by
  show wFree (a * b) * wEven (a * b) = wFree a * wEven a * (wFree b * wEven b)
  rw [free_mul ha hb co, even_mul ha hb, im4]⟩
end Sv

set_option Elab.async false
set_option linter.all false
set_option maxRecDepth 100000
set_option maxHeartbeats 4000000
/-! MPow: rests of powers: they come again; orders, inverses, logs. -/
namespace Sv
theorem php : ∀ (m : Nat) (l : List Nat), l.Nodup → (∀ x ∈ l, x < m) → l.length ≤ m
  | 0, l, _, h => by
    cases l with
    | nil => exact Nat.le_refl 0
    | cons a l => exact absurd (h a List.mem_cons_self) (Nat.not_lt_zero a)
  | m + 1, l, nd, h => by
    by_cases hm : m ∈ l
    · have := php m (l.erase m) (nd.erase m) fun x hx => by
        have h1 := (nd.mem_erase_iff).mp hx
        have := h x h1.2
        have := h1.1
        omega
      rw [List.length_erase_of_mem hm] at this
      omega
    · have := php m l nd fun x hx => by
        have h1 := h x hx
        have : x ≠ m := fun z => hm (z ▸ hx)
        omega
      omega
/-- the rest of a power -/
def pwm (a m k : Nat) : Nat := a ^ k % m
section
variable {a m L L' k j : Nat}
theorem pwm_zero : pwm a m 0 = 1 % m := rfl
theorem pwm_succ (a m k : Nat) : pwm a m (k + 1) = pwm a m k * a % m := by
  unfold pwm
  rw [Nat.pow_succ, Nat.mod_mul_mod]
theorem pwm_lt (hm : 1 ≤ m) : pwm a m k < m := Nat.mod_lt _ hm
/-- the rests till one comes again -/
def Trn (a m L : Nat) : Prop := 1 ≤ L ∧ ((List.range L).map (pwm a m)).Nodup ∧ pwm a m L ∈ (List.range L).map (pwm a m)
theorem Trn.ne (h : Trn a m L) (hj : j < L) (hk : k < L) (e : pwm a m j = pwm a m k) : j = k := by
  have n := List.pairwise_iff_getElem.mp h.2.1
  have l : ((List.range L).map (pwm a m)).length = L := by simp
  rcases Nat.lt_trichotomy j k with z | z | z
  · exact absurd (by rw [List.getElem_map, List.getElem_map, List.getElem_range, List.getElem_range]; exact e) (n j k (by omega) (by omega) z)
  · exact z
  · exact absurd (by rw [List.getElem_map, List.getElem_map, List.getElem_range, List.getElem_range]; exact e.symm) (n k j (by omega) (by omega) z)
theorem Trn.le (h : Trn a m L) (hm : 1 ≤ m) : L ≤ m := by
  have := php m _ h.2.1 fun x hx => by
    obtain ⟨k, _, rfl⟩ := List.mem_map.mp hx
    exact pwm_lt hm
  simpa using this
theorem Trn.all (h : Trn a m L) : ∀ k, ∃ j, j < L ∧ pwm a m j = pwm a m k
  | 0 => ⟨0, h.1, rfl⟩
  | k + 1 => by
    obtain ⟨j, hj, e⟩ := h.all k
    by_cases z : j + 1 < L
    · exact ⟨j + 1, z, by rw [pwm_succ, pwm_succ, e]⟩
    · have e2 : j + 1 = L := by omega
      obtain ⟨i, hi, ei⟩ := List.mem_map.mp h.2.2
      exact ⟨i, List.mem_range.mp hi, by rw [ei, ← e2, pwm_succ, pwm_succ, e]⟩
/-- the order -/
def Ord (a m L : Nat) : Prop := 1 ≤ L ∧ pwm a m L = 1 % m ∧ ∀ k, 1 ≤ k → k < L → pwm a m k ≠ 1 % m
theorem Ord.uniq (h : Ord a m L) (h' : Ord a m L') : L = L' := by
  rcases Nat.lt_trichotomy L L' with z | z | z
  · exact absurd h.2.1 (h'.2.2 L h.1 z)
  · exact z
  · exact absurd h'.2.1 (h.2.2 L' h'.1 z)
theorem mod_eq_dvd {x y m : Nat} (h : x % m = y % m) (hxy : x ≤ y) : m ∣ y - x := Nat.dvd_of_mod_eq_zero (Nat.sub_mod_eq_zero_of_mod_eq h.symm)
theorem cancel {x y : Nat} (co : Nat.gcd a m = 1) (hx : x < m) (hy : y < m) (h : x * a % m = y * a % m) : x = y := by
  have main : ∀ {x y : Nat}, x ≤ y → y < m → x * a % m = y * a % m → x = y := fun {x y} hxy hy h => by
    have d := mod_eq_dvd h (Nat.mul_le_mul_right a hxy)
    rw [← Nat.sub_mul] at d
    have c : Nat.Coprime m a := by
      rw [Nat.coprime_comm]
      exact co
    have d2 := c.dvd_of_dvd_mul_right d
    have := Nat.eq_zero_of_dvd_of_lt d2 (by omega)
    omega
  rcases Nat.le_total x y with z | z
  · exact main z hy h
  · exact (main z hx h.symm).symm
theorem cancel_pow (co : Nat.gcd a m = 1) (hm : 1 ≤ m) : ∀ j k, pwm a m (j + k) = pwm a m j → pwm a m k = 1 % m
  | 0, k, h => by
    rw [Nat.zero_add] at h
    exact h
  | j + 1, k, h => by
    refine cancel_pow co hm j k ?_
    rw [show j + 1 + k = j + k + 1 by omega, pwm_succ, pwm_succ] at h
    exact cancel co (pwm_lt hm) (pwm_lt hm) h
theorem Trn.ord (h : Trn a m L) (hm : 1 ≤ m) (co : Nat.gcd a m = 1) : Ord a m L := by
  obtain ⟨i, hi, ei⟩ := List.mem_map.mp h.2.2
  have hi := List.mem_range.mp hi
  have e : pwm a m (L - i) = 1 % m := cancel_pow co hm i (L - i) (by rw [show i + (L - i) = L by omega]; exact ei.symm)
  have i0 : i = 0 := by
    rcases Nat.eq_zero_or_pos i with z | z
    · exact z
    · have := h.ne (j := 0) (k := L - i) (by omega) (by omega) e.symm
      omega
  subst i0
  refine ⟨h.1, e, fun k k1 kl z => ?_⟩
  have := h.ne (j := 0) (k := k) h.1 kl z.symm
  omega
/-- the rests come again: there is such a list -/
theorem trn_ex (hm : 1 ≤ m) : ∃ L, Trn a m L := by
  have step : ∀ n k, k + n = m + 1 → 1 ≤ k → ((List.range k).map (pwm a m)).Nodup → ∃ L, Trn a m L := by
    intro n
    induction n with
    | zero =>
      intro k hk k1 nd
      have := php m _ nd fun x hx => by
        obtain ⟨k, _, rfl⟩ := List.mem_map.mp hx
        exact pwm_lt hm
      simp at this
      omega
    | succ n ih =>
      intro k hk k1 nd
      by_cases z : pwm a m k ∈ (List.range k).map (pwm a m)
      · exact ⟨k, k1, nd, z⟩
      · refine ih (k + 1) (by omega) (by omega) ?_
        rw [List.range_succ, List.map_append, List.nodup_append]
        refine ⟨nd, by simp, fun x hx y hy e => ?_⟩
        have : y = pwm a m k := by simpa using hy
        exact z (by rw [← this, ← e]; exact hx)
  exact step m 1 (by omega) (Nat.le_refl 1) (by simp)
theorem ord_ex (hm : 1 ≤ m) (co : Nat.gcd a m = 1) : ∃ L, Ord a m L := by
  obtain ⟨L, h⟩ := trn_ex (a := a) hm
  exact ⟨L, h.ord hm co⟩
/-- the inverse -/
theorem inv_mod (hm : 1 ≤ m) (co : Nat.gcd a m = 1) : ∃ r, r < m ∧ r * a % m = 1 % m := by
  obtain ⟨L, h⟩ := ord_ex hm co
  refine ⟨pwm a m (L - 1), pwm_lt hm, ?_⟩
  rw [← pwm_succ, show L - 1 + 1 = L by have := h.1; omega, h.2.1]
theorem inv_mod_uniq {r r' : Nat} (co : Nat.gcd a m = 1) (h1 : r < m) (h2 : r' < m) (e1 : r * a % m = 1 % m) (e2 : r' * a % m = 1 % m) : r = r' := cancel co h1 h2 (by rw [e1, e2])
/-- the log -/
def Log (b g m : Nat) (v : Option Nat) : Prop := (∃ k, k ≤ m ∧ pwm b m k = g % m ∧ (∀ j, j < k → pwm b m j ≠ g % m) ∧ v = some k) ∨ ((∀ k, k ≤ m → pwm b m k ≠ g % m) ∧ v = none)
theorem log_trn {b g : Nat} (h : Trn b m L) (hm : 1 ≤ m) : (∃ k, k < L ∧ pwm b m k = g % m ∧ Log b g m (some k)) ∨ ((∀ k, k < L → pwm b m k ≠ g % m) ∧ Log b g m none) := by
  have lm := h.le hm
  by_cases z : ∃ k, k < L ∧ pwm b m k = g % m
  · obtain ⟨k, hk, e⟩ := z
    refine .inl ⟨k, hk, e, .inl ⟨k, by omega, e, fun j hj ej => ?_, rfl⟩⟩
    have := h.ne (j := j) (k := k) (by omega) hk (by rw [ej, e])
    omega
  · refine .inr ⟨fun k hk e => z ⟨k, hk, e⟩, .inr ⟨fun k _ e => ?_, rfl⟩⟩
    obtain ⟨j, hj, ej⟩ := h.all k
    exact z ⟨j, hj, by rw [ej, e]⟩
theorem Log.uniq {b g : Nat} {v v' : Option Nat} (h : Log b g m v) (h' : Log b g m v') : v = v' := by
  rcases h with ⟨k, a1, a2, a3, rfl⟩ | ⟨a1, rfl⟩ <;> rcases h' with ⟨k', b1, b2, b3, rfl⟩ | ⟨b1, rfl⟩
  · rcases Nat.lt_trichotomy k k' with z | z | z
    · exact absurd a2 (b3 k z)
    · rw [z]
    · exact absurd b2 (a3 k' z)
  · exact absurd a2 (b1 k a1)
  · exact absurd b2 (a1 k' b1)
  · rfl
end
/-- the units -/
def units (m : Nat) : List Nat := (List.range m).filter fun u => decide (Nat.gcd u m = 1)
/-- a common divisor above 1 -/
theorem divides_iff (a m : Nat) (hm : 1 ≤ m) : (∃ d, 2 ≤ d ∧ d ≤ m ∧ m % d = 0 ∧ a % d = 0) ↔ Nat.gcd a m ≠ 1 := by
  constructor
  · rintro ⟨d, d2, _, h1, h2⟩ e
    have := Nat.dvd_gcd (Nat.dvd_of_mod_eq_zero h2) (Nat.dvd_of_mod_eq_zero h1)
    rw [e] at this
    have := Nat.le_of_dvd (by decide) this
    omega
  · intro h
    have gp : 0 < Nat.gcd a m := Nat.gcd_pos_of_pos_right _ hm
    exact ⟨Nat.gcd a m, by omega, Nat.gcd_le_right _ hm, Nat.mod_eq_zero_of_dvd (Nat.gcd_dvd_right a m), Nat.mod_eq_zero_of_dvd (Nat.gcd_dvd_left a m)⟩
end Sv

set_option Elab.async false
set_option linter.all false
set_option maxRecDepth 100000
set_option maxHeartbeats 4000000
/-! MPrat: what powers show of a prime; that each prime has a number whose powers show it. -/
namespace Sv
section
variable {a n p q L k j : Nat}
theorem dvd_pow_self' (a : Nat) {k : Nat} (h : k ≠ 0) : a ∣ a ^ k := by
  obtain ⟨j, rfl⟩ : ∃ j, k = j + 1 := ⟨k - 1, by omega⟩
  rw [Nat.pow_succ]
  exact Nat.dvd_mul_left _ _
theorem pwm_mul (a m j k : Nat) : pwm a m (j + k) = pwm a m j * pwm a m k % m := by
  unfold pwm
  rw [Nat.pow_add, Nat.mul_mod]
theorem pwm_pow (a m j k : Nat) : pwm a m (j * k) = pwm (a ^ j) m k := by
  unfold pwm
  rw [Nat.pow_mul]
theorem pwm_one (hm : 2 ≤ n) : (1 : Nat) % n = 1 := Nat.mod_eq_of_lt (by omega)
theorem pwm_mod (a m k : Nat) : pwm (a % m) m k = pwm a m k := by
  unfold pwm
  rw [← Nat.pow_mod]
theorem pwm_two (a b m k : Nat) : pwm (a * b) m k = pwm a m k * pwm b m k % m := by
  unfold pwm
  rw [Nat.mul_pow, Nat.mul_mod]
theorem pwm_1k (hm : 2 ≤ n) (k : Nat) : pwm 1 n k = 1 := by
  unfold pwm
  rw [Nat.one_pow, pwm_one hm]
theorem pow_again (hm : 2 ≤ n) (h : pwm a n L = 1) (k : Nat) : pwm a n (L * k) = 1 := by
  rw [pwm_pow]
  have : pwm (a ^ L) n k = pwm (a ^ L % n) n k := (pwm_mod _ _ _).symm
  rw [this, show a ^ L % n = 1 from h, pwm_1k hm]
theorem cop_of_pow (hn : 2 ≤ n) (hk : 1 ≤ k) (h : pwm a n k = 1) : Nat.gcd a n = 1 := by
  have d1 : Nat.gcd a n ∣ a ^ k := Nat.dvd_trans (Nat.gcd_dvd_left a n) (dvd_pow_self' a (by omega))
  have d2 : Nat.gcd a n ∣ n := Nat.gcd_dvd_right a n
  have d3 : Nat.gcd a n ∣ a ^ k % n := (Nat.dvd_mod_iff d2).mpr d1
  have : a ^ k % n = 1 := h
  rw [this] at d3
  exact Nat.dvd_one.mp d3
/-- the order divides -/
theorem Ord.dvd (h : Ord a n L) (hn : 2 ≤ n) (hk : pwm a n k = 1) : L ∣ k := by
  obtain ⟨l1, l2, l3⟩ := h
  rw [pwm_one hn] at l2
  have e : k = L * (k / L) + k % L := (Nat.div_add_mod k L).symm
  have r : pwm a n (k % L) = 1 := by
    have z := pwm_mul a n (L * (k / L)) (k % L)
    rw [← e, hk, pow_again hn l2, Nat.one_mul] at z
    rw [Nat.mod_eq_of_lt (pwm_lt (by omega))] at z
    exact z.symm
  rcases Nat.eq_zero_or_pos (k % L) with z | z
  · exact Nat.dvd_of_mod_eq_zero z
  · have := l3 (k % L) z (Nat.mod_lt _ l1)
    rw [pwm_one hn] at this
    exact absurd r this
theorem prime_div (hc : 2 ≤ n) : ∃ q, IsP q ∧ q ∣ n := by
  obtain ⟨q, q2, qd, ql⟩ := least_div hc
  exact ⟨q, ⟨q2, fun d d2 dp => by
    have := ql d d2 (Nat.dvd_trans dp qd)
    have := Nat.le_of_dvd (by omega) dp
    omega⟩, qd⟩
/-- a number whose powers are so is shown prime by it -/
theorem lucas (hn : 2 ≤ n) (h1 : pwm a n (n - 1) = 1) (hq : ∀ q, IsP q → q ∣ n - 1 → pwm a n ((n - 1) / q) ≠ 1) : IsP n := by
  have co := cop_of_pow hn (show 1 ≤ n - 1 by omega) h1
  obtain ⟨L, hL⟩ := ord_ex (a := a) (show 1 ≤ n by omega) co
  obtain ⟨l1, l2, l3⟩ := id hL
  have ld := hL.dvd hn h1
  have eL : L = n - 1 := by
    obtain ⟨c, hc⟩ := ld
    rcases Nat.lt_or_ge c 2 with z | z
    · have : c = 0 ∨ c = 1 := by omega
      rcases this with y | y
      · rw [y, Nat.mul_zero] at hc
        omega
      · rw [y, Nat.mul_one] at hc
        exact hc.symm
    · obtain ⟨q, hP, d, hd⟩ := prime_div z
      have q0 : 0 < q := by have := hP.1; omega
      have e : (n - 1) / q = L * d := by
        rw [hc, hd, Nat.mul_left_comm, Nat.mul_div_cancel_left _ q0]
      refine absurd ?_ (hq q hP ⟨L * d, by rw [hc, hd, Nat.mul_left_comm]⟩)
      rw [e]
      rw [pwm_one hn] at l2
      exact pow_again hn l2 d
  have inj : ∀ j k, j < k → k < L → pwm a n j ≠ pwm a n k := fun j k hjk hk e => by
    have z := cancel_pow co (show 1 ≤ n by omega) j (k - j) (by rw [show j + (k - j) = k by omega]; exact e.symm)
    exact l3 (k - j) (by omega) (by omega) z
  have nd : ((List.range L).map (pwm a n)).Nodup := by
    rw [List.Nodup, List.pairwise_map]
    refine List.Pairwise.imp_of_mem (fun {x y} hx hy h => ?_) List.pairwise_lt_range
    exact inj x y h (List.mem_range.mp hy)
  have pos : ∀ k, pwm a n k ≠ 0 := fun k z => by
    have d : n ∣ a ^ k := Nat.dvd_of_mod_eq_zero z
    have c2 : Nat.Coprime (a ^ k) n := Nat.Coprime.pow_left k co
    have := Nat.gcd_eq_right d
    rw [show Nat.gcd (a ^ k) n = 1 from c2] at this
    omega
  have all : ∀ d, 1 ≤ d → d < n → d ∈ (List.range L).map (pwm a n) := fun d d1 d2 => by
    refine Classical.byContradiction fun no => ?_
    have nd2 : (d :: (List.range L).map (pwm a n)).Nodup := List.nodup_cons.mpr ⟨no, nd⟩
    have sub : (d :: (List.range L).map (pwm a n)) ⊆ (List.range L).map (· + 1) := fun x hx => by
      rcases List.mem_cons.mp hx with rfl | hx
      · exact List.mem_map.mpr ⟨x - 1, List.mem_range.mpr (by omega), by omega⟩
      · obtain ⟨k, hk, rfl⟩ := List.mem_map.mp hx
        have lt := pwm_lt (a := a) (m := n) (k := k) (by omega)
        have := pos k
        exact List.mem_map.mpr ⟨pwm a n k - 1, List.mem_range.mpr (by omega), by omega⟩
    have := List.Nodup.length_le_of_subset nd2 sub
    simp at this
    omega
  refine ⟨hn, fun d d2 dn => ?_⟩
  have dl := Nat.le_of_dvd (by omega) dn
  rcases Nat.lt_or_ge d n with z | z
  · obtain ⟨k, hk, e⟩ := List.mem_map.mp (all d (by omega) z)
    have c2 : Nat.Coprime (a ^ k) n := Nat.Coprime.pow_left k co
    have d3 : d ∣ a ^ k := by
      rw [← e] at dn ⊢
      exact (Nat.dvd_mod_iff dn).mp (Nat.dvd_refl _)
    have := Nat.le_of_dvd (by decide) ((show Nat.gcd (a ^ k) n = 1 from c2) ▸ Nat.dvd_gcd d3 dn)
    omega
  · omega
/-! ### Fermat -/
def prN : List Nat → Nat
  | [] => 1
  | x :: xs => x * prN xs
theorem prN_perm {l l' : List Nat} (h : l.Perm l') : prN l = prN l' := by
  induction h with
  | nil => rfl
  | cons x _ ih =>
    show x * prN _ = x * prN _
    rw [ih]
  | swap x y l =>
    show y * (x * prN l) = x * (y * prN l)
    rw [Nat.mul_left_comm]
  | trans _ _ h1 h2 => rw [h1, h2]
theorem prN_mod (a p : Nat) : ∀ l : List Nat, prN (l.map fun i => a * i % p) % p = a ^ l.length * prN l % p
  | [] => by simp [prN]
  | x :: l => by
    show a * x % p * prN (l.map fun i => a * i % p) % p = _
    rw [Nat.mul_mod, Nat.mod_mod, prN_mod a p l, ← Nat.mul_mod, List.length_cons, Nat.pow_succ]
    congr 1
    show a * x * (a ^ l.length * prN l) = a ^ l.length * a * (x * prN l)
    rw [Nat.mul_assoc, Nat.mul_assoc, Nat.mul_left_comm x, Nat.mul_left_comm a]
theorem prN_cop (hp : IsP p) : ∀ l : List Nat, (∀ x ∈ l, 1 ≤ x ∧ x < p) → Nat.Coprime p (prN l)
  | [], _ => Nat.coprime_one_right p
  | x :: l, h => Nat.Coprime.mul_right (hp.cop fun z => by
      have a := h x List.mem_cons_self
      have := Nat.le_of_dvd (by omega) z
      omega) (prN_cop hp l fun y hy => h y (List.mem_cons_of_mem _ hy))
theorem fermat (hp : IsP p) (ha : ¬ p ∣ a) : pwm a p (p - 1) = 1 := by
  have p2 := hp.1
  let l := (List.range (p - 1)).map (· + 1)
  have lm : ∀ x, x ∈ l ↔ 1 ≤ x ∧ x < p := fun x => by
    rw [List.mem_map]
    exact ⟨fun ⟨i, hi, e⟩ => by have := List.mem_range.mp hi; omega, fun h => ⟨x - 1, List.mem_range.mpr (by omega), by omega⟩⟩
  have nl : l.Nodup := by
    show ((List.range (p - 1)).map (· + 1)).Nodup
    rw [List.Nodup, List.pairwise_map]
    exact List.pairwise_lt_range.imp fun h => by omega
  have co : Nat.gcd a p = 1 := by
    rw [Nat.gcd_comm]
    exact hp.cop ha
  have nm : (l.map fun i => a * i % p).Nodup := by
    rw [List.Nodup, List.pairwise_map]
    refine List.Pairwise.imp_of_mem (fun {x y} hx hy h e => h ?_) nl
    have a1 := (lm x).mp hx
    have a2 := (lm y).mp hy
    rw [Nat.mul_comm a x, Nat.mul_comm a y] at e
    exact cancel co a1.2 a2.2 e
  have mm : ∀ x, x ∈ (l.map fun i => a * i % p) → x ∈ l := fun x hx => by
    obtain ⟨i, hi, rfl⟩ := List.mem_map.mp hx
    have a1 := (lm i).mp hi
    refine (lm _).mpr ⟨?_, Nat.mod_lt _ (by omega)⟩
    rcases Nat.eq_zero_or_pos (a * i % p) with z | z
    · rcases hp.dvd_mul (Nat.dvd_of_mod_eq_zero z) with y | y
      · exact absurd y ha
      · have := Nat.le_of_dvd (by omega) y
        omega
    · exact z
  have perm : (l.map fun i => a * i % p).Perm l := by
    rw [List.perm_ext_iff_of_nodup nm nl]
    refine fun x => ⟨mm x, fun hx => Classical.byContradiction fun no => ?_⟩
    have nd2 : (x :: (l.map fun i => a * i % p)).Nodup := List.nodup_cons.mpr ⟨no, nm⟩
    have sub : (x :: (l.map fun i => a * i % p)) ⊆ l := fun y hy => by
      rcases List.mem_cons.mp hy with rfl | hy
      · exact hx
      · exact mm y hy
    have := List.Nodup.length_le_of_subset nd2 sub
    simp at this
    omega
  have e := prN_mod a p l
  rw [prN_perm perm] at e
  have ll : l.length = p - 1 := by
    show ((List.range (p - 1)).map (· + 1)).length = p - 1
    simp
  rw [ll] at e
  have c := prN_cop hp l fun x hx => (lm x).mp hx
  have c' : Nat.gcd (prN l) p = 1 := by
    rw [Nat.gcd_comm]
    exact c
  have h1 : a ^ (p - 1) % p * prN l % p = 1 * prN l % p := by
    rw [Nat.mul_mod, Nat.mod_mod, ← Nat.mul_mod, ← e, Nat.one_mul]
  exact cancel c' (Nat.mod_lt _ (by omega)) (by omega) h1
/-! ### how many roots -/
def polv : List Int → Int → Int
  | [], _ => 0
  | c :: f, x => c + x * polv f x
def addS (a : Int) : List Int → List Int → List Int
  | u :: us, v :: vs => (u + a * v) :: addS a us vs
  | us, [] => us
  | [], _ => []
def dq (a : Int) : List Int → List Int
  | [] => []
  | _ :: f => addS a f (dq a f)
theorem addS_len (a : Int) : ∀ us vs : List Int, (addS a us vs).length = us.length
  | [], [] => rfl
  | [], _ :: _ => rfl
  | _ :: _, [] => rfl
  | u :: us, v :: vs => by
    show (addS a us vs).length + 1 = us.length + 1
    rw [addS_len a us vs]
theorem addS_pv (a x : Int) : ∀ us vs : List Int, vs.length ≤ us.length → polv (addS a us vs) x = polv us x + a * polv vs x
  | [], [], _ => by simp [addS, polv]
  | [], v :: vs, h => by simp at h
  | u :: us, [], _ => by simp [addS, polv]
  | u :: us, v :: vs, h => by
    show u + a * v + x * polv (addS a us vs) x = u + x * polv us x + a * (v + x * polv vs x)
    rw [addS_pv a x us vs (by simpa using h), Int.mul_add, Int.mul_add, Int.mul_left_comm x a]
    omega
theorem addS_at (a : Int) : ∀ (us vs : List Int) (i : Nat), vs.length ≤ i → (addS a us vs)[i]? = us[i]?
  | [], [], _, _ => rfl
  | [], _ :: _, _, _ => rfl
  | u :: us, [], _, _ => rfl
  | u :: us, v :: vs, 0, h => by simp at h
  | u :: us, v :: vs, i + 1, h => by
    show ((u + a * v) :: addS a us vs)[i + 1]? = _
    rw [List.getElem?_cons_succ, List.getElem?_cons_succ]
    exact addS_at a us vs i (by simpa using h)
theorem dq_len (a : Int) : ∀ f : List Int, (dq a f).length = f.length - 1
  | [] => rfl
  | c :: f => by
    show (addS a f (dq a f)).length = f.length + 1 - 1
    rw [addS_len]
    rfl
theorem dq_pv (a x : Int) : ∀ f : List Int, polv f x - polv f a = (x - a) * polv (dq a f) x
  | [] => by simp [polv, dq]
  | c :: f => by
    have ih := dq_pv a x f
    show c + x * polv f x - (c + a * polv f a) = (x - a) * polv (addS a f (dq a f)) x
    rw [addS_pv a x f (dq a f) (by rw [dq_len]; omega), Int.mul_add, Int.mul_left_comm, ← ih, Int.sub_mul, Int.mul_sub]
    omega
theorem lagrange (hp : IsP p) : ∀ (n : Nat) (f : List Int) (c : Int), f.length = n + 1 → f[n]? = some c → ¬ (p : Int) ∣ c → ∀ rs : List Nat, rs.Nodup → (∀ x ∈ rs, x < p ∧ (p : Int) ∣ polv f (x : Int)) → rs.length ≤ n
  | 0, f, c, hl, hc, hd, rs, nd, hr => by
    cases rs with
    | nil => exact Nat.le_refl 0
    | cons x rs =>
      obtain ⟨z, rfl⟩ := List.length_eq_one_iff.mp hl
      have := (hr x List.mem_cons_self).2
      have e : z = c := by simpa using hc
      simp [polv] at this
      rw [e] at this
      exact absurd this hd
  | n + 1, f, c, hl, hc, hd, rs, nd, hr => by
    cases rs with
    | nil => exact Nat.zero_le _
    | cons a rs =>
      obtain ⟨no, nd2⟩ := List.nodup_cons.mp nd
      have ha := hr a List.mem_cons_self
      match f, hl with
      | c0 :: f, hl =>
        have hl2 : f.length = n + 1 := by simpa using hl
        have := lagrange hp n (dq (a : Int) (c0 :: f)) c (by rw [dq_len, hl]; rfl) (by
          show (addS (a : Int) f (dq (a : Int) f))[n]? = some c
          rw [addS_at _ _ _ _ (by rw [dq_len, hl2]; exact Nat.le_refl _)]
          simpa using hc) hd rs nd2 fun x hx => by
            have h1 := hr x (List.mem_cons_of_mem _ hx)
            refine ⟨h1.1, ?_⟩
            have d : (p : Int) ∣ ((x : Int) - (a : Int)) * polv (dq (a : Int) (c0 :: f)) (x : Int) := by
              rw [← dq_pv]
              exact Int.dvd_sub h1.2 ha.2
            have ne : x ≠ a := fun z => no (z ▸ hx)
            have cop : Nat.Coprime p ((x : Int) - (a : Int)).natAbs := hp.cop fun z => by
              have := Nat.le_of_dvd (by omega) z
              have := ha.1
              omega
            have d2 := Int.natAbs_dvd_natAbs.mpr d
            rw [Int.natAbs_mul, Int.natAbs_natCast] at d2
            have d3 := cop.dvd_of_dvd_mul_left d2
            rw [← Int.natAbs_natCast p] at d3
            exact Int.natAbs_dvd_natAbs.mp d3
        rw [List.length_cons]
        omega
theorem pv_pow (x : Int) : ∀ k : Nat, polv (List.replicate k 0 ++ [1]) x = x ^ k
  | 0 => by simp [polv]
  | k + 1 => by
    show 0 + x * polv (List.replicate k 0 ++ [1]) x = _
    rw [pv_pow x k, Int.pow_succ, Int.mul_comm]
    omega
/-- not all numbers' powers leave 1 too early -/
theorem some_not (hp : IsP p) {m : Nat} (m1 : 1 ≤ m) (hm : m < p - 1) : ∃ x, 1 ≤ x ∧ x < p ∧ pwm x p m ≠ 1 := by
  refine Classical.byContradiction fun no => ?_
  have all : ∀ x, 1 ≤ x → x < p → pwm x p m = 1 := fun x h1 h2 => Classical.byContradiction fun z => no ⟨x, h1, h2, z⟩
  have p2 := hp.1
  have := lagrange hp m ((-1) :: (List.replicate (m - 1) 0 ++ [1])) 1 (by simp; omega) (by
    obtain ⟨k, rfl⟩ : ∃ k, m = k + 1 := ⟨m - 1, by omega⟩
    rw [List.getElem?_cons_succ, Nat.add_sub_cancel, List.getElem?_append_right (by simp)]
    simp) (fun z => by
      have := Int.le_of_dvd (by decide) z
      omega) ((List.range (p - 1)).map (· + 1)) (by
      rw [List.Nodup, List.pairwise_map]
      exact List.pairwise_lt_range.imp fun h => by omega) fun x hx => by
      obtain ⟨i, hi, rfl⟩ := List.mem_map.mp hx
      have := List.mem_range.mp hi
      refine ⟨by omega, ?_⟩
      show (p : Int) ∣ -1 + ((i + 1 : Nat) : Int) * polv (List.replicate (m - 1) 0 ++ [1]) ((i + 1 : Nat) : Int)
      rw [pv_pow, Int.mul_comm, ← Int.pow_succ, show (m - 1).succ = m by omega]
      have e := all (i + 1) (by omega) (by omega)
      have dm := Nat.div_add_mod ((i + 1) ^ m) p
      rw [show (i + 1) ^ m % p = 1 from e] at dm
      refine ⟨(((i + 1) ^ m / p : Nat) : Int), ?_⟩
      have c : ((((i + 1) ^ m : Nat)) : Int) = ((i + 1 : Nat) : Int) ^ m := Int.natCast_pow _ _
      rw [← c, ← Int.natCast_mul]
      omega
  simp at this
  omega
/-! ### a number for all primes at once -/
theorem root_part (hp : IsP p) {e : Nat} (hq : IsP q) (he : 1 ≤ e) {c : Nat} (hc : p - 1 = q ^ e * c) (hn : ¬ q ∣ c) : ∃ y, ¬ p ∣ y ∧ pwm y p ((p - 1) / q) ≠ 1 ∧ ∀ r, IsP r → r ∣ p - 1 → r ≠ q → pwm y p ((p - 1) / r) = 1 := by
  have p2 := hp.1
  have q2 := hq.1
  have q0 : 0 < q := by omega
  have qd : q ∣ p - 1 := by
    rw [hc]
    exact Nat.dvd_trans (dvd_pow_self' q (by omega)) (Nat.dvd_mul_right _ _)
  have c1 : 1 ≤ c := by
    rcases Nat.eq_zero_or_pos c with z | z
    · rw [z] at hn
      exact absurd (Nat.dvd_zero q) hn
    · exact z
  have p1 : 1 ≤ p - 1 := by omega
  have m1 : 1 ≤ (p - 1) / q := Nat.div_pos (Nat.le_of_dvd (by omega) qd) q0
  have m2 : (p - 1) / q < p - 1 := Nat.div_lt_self (by omega) q2
  obtain ⟨x, x1, x2, hx⟩ := some_not hp m1 m2
  have nx : ∀ {z : Nat}, 1 ≤ z → z < p → ¬ p ∣ z := fun h1 h2 d => by
    have := Nat.le_of_dvd (by omega) d
    omega
  have fx := fermat hp (nx x1 x2)
  have npx : ¬ p ∣ x ^ c := fun d => nx x1 x2 (hp.dvd_pow d)
  refine ⟨x ^ c, npx, fun h => ?_, fun r hr rd ne => ?_⟩
  · -- z = x ^ ((p - 1) / q), z ^ q = 1, z ^ c = 1
    have zc : pwm (x ^ ((p - 1) / q)) p c = 1 := by
      rw [← pwm_pow, Nat.mul_comm, pwm_pow]
      exact h
    have zq : pwm (x ^ ((p - 1) / q)) p q = 1 := by
      rw [← pwm_pow, Nat.div_mul_cancel qd]
      exact fx
    have co := cop_of_pow p2 c1 zc
    obtain ⟨L, hL⟩ := ord_ex (a := x ^ ((p - 1) / q)) (show 1 ≤ p by omega) co
    have d1 := hL.dvd p2 zc
    have d2 := hL.dvd p2 zq
    have L1 : L = 1 := by
      have l1 := hL.1
      rcases Nat.lt_or_ge L 2 with z | z
      · omega
      · have := hq.2 L z d2
        exact absurd (this ▸ d1) hn
    have := hL.2.1
    rw [L1, pwm_one p2] at this
    unfold pwm at this
    rw [Nat.pow_one] at this
    exact hx this
  · have qe : q ^ e ∣ (p - 1) / r := by
      have d : q ^ e ∣ r * ((p - 1) / r) := by
        rw [Nat.mul_div_cancel' rd, hc]
        exact Nat.dvd_mul_right _ _
      exact (Nat.Coprime.pow_left e (hq.ne_cop hr fun z => ne z.symm)).dvd_of_dvd_mul_left d
    obtain ⟨t, ht⟩ := qe
    rw [← pwm_pow, ht, ← Nat.mul_assoc, Nat.mul_comm c, ← hc]
    exact pow_again p2 fx t
theorem root_ex (hp : IsP p) : ∃ g, 1 ≤ g ∧ g < p ∧ ∀ q, IsP q → q ∣ p - 1 → pwm g p ((p - 1) / q) ≠ 1 := by
  have p2 := hp.1
  obtain ⟨ps, hF⟩ := fac_ex (n := p - 1) (by omega)
  have gen : ∀ qs : List (Nat × Nat), (∀ s ∈ qs, s ∈ ps) → qs.Pairwise (fun a b => a.1 < b.1) → ∃ g, ¬ p ∣ g ∧ (∀ s ∈ qs, pwm g p ((p - 1) / s.1) ≠ 1) ∧ ∀ r, IsP r → r ∣ p - 1 → (∀ s ∈ qs, s.1 ≠ r) → pwm g p ((p - 1) / r) = 1 := fun qs => by
    induction qs with
    | nil =>
      intro _ _
      refine ⟨1, fun d => ?_, fun s hs => (by cases hs), fun r _ _ _ => pwm_1k p2 _⟩
      have := Nat.le_of_dvd (by decide) d
      omega
    | cons s qs ih =>
      intro hm hpw
      obtain ⟨hpw1, hpw2⟩ := List.pairwise_cons.mp hpw
      obtain ⟨g, g1, g2, g3⟩ := ih (fun t ht => hm t (List.mem_cons_of_mem _ ht)) hpw2
      have sm := hm s List.mem_cons_self
      have sP := hF.2.1 s sm
      -- the other part
      have part : ∀ (l : List (Nat × Nat)) (n : Nat), Fac n l → s ∈ l → ∃ c, n = s.1 ^ s.2 * c ∧ ¬ s.1 ∣ c := fun l => by
        induction l with
        | nil => intro n _ h; cases h
        | cons t l ihl =>
          intro n hn h
          obtain ⟨f1, f2, f3, f4, f5, f6⟩ := fac_head hn
          rcases List.mem_cons.mp h with rfl | h
          · refine ⟨prodF l, f4, fun d => ?_⟩
            have d2 : s.1 ∣ Nat.gcd (s.1 ^ s.2) (prodF l) := Nat.dvd_gcd (dvd_pow_self' _ (by omega)) d
            rw [f5] at d2
            have := Nat.le_of_dvd (by decide) d2
            have := f2.1
            omega
          · obtain ⟨c, hc, hd⟩ := ihl _ f1 h
            refine ⟨t.1 ^ t.2 * c, by rw [f4, hc, Nat.mul_left_comm], fun d => ?_⟩
            rcases sP.1.dvd_mul d with y | y
            · have := f2.2 s.1 sP.1.1 (sP.1.dvd_pow y)
              have := (List.pairwise_cons.mp hn.2.2).1 s h
              omega
            · exact hd y
      obtain ⟨c, hc, hd⟩ := part ps _ hF sm
      obtain ⟨y, y1, y2, y3⟩ := root_part hp sP.1 sP.2 hc hd
      have sd : s.1 ∣ p - 1 := by
        rw [hc]
        exact Nat.dvd_trans (dvd_pow_self' _ (by have := sP.2; omega)) (Nat.dvd_mul_right _ _)
      refine ⟨g * y, fun d => ?_, fun t ht => ?_, fun r hr rd no => ?_⟩
      · rcases hp.dvd_mul d with z | z
        · exact g1 z
        · exact y1 z
      · rcases List.mem_cons.mp ht with rfl | ht
        · rw [pwm_two, g3 t.1 sP.1 sd fun u hu => by have := hpw1 u hu; omega, Nat.one_mul, Nat.mod_eq_of_lt (pwm_lt (by omega))]
          exact y2
        · have tP := hF.2.1 t (hm t (List.mem_cons_of_mem _ ht))
          obtain ⟨c', hc', _⟩ : ∃ c, p - 1 = t.1 ^ t.2 * c ∧ True := by
            have gen2 : ∀ (l : List (Nat × Nat)) (n : Nat), Fac n l → t ∈ l → ∃ c, n = t.1 ^ t.2 * c ∧ True := fun l => by
              induction l with
              | nil => intro n _ h; cases h
              | cons u l ihl =>
                intro n hn h
                obtain ⟨f1, f2, f3, f4, f5, f6⟩ := fac_head hn
                rcases List.mem_cons.mp h with rfl | h
                · exact ⟨prodF l, f4, trivial⟩
                · obtain ⟨c, hc, _⟩ := ihl _ f1 h
                  exact ⟨u.1 ^ u.2 * c, by rw [f4, hc, Nat.mul_left_comm], trivial⟩
            exact gen2 ps _ hF (hm t (List.mem_cons_of_mem _ ht))
          have td : t.1 ∣ p - 1 := by
            rw [hc']
            exact Nat.dvd_trans (dvd_pow_self' _ (by have := tP.2; omega)) (Nat.dvd_mul_right _ _)
          rw [pwm_two, y3 t.1 tP.1 td (by have := hpw1 t ht; omega), Nat.mul_one, Nat.mod_eq_of_lt (pwm_lt (by omega))]
          exact g2 t ht
      · rw [pwm_two, g3 r hr rd fun u hu => no u (List.mem_cons_of_mem _ hu), y3 r hr rd fun z => no s List.mem_cons_self z.symm, Nat.one_mul, pwm_one p2]
  obtain ⟨g, g1, g2, g3⟩ := gen ps (fun _ h => h) hF.2.2
  refine ⟨g % p, ?_, Nat.mod_lt _ (by omega), fun q hq qd => ?_⟩
  · rcases Nat.eq_zero_or_pos (g % p) with z | z
    · exact absurd (Nat.dvd_of_mod_eq_zero z) g1
    · exact z
  · rw [hF.1] at qd
    obtain ⟨s, hs, e⟩ := hq.in_prodF hF.2.1 qd
    rw [pwm_mod, ← e]
    exact g2 s hs
end
end Sv

set_option Elab.async false
set_option linter.all false
set_option maxRecDepth 100000
set_option maxHeartbeats 4000000
/-! MPap: papers, what they show; the paper of a prime. -/
namespace Sv
inductive Pap where
  | mk (n b : Nat) (ps : List Pap)
def Pap.n : Pap → Nat
  | .mk n _ _ => n
def Pap.b : Pap → Nat
  | .mk _ b _ => b
def Pap.ps : Pap → List Pap
  | .mk _ _ ps => ps
/-! ### a divisor taken out -/
def dvo (q m : Nat) : Nat := if h : 2 ≤ q ∧ 1 ≤ m ∧ m % q = 0 then dvo q (m / q) else m
termination_by m
decreasing_by exact Nat.div_lt_self (by omega) (by omega)
section
variable {q m n b p d : Nat} {qs : List Nat} {ps : List (Nat × Nat)}
theorem dvo_go (h : 2 ≤ q) (h1 : 1 ≤ m) (h2 : m % q = 0) : dvo q m = dvo q (m / q) := by
  rw [dvo.eq_def q m, dif_pos ⟨h, h1, h2⟩]
theorem dvo_end (h2 : m % q ≠ 0) : dvo q m = m := by
  rw [dvo.eq_def q m, dif_neg fun z => h2 z.2.2]
theorem dvo_spec (hq : 2 ≤ q) (m : Nat) : 1 ≤ m → ∃ e, m = q ^ e * dvo q m ∧ 1 ≤ dvo q m ∧ ¬ q ∣ dvo q m := by
  induction m using Nat.strongRecOn with
  | ind m ih =>
    intro h1
    by_cases z : m % q = 0
    · have d := Nat.dvd_of_mod_eq_zero z
      have le := Nat.le_of_dvd (by omega) d
      obtain ⟨e, h2, h3, h4⟩ := ih (m / q) (Nat.div_lt_self (by omega) (by omega)) (Nat.div_pos le (by omega))
      rw [dvo_go hq h1 z]
      refine ⟨e + 1, ?_, h3, h4⟩
      have := Nat.mul_div_cancel' d
      rw [Nat.pow_succ, Nat.mul_comm (q ^ e) q, Nat.mul_assoc, ← h2, this]
    · rw [dvo_end z]
      exact ⟨0, by simp, h1, fun d => z (Nat.mod_eq_zero_of_dvd d)⟩
theorem dvo_pp (hq : 2 ≤ q) {c : Nat} (hc : 1 ≤ c) (hd : ¬ q ∣ c) : ∀ e, dvo q (q ^ e * c) = c
  | 0 => by
    rw [Nat.pow_zero, Nat.one_mul]
    exact dvo_end fun z => hd (Nat.dvd_of_mod_eq_zero z)
  | e + 1 => by
    have pq : 1 ≤ q ^ e := Nat.pow_pos (by omega)
    have e1 : q ^ (e + 1) * c = q * (q ^ e * c) := by rw [Nat.pow_succ, Nat.mul_comm (q ^ e) q, Nat.mul_assoc]
    have p1 : 1 ≤ q ^ e * c := Nat.mul_pos pq hc
    rw [e1, dvo_go hq (Nat.mul_pos (by omega) p1) (Nat.mul_mod_right _ _), Nat.mul_div_cancel_left _ (by omega : 0 < q)]
    exact dvo_pp hq hc hd e
def divL : Nat → List Nat → Nat
  | m, [] => m
  | m, q :: qs => divL (dvo q m) qs
theorem divL_dvd {r : Nat} (hr : IsP r) : ∀ (qs : List Nat) (m : Nat), 1 ≤ m → (∀ q ∈ qs, IsP q) → r ∣ m → r ∉ qs → r ∣ divL m qs
  | [], _, _, _, h, _ => h
  | q :: qs, m, h1, hP, h, no => by
    have hq := hP q List.mem_cons_self
    obtain ⟨e, e1, e2, e3⟩ := dvo_spec hq.1 m h1
    refine divL_dvd hr qs (dvo q m) e2 (fun x hx => hP x (List.mem_cons_of_mem _ hx)) ?_ fun z => no (List.mem_cons_of_mem _ z)
    rw [e1] at h
    rcases hr.dvd_mul h with z | z
    · have z := hr.dvd_pow z
      have := hq.2 r hr.1 z
      exact absurd (this ▸ List.mem_cons_self) no
    · exact z
theorem divL_fac : ∀ {ps : List (Nat × Nat)} {n : Nat}, Fac n ps → divL n (ps.map (·.1)) = 1
  | [], n, h => h.1
  | q :: ps, n, h => by
    obtain ⟨f1, f2, f3, f4, f5, f6⟩ := fac_head h
    show divL (dvo q.1 n) (ps.map (·.1)) = 1
    rw [f4, dvo_pp f2.1 f1.pos fun d => by
      have d2 : q.1 ∣ Nat.gcd (q.1 ^ q.2) (prodF ps) := Nat.dvd_gcd (dvd_pow_self' _ (by omega)) d
      rw [f5] at d2
      have := Nat.le_of_dvd (by decide) d2
      have := f2.1
      omega]
    exact divL_fac f1
/-! ### rising -/
def rise : List Nat → Bool
  | a :: b :: l => decide (a < b) && rise (b :: l)
  | _ => true
def riseF (a : Nat) : List Nat → Bool
  | [] => true
  | b :: l => decide (a < b) && riseF b l
theorem rise_F : ∀ (a : Nat) (l : List Nat), rise (a :: l) = riseF a l
  | _, [] => rfl
  | a, b :: l => by
    show (decide (a < b) && rise (b :: l)) = (decide (a < b) && riseF b l)
    rw [rise_F b l]
theorem rise_0 {l : List Nat} (h : ∀ x ∈ l, 1 ≤ x) : rise l = riseF 0 l := by
  cases l with
  | nil => rfl
  | cons a l =>
    rw [rise_F]
    show _ = (decide (0 < a) && riseF a l)
    rw [decide_eq_true (show 0 < a from h a List.mem_cons_self), Bool.true_and]
theorem rise_pw : ∀ {l : List Nat}, l.Pairwise (· < ·) → rise l = true
  | [], _ => rfl
  | [_], _ => rfl
  | a :: b :: l, h => by
    obtain ⟨h1, h2⟩ := List.pairwise_cons.mp h
    show (decide (a < b) && rise (b :: l)) = true
    rw [decide_eq_true (h1 b List.mem_cons_self), rise_pw h2]
    rfl
/-! ### what a paper shows -/
def baseOk (n b : Nat) (qs : List Nat) : Bool := qs.all fun q => !decide (pwm b n ((n - 1) / q) = 1)
def shB : Nat → Pap → Bool
  | 0, _ => false
  | d + 1, P => if P.n = 2 then decide (P.b = 1) && P.ps.isEmpty
    else decide (3 ≤ P.n) && (!decide (P.n % 2 = 0) && (P.ps.all (shB d) && (rise (P.ps.map Pap.n) && ((P.ps.map Pap.n).all (fun q => decide ((P.n - 1) % q = 0)) && (decide (divL (P.n - 1) (P.ps.map Pap.n) = 1) && (decide (pwm P.b P.n (P.n - 1) = 1) && baseOk P.n P.b (P.ps.map Pap.n)))))))
def laL (f : Pap → Bool) (n b : Nat) : List Pap → Nat → Nat → Bool
  | [], left, _ => decide (left = 1) && decide (pwm b n (n - 1) = 1)
  | p :: ps, left, ahead => f p && (decide (ahead < p.n) && (decide (left % p.n = 0) && (!decide (pwm b n ((n - 1) / p.n) = 1) && laL f n b ps (dvo p.n left) p.n)))
def laB : Nat → Pap → Bool
  | 0, _ => false
  | d + 1, P => if P.n = 2 then decide (P.b = 1) && P.ps.isEmpty else decide (3 ≤ P.n) && (!decide (P.n % 2 = 0) && laL (laB d) P.n P.b P.ps (P.n - 1) 0)
theorem sh_prime : ∀ (d : Nat) (P : Pap), shB d P = true → IsP P.n
  | 0, _, h => by cases h
  | d + 1, P, h => by
    rw [shB] at h
    by_cases h2 : P.n = 2
    · rw [h2]
      exact ⟨Nat.le_refl 2, fun d d2 dd => by
        have := Nat.le_of_dvd (by decide) dd
        omega⟩
    · rw [if_neg h2] at h
      simp only [Bool.and_eq_true, decide_eq_true_eq] at h
      obtain ⟨h3, h4, h5, h6, h7, h8, h9, h10⟩ := h
      have hP : ∀ q ∈ P.ps.map Pap.n, IsP q := fun q hq => by
        obtain ⟨p, hp, rfl⟩ := List.mem_map.mp hq
        exact sh_prime d p (List.all_eq_true.mp h5 p hp)
      refine lucas (a := P.b) (by omega) h9 fun q hq qd z => ?_
      by_cases hm : q ∈ P.ps.map Pap.n
      · have := List.all_eq_true.mp h10 q hm
        rw [z] at this
        simp at this
      · have := divL_dvd hq _ _ (by omega) hP qd hm
        rw [h8] at this
        have := Nat.le_of_dvd (by decide) this
        have := hq.1
        omega
theorem laL_eq (f : Pap → Bool) (n b : Nat) (hf : ∀ p, f p = true → IsP p.n) : ∀ (ps : List Pap) (left ahead c : Nat), n - 1 = c * left → 1 ≤ left → (∀ q, IsP q → ahead < q → Nat.Coprime q c) →
    (laL f n b ps left ahead = true ↔ (ps.all f = true ∧ riseF ahead (ps.map Pap.n) = true ∧ (∀ q ∈ ps.map Pap.n, (n - 1) % q = 0) ∧ divL left (ps.map Pap.n) = 1 ∧ pwm b n (n - 1) = 1 ∧ baseOk n b (ps.map Pap.n) = true))
  | [], left, ahead, c, hc, hl, hq => by
    simp [laL, riseF, divL, baseOk]
  | p :: ps, left, ahead, c, hc, hl, hq => by
    have key : IsP p.n → ahead < p.n → ((n - 1) % p.n = 0 ↔ left % p.n = 0) ∧ (laL f n b ps (dvo p.n left) p.n = true ↔ (ps.all f = true ∧ riseF p.n (ps.map Pap.n) = true ∧ (∀ q ∈ ps.map Pap.n, (n - 1) % q = 0) ∧ divL (dvo p.n left) (ps.map Pap.n) = 1 ∧ pwm b n (n - 1) = 1 ∧ baseOk n b (ps.map Pap.n) = true)) := fun hP lt => by
      obtain ⟨e, e1, e2, e3⟩ := dvo_spec hP.1 left hl
      refine ⟨⟨fun h => ?_, fun h => ?_⟩, laL_eq f n b hf ps (dvo p.n left) p.n (c * p.n ^ e) (by rw [hc, Nat.mul_assoc, ← e1]) e2 fun q hqP ql => ?_⟩
      · have d := Nat.dvd_of_mod_eq_zero h
        rw [hc] at d
        exact Nat.mod_eq_zero_of_dvd ((hq p.n hP lt).dvd_of_dvd_mul_left d)
      · rw [hc]
        exact Nat.mod_eq_zero_of_dvd (Nat.dvd_trans (Nat.dvd_of_mod_eq_zero h) (Nat.dvd_mul_left _ _))
      · exact Nat.Coprime.mul_right (hq q hqP (by omega)) (Nat.Coprime.pow_right e (hqP.ne_cop hP (by omega)))
    simp only [laL, List.all_cons, List.map_cons, riseF, divL, Bool.and_eq_true, decide_eq_true_eq, List.mem_cons, forall_eq_or_imp, baseOk]
    constructor
    · rintro ⟨h1, h2, h3, h4, h5⟩
      obtain ⟨k1, k2⟩ := key (hf p h1) h2
      obtain ⟨r1, r2, r3, r4, r5, r6⟩ := k2.mp h5
      exact ⟨⟨h1, r1⟩, ⟨h2, r2⟩, ⟨k1.mpr h3, r3⟩, r4, r5, h4, r6⟩
    · rintro ⟨⟨h1, r1⟩, ⟨h2, r2⟩, ⟨h3, r3⟩, r4, r5, h4, r6⟩
      obtain ⟨k1, k2⟩ := key (hf p h1) h2
      exact ⟨h1, h2, k1.mp h3, h4, k2.mpr ⟨r1, r2, r3, r4, r5, r6⟩⟩
theorem la_sh : ∀ (d : Nat) (P : Pap), laB d P = shB d P
  | 0, _ => rfl
  | d + 1, P => by
    have e : laB d = shB d := funext fun P => la_sh d P
    rw [laB, shB, e]
    by_cases h2 : P.n = 2
    · rw [if_pos h2, if_pos h2]
    · rw [if_neg h2, if_neg h2, Bool.eq_iff_iff]
      simp only [Bool.and_eq_true, decide_eq_true_eq]
      refine and_congr_right fun h3 => and_congr_right fun h4 => ?_
      rw [laL_eq (shB d) P.n P.b (sh_prime d) P.ps (P.n - 1) 0 1 (by rw [Nat.one_mul]) (by omega) fun q _ _ => Nat.coprime_one_right q]
      refine and_congr_right fun h5 => ?_
      have r : rise (P.ps.map Pap.n) = riseF 0 (P.ps.map Pap.n) := rise_0 fun x hx => by
        obtain ⟨p, hp, rfl⟩ := List.mem_map.mp hx
        have := (sh_prime d p (List.all_eq_true.mp h5 p hp)).1
        omega
      rw [r]
      simp only [List.all_eq_true, decide_eq_true_eq]
/-! ### the paper of a prime -/
def LeastB (p b : Nat) (qs : List Nat) : Prop := 1 ≤ b ∧ baseOk p b qs = true ∧ ∀ j, 1 ≤ j → j < b → baseOk p j qs = false
theorem least_ex (f : Nat → Bool) : ∀ b, 1 ≤ b → f b = true → ∃ c, c ≤ b ∧ 1 ≤ c ∧ f c = true ∧ ∀ j, 1 ≤ j → j < c → f j = false := fun b => by
  induction b using Nat.strongRecOn with
  | ind b ih =>
    intro b1 hb
    by_cases z : ∃ j, 1 ≤ j ∧ j < b ∧ f j = true
    · obtain ⟨j, j1, j2, j3⟩ := z
      obtain ⟨c, c1, c2⟩ := ih j j2 j1 j3
      exact ⟨c, by omega, c2⟩
    · refine ⟨b, Nat.le_refl _, b1, hb, fun j j1 j2 => ?_⟩
      cases h : f j with
      | false => rfl
      | true => exact absurd ⟨j, j1, j2, h⟩ z
noncomputable def pls (n : Nat) : List Nat := (facOf n).map (·.1)
theorem pls_of (h : Fac n ps) : pls n = ps.map (·.1) := by rw [pls, facOf_eq h]
theorem pls_mem (hn : 1 ≤ n) : q ∈ pls n ↔ IsP q ∧ q ∣ n := by
  obtain ⟨ps, hF⟩ := fac_ex hn
  rw [pls_of hF]
  constructor
  · intro h
    obtain ⟨s, hs, rfl⟩ := List.mem_map.mp h
    refine ⟨(hF.2.1 s hs).1, ?_⟩
    rw [hF.1]
    have gen : ∀ (l : List (Nat × Nat)), (∀ t ∈ l, 1 ≤ t.2) → s ∈ l → s.1 ∣ prodF l := fun l => by
      induction l with
      | nil => intro _ h; cases h
      | cons t l ih =>
        intro h1 h
        rcases List.mem_cons.mp h with rfl | h
        · exact Nat.dvd_trans (dvd_pow_self' _ (by have := h1 s List.mem_cons_self; omega)) (Nat.dvd_mul_right _ _)
        · exact Nat.dvd_trans (ih (fun u hu => h1 u (List.mem_cons_of_mem _ hu)) h) (Nat.dvd_mul_left _ _)
    exact gen ps (fun t ht => (hF.2.1 t ht).2) hs
  · rintro ⟨hq, hd⟩
    rw [hF.1] at hd
    obtain ⟨s, hs, e⟩ := hq.in_prodF hF.2.1 hd
    exact List.mem_map.mpr ⟨s, hs, e⟩
noncomputable def lbs (p : Nat) : Nat := @dite _ (∃ b, LeastB p b (pls (p - 1))) (Classical.propDecidable _) (fun h => Classical.choose h) fun _ => 0
theorem lbs_of (hp : IsP p) : LeastB p (lbs p) (pls (p - 1)) := by
  have p2 := hp.1
  have ex : ∃ b, LeastB p b (pls (p - 1)) := by
    obtain ⟨g, g1, g2, g3⟩ := root_ex hp
    obtain ⟨c, _, c1, c2, c3⟩ := least_ex (fun b => baseOk p b (pls (p - 1))) g g1 (List.all_eq_true.mpr fun q hq => by
      obtain ⟨h1, h2⟩ := (pls_mem (by omega)).mp hq
      rw [decide_eq_false (g3 q h1 h2)]
      rfl)
    exact ⟨c, c1, c2, c3⟩
  unfold lbs
  rw [dif_pos ex]
  exact Classical.choose_spec ex
theorem lbs_le (hp : IsP p) (hb : 1 ≤ b) (h : baseOk p b (pls (p - 1)) = true) : lbs p ≤ b := by
  have l := lbs_of hp
  rcases Nat.lt_or_ge b (lbs p) with z | z
  · have := l.2.2 b hb z
    rw [h] at this
    cases this
  · exact z
theorem lbs_lt (hp : IsP p) : lbs p < p := by
  have p2 := hp.1
  obtain ⟨g, g1, g2, g3⟩ := root_ex hp
  have := lbs_le hp g1 (List.all_eq_true.mpr fun q hq => by
    obtain ⟨h1, h2⟩ := (pls_mem (by omega)).mp hq
    rw [decide_eq_false (g3 q h1 h2)]
    rfl)
  omega
noncomputable def paper : Nat → Nat → Pap
  | 0, p => .mk p 0 []
  | d + 1, p => if p = 2 then .mk 2 1 [] else .mk p (lbs p) ((pls (p - 1)).map (paper d))
theorem paper_n : ∀ (d p : Nat), (paper d p).n = p
  | 0, _ => rfl
  | d + 1, p => by
    rw [paper]
    by_cases z : p = 2
    · rw [if_pos z, z]
      rfl
    · rw [if_neg z]
      rfl
theorem map_n (d : Nat) (qs : List Nat) : (qs.map (paper d)).map Pap.n = qs := by
  rw [List.map_map]
  have : (Pap.n ∘ paper d) = id := funext fun p => paper_n d p
  rw [this, List.map_id]
theorem odd_p (hp : IsP p) (h2 : p ≠ 2) : p % 2 ≠ 0 := fun z => h2 (hp.2 2 (Nat.le_refl 2) (Nat.dvd_of_mod_eq_zero z)).symm
/-- a prime ahead of p is much less -/
theorem less_p (hp : IsP p) (h2 : p ≠ 2) (hb : p ≤ 2 ^ (d + 1)) (hq : IsP q) (qd : q ∣ p - 1) : q ≤ 2 ^ d := by
  have p2 := hp.1
  have od := odd_p hp h2
  rw [Nat.pow_succ] at hb
  by_cases z : q = 2
  · rw [z]
    rcases Nat.eq_zero_or_pos d with y | y
    · rw [y] at hb
      omega
    · have := Nat.pow_le_pow_right (n := 2) (by decide) y
      rwa [Nat.pow_one] at this
  · have e : p - 1 = 2 * ((p - 1) / 2) := by omega
    rw [e] at qd
    have p2' : IsP 2 := ⟨Nat.le_refl 2, fun d d2 dd => by
      have := Nat.le_of_dvd (by decide) dd
      omega⟩
    have := Nat.le_of_dvd (by omega) ((hq.ne_cop p2' z).dvd_of_dvd_mul_left qd)
    omega
theorem pls_rise (hn : 1 ≤ n) : (pls n).Pairwise (· < ·) := by
  obtain ⟨ps, hF⟩ := fac_ex hn
  rw [pls_of hF, List.pairwise_map]
  exact hF.2.2
theorem pls_div (hn : 1 ≤ n) : divL n (pls n) = 1 := by
  obtain ⟨ps, hF⟩ := fac_ex hn
  rw [pls_of hF]
  exact divL_fac hF
theorem pls_len (hn : 1 ≤ n) (h : n < 2 ^ 30) : (pls n).length < 30 := by
  obtain ⟨ps, hF⟩ := fac_ex hn
  rw [pls_of hF, List.length_map]
  have gen : ∀ (l : List (Nat × Nat)), (∀ t ∈ l, IsP t.1 ∧ 1 ≤ t.2) → 2 ^ l.length ≤ prodF l := fun l => by
    induction l with
    | nil => intro _; exact Nat.le_refl 1
    | cons t l ih =>
      intro h1
      have a := ih fun u hu => h1 u (List.mem_cons_of_mem _ hu)
      have ⟨b, c⟩ := h1 t List.mem_cons_self
      rw [List.length_cons, Nat.pow_succ, Nat.mul_comm]
      refine Nat.mul_le_mul ?_ a
      exact Nat.le_trans b.1 (Nat.le_of_dvd (Nat.pow_pos (by have := b.1; omega)) (dvd_pow_self' _ (by omega)))
  have := gen ps hF.2.1
  rw [← hF.1] at this
  exact (Nat.pow_lt_pow_iff_right (by decide)).mp (Nat.lt_of_le_of_lt this h)
theorem paper_sh : ∀ (d p : Nat), IsP p → p ≤ 2 ^ d → shB d (paper d p) = true
  | 0, p, hp, h => by
    have := hp.1
    omega
  | d + 1, p, hp, h => by
    rw [paper]
    by_cases z : p = 2
    · rw [if_pos z]
      rfl
    · have p2 := hp.1
      have od := odd_p hp z
      have n1 : 1 ≤ p - 1 := by omega
      have l := lbs_of hp
      have ll := lbs_lt hp
      rw [if_neg z, shB]
      show (if p = 2 then _ else decide (3 ≤ p) && (!decide (p % 2 = 0) && (((pls (p - 1)).map (paper d)).all (shB d) && (rise (((pls (p - 1)).map (paper d)).map Pap.n) && ((((pls (p - 1)).map (paper d)).map Pap.n).all (fun q => decide ((p - 1) % q = 0)) && (decide (divL (p - 1) (((pls (p - 1)).map (paper d)).map Pap.n) = 1) && (decide (pwm (lbs p) p (p - 1) = 1) && baseOk p (lbs p) (((pls (p - 1)).map (paper d)).map Pap.n)))))))) = true
      rw [if_neg z, map_n]
      simp only [Bool.and_eq_true, decide_eq_true_eq, List.all_eq_true, Bool.not_eq_true', decide_eq_false_iff_not]
      refine ⟨by omega, od, fun P hP => ?_, rise_pw (pls_rise n1), fun q hq => ?_, pls_div n1, ?_, l.2.1⟩
      · obtain ⟨q, hq, rfl⟩ := List.mem_map.mp hP
        obtain ⟨q1, q2⟩ := (pls_mem n1).mp hq
        exact paper_sh d q q1 (less_p hp z h q1 q2)
      · exact Nat.mod_eq_zero_of_dvd ((pls_mem n1).mp hq).2
      · exact fermat hp fun dd => by
          have := Nat.le_of_dvd l.1 dd
          omega
def szP : Nat → Pap → Prop
  | 0, _ => True
  | d + 1, P => P.n ≤ 4000000000 ∧ P.b ≤ 4000000000 ∧ P.ps.length ≤ 1000 ∧ ∀ p ∈ P.ps, szP d p
theorem paper_sz : ∀ (d p : Nat), IsP p → p ≤ 1000000000 → p ≤ 2 ^ d → szP d (paper d p)
  | 0, _, _, _, _ => trivial
  | d + 1, p, hp, h9, h => by
    rw [paper]
    by_cases z : p = 2
    · rw [if_pos z]
      exact ⟨by decide, by decide, by decide, fun p hp => by cases hp⟩
    · have p2 := hp.1
      have n1 : 1 ≤ p - 1 := by omega
      have ll := lbs_lt hp
      rw [if_neg z]
      refine ⟨?_, ?_, ?_, fun P hP => ?_⟩
      · show p ≤ _
        omega
      · show lbs p ≤ _
        omega
      · show ((pls (p - 1)).map (paper d)).length ≤ 1000
        rw [List.length_map]
        have := pls_len n1 (by omega)
        omega
      · obtain ⟨q, hq, rfl⟩ := List.mem_map.mp (show P ∈ (pls (p - 1)).map (paper d) from hP)
        obtain ⟨q1, q2⟩ := (pls_mem n1).mp hq
        have := Nat.le_of_dvd (by omega) q2
        exact paper_sz d q q1 (by omega) (less_p hp z h q1 q2)
theorem szP_mono : ∀ (d : Nat) (P : Pap), szP (d + 1) P → szP d P
  | 0, _, _ => trivial
  | d + 1, P, h => ⟨h.1, h.2.1, h.2.2.1, fun p hp => szP_mono d p (h.2.2.2 p hp)⟩
/-- a lesser base shows nothing -/
theorem paper_less (hp : IsP p) (h2 : p ≠ 2) {j : Nat} (j1 : 1 ≤ j) (jl : j < lbs p) (D : Nat) {P : Pap} (en : P.n = p) (eb : P.b = j) (ep : P.ps.map Pap.n = pls (p - 1)) : shB D P = false := by
  cases D with
  | zero => rfl
  | succ D =>
    rw [shB, en, if_neg h2, ep, eb, (lbs_of hp).2.2 j j1 jl]
    simp
/-! ### two great primes -/
def pwF : Nat → Nat → Nat → Nat → Nat
  | 0, _, m, _ => 1 % m
  | f + 1, b, m, k => if k = 0 then 1 % m else if k % 2 = 1 then pwF f (b * b % m) m (k / 2) * b % m else pwF f (b * b % m) m (k / 2)
theorem pwF_eq : ∀ (f b m k : Nat), k < 2 ^ f → pwF f b m k = pwm b m k
  | 0, b, m, k, h => by
    have : k = 0 := by omega
    subst this
    rfl
  | f + 1, b, m, k, h => by
    rw [Nat.pow_succ] at h
    have ih := pwF_eq f (b * b % m) m (k / 2) (by omega)
    have e : pwm (b * b % m) m (k / 2) = pwm b m (2 * (k / 2)) := by
      rw [pwm_mod, pwm_pow, show b ^ 2 = b * b by rw [Nat.pow_two]]
    rw [pwF]
    by_cases z : k = 0
    · rw [if_pos z, z]
      rfl
    · rw [if_neg z, ih, e]
      by_cases y : k % 2 = 1
      · rw [if_pos y, ← pwm_succ, show 2 * (k / 2) + 1 = k by omega]
      · rw [if_neg y, show 2 * (k / 2) = k by omega]
theorem prime_in (hq : IsP q) : ∀ (l : List Nat), q ∣ l.foldr (· * ·) 1 → ∃ x ∈ l, q ∣ x
  | [], h => by
    have := Nat.le_of_dvd (by decide) (show q ∣ 1 from h)
    have := hq.1
    omega
  | x :: l, h => by
    rcases hq.dvd_mul h with z | z
    · exact ⟨x, List.mem_cons_self, z⟩
    · obtain ⟨y, h1, h2⟩ := prime_in hq l z
      exact ⟨y, List.mem_cons_of_mem _ h1, h2⟩
theorem lbs_great {g : Nat} (hp : IsP p) (hg : 1 ≤ g) (l : List Nat) (hl : l.foldr (· * ·) 1 = p - 1) (hc : (l.all fun x => (List.range (x + 1)).all fun q => decide (q < 2) || !decide (x % q = 0) || !decide (pwF 30 g p ((p - 1) / q) = 1)) = true) (h30 : p ≤ 2 ^ 30) : lbs p ≤ g := by
  have p2 := hp.1
  refine lbs_le hp hg (List.all_eq_true.mpr fun q hq => ?_)
  obtain ⟨q1, q2⟩ := (pls_mem (by omega)).mp hq
  rw [← hl] at q2
  obtain ⟨x, hx, d⟩ := prime_in q1 l q2
  have c := List.all_eq_true.mp hc x hx
  by_cases x0 : x = 0
  · subst x0
    have gen : ∀ l : List Nat, 0 ∈ l → l.foldr (· * ·) 1 = 0 := fun l => by
      induction l with
      | nil => intro h; cases h
      | cons y l ih =>
        intro h
        rcases List.mem_cons.mp h with rfl | h
        · exact Nat.zero_mul _
        · show y * l.foldr (· * ·) 1 = 0
          rw [ih h, Nat.mul_zero]
    rw [gen l hx] at hl
    omega
  · have := Nat.le_of_dvd (by omega) d
    have c := List.all_eq_true.mp c q (List.mem_range.mpr (by omega))
    have := q1.1
    have dl : (p - 1) / q < 2 ^ 30 := Nat.lt_of_le_of_lt (Nat.div_le_self _ _) (by omega)
    rw [decide_eq_false (show ¬ q < 2 by omega), decide_eq_true (Nat.mod_eq_zero_of_dvd d), pwF_eq 30 g p _ dl] at c
    simpa using c
theorem lbs_a (hp : IsP 998244353) : lbs 998244353 ≤ 3 := lbs_great hp (by decide) [2, 2, 2, 2, 2, 2, 2, 2, 2, 2, 2, 2, 2, 2, 2, 2, 2, 2, 2, 2, 2, 2, 2, 7, 17] (by decide +kernel) (by decide +kernel) (by decide)
theorem lbs_b (hp : IsP 999999937) : lbs 999999937 ≤ 11 := lbs_great hp (by decide) [2, 2, 2, 2, 2, 2, 3, 3, 13, 83, 1609] (by decide +kernel) (by decide +kernel) (by decide)
end
end Sv

set_option Elab.async false
set_option linter.all false
set_option maxRecDepth 100000
set_option maxHeartbeats 4000000
namespace Sv
open PySem PySem.Spec PyProof.Rows L2 Evl
local macro_rules | `(tactic| walk_at "ev") => `(tactic| (repeat' (first | exact ev_var rfl | exact ev_c | exact rv_I0 | exact ea_nil | exact ru_neg | exact rv_eq rfl | exact rv_ne rfl | apply ev_op | apply rv_I | apply ev_un | apply et_test | apply et_B | apply et_not | apply ea_cons | apply ev_maxI | apply ev_minI)))
/-! ### a cell of the script, a drawn number -/
def cellS (ns : List Int) (k : Nat) : Int := if ns = [] then (k : Int) * 7919 else ns.getD (k % ns.length) 0 + ((k / ns.length : Nat) : Int) * 104729
def dP1 : Int := 340282366920938463463374607431768211507
def drawn (c k : Int) : Int :=
  let m1 := (c * 6364136223846793005 + (k + 1) * 1442695040888963407) % 340282366920938463463374607431768211507
  let m2 := m1 * m1 % 340282366920938463463374607431768211297
  let m3 := (m2 % 18446744073709551557 + 1) * (m2 / 18446744073709551557 + 1) * m2
  m3 % 340282366920938463463374607431768211507
theorem drawn_nn (c k : Int) : 0 ≤ drawn c k := Int.emod_nonneg _ (by decide)
theorem drawn_lt (c k : Int) : drawn c k < 340282366920938463463374607431768211507 := Int.emod_lt_of_pos _ (by decide)
def R__law_cell (G : Pm) : R2' := fun x y H Q _ => ∃ (a : Addr) (ns : List Int) (k : Nat), x = .ref a ∧ y = .int (k : Int) ∧ SqL G.K H a (ns.map V.int) ∧ ns.length ≤ 63 ∧ k ≤ 1000 ∧ RetV (.int (cellS ns k)) H Q
def R__law_drawn (G : Pm) : R2' := fun x y H Q _ => ∃ c k : Int, x = .int c ∧ y = .int k ∧ 0 ≤ k ∧ k ≤ 1000000 ∧ RetV (.int (drawn c k)) H Q
abbrev n__law_cell : List Str := ["_law_script", "_law_k"]
abbrev p__law_cell : List Str := ["_law_script", "_law_k"]
def sp__law_cell (G : Pm) : Sp := sp2 (R__law_cell G)
def t__law_cell (G : Pm) (E : XK) : TS :=
  (tSeq (tIfS (tTest (tOp (rEqD G.K) (tVar 0) (tLst tNil)))
  (tRet (tOp oMul (tVar 1) (tC (.int 7919))))
  tNext)
  (tRet (tOp oAdd (tOp (rIxL G.K) (tVar 0) (tOp oMod (tVar 1) (tCB (bLenQ G.K) (tCons (tVar 0) tNil)))) (tOp oMul (tOp oDiv (tVar 1) (tCB (bLenQ G.K) (tCons (tVar 0) tNil))) (tC (.int 104729))))))
def P__law_cell (G : Pm) : Prop := ∀ x0 x1 H Q E, R__law_cell G x0 x1 H Q E → t__law_cell G E (dn Q) (start n__law_cell [x0, x1]) H
abbrev n__law_drawn : List Str := ["_law_cell_here", "_law_k", "_law_more"]
abbrev p__law_drawn : List Str := ["_law_cell_here", "_law_k"]
def sp__law_drawn (G : Pm) : Sp := sp2 (R__law_drawn G)
def t__law_drawn (G : Pm) (E : XK) : TS :=
  (tSeq (tAsg (tOp oMod (tOp oAdd (tOp oMul (tVar 0) (tC (.int 6364136223846793005))) (tOp oMul (tOp oAdd (tVar 1) (tC (.int 1))) (tC (.int 1442695040888963407)))) (tC (.int 340282366920938463463374607431768211507))) (gName 2))
  (tSeq (tAsg (tOp oMod (tOp oMul (tVar 2) (tVar 2)) (tC (.int 340282366920938463463374607431768211297))) (gName 2))
  (tSeq (tAsg (tOp oMul (tOp oMul (tOp oAdd (tOp oMod (tVar 2) (tC (.int 18446744073709551557))) (tC (.int 1))) (tOp oAdd (tOp oDiv (tVar 2) (tC (.int 18446744073709551557))) (tC (.int 1)))) (tVar 2)) (gName 2))
  (tRet (tOp oMod (tVar 2) (tC (.int 340282366920938463463374607431768211507)))))))
def P__law_drawn (G : Pm) : Prop := ∀ x0 x1 H Q E, R__law_drawn G x0 x1 H Q E → t__law_drawn G E (dn Q) (start n__law_drawn [x0, x1]) H
theorem cm_r {i j : Int} (h1 : -(2 ^ 64) < j) (h2 : j < 2 ^ 64) : CM i j := .inl (.inr ⟨h1, h2⟩)
theorem cm_l {i j : Int} (h1 : -(2 ^ 64) < i) (h2 : i < 2 ^ 64) : CM i j := .inl (.inl ⟨h1, h2⟩)
theorem cdiv_w {i j : Int} (h : 0 < j) (h2 : j < 2 ^ 62) : CDivW i j := wide_div (b := 62) h (by omega) (by decide) (by decide)
theorem pure__law_cell (G : Pm) : P__law_cell G := by
  intro x0 x1 H Q E h
  obtain ⟨a, ns, k, rfl, rfl, hS, hl, hk, q⟩ := h
  refine q_when (b := decide (ns = [])) ?_ (fun hb H1 e1 => ?_) (fun hb H1 e1 => ?_)
  · refine et_test (ev_is (ev_opL (ev_var rfl) (el_lst ea_nil (Nat.zero_le _)) fun p H1 h1 e1 => rv_eqD (dp_il (ex_l e1 hS)) (dp_il (ns := []) (sq_of h1)) (sh_il _) (sh_il _)) ?_)
    rw [eqv_il]
  · have e0 : ns = [] := of_decide_eq_true hb
    refine s_ret (v := .int ((k : Int) * 7919)) ?_ fun H2 e2 => ?_
    · walk_at "ev"
      exact cm_r (by decide) (by decide)
    · have := q.go (e1.trans e2)
      unfold cellS at this
      rw [if_pos e0] at this
      exact this
  · have e0 : ns ≠ [] := of_decide_eq_false hb
    have lp : 0 < ns.length := List.length_pos_iff.mpr e0
    have lq : (0 : Int) < ((ns.map V.int).length : Int) := by
      rw [List.length_map]
      omega
    have hS1 := ex_l e1 hS
    have hm : k % ns.length < ns.length := Nat.mod_lt _ lp
    refine s_ret (v := .int (cellS ns k)) ?_ fun H2 e2 => q.go (e1.trans e2)
    refine ev_is (ev_op (ev_op (ev_var rfl) (ev_op (ev_var rfl) (ev_lenL (ev_var rfl) hS1) (rv_I lq)) (rv_ixL hS1 (v := .int (ns.getD (k % ns.length) 0)) ?_)) (ev_op (ev_op (ev_var rfl) (ev_lenL (ev_var rfl) hS1) (rv_I (cdiv_w lq ?_))) ev_c (rv_I (cm_r (by decide) (by decide)))) rv_I0) ?_
    · rw [List.length_map, ← Int.natCast_emod]
      refine atI_nat ?_
      rw [List.getElem?_map, List.getElem?_eq_getElem hm, List.getD_eq_getElem?_getD, List.getElem?_eq_getElem hm]
      rfl
    · rw [List.length_map]
      omega
    · rw [List.length_map, ← Int.natCast_ediv]
      unfold cellS
      rw [if_neg e0]
theorem two_128 : (340282366920938463463374607431768211507 : Int) < 2 ^ 129 := by decide
theorem na_lt {i : Int} {n : Nat} (h0 : 0 ≤ i) (h : i < 2 ^ n) : i.natAbs < 2 ^ n := by
  have e : ((2 ^ n : Nat) : Int) = (2 : Int) ^ n := by
    rw [Int.natCast_pow]
    rfl
  omega
theorem pure__law_drawn (G : Pm) : P__law_drawn G := by
  intro x0 x1 H Q E h
  obtain ⟨c, k, rfl, rfl, k0, k1, q⟩ := h
  have a0 : 0 ≤ (c * 6364136223846793005 + (k + 1) * 1442695040888963407) % 340282366920938463463374607431768211507 := Int.emod_nonneg _ (by decide)
  have a1 : (c * 6364136223846793005 + (k + 1) * 1442695040888963407) % 340282366920938463463374607431768211507 < 2 ^ 129 := Int.lt_trans (Int.emod_lt_of_pos _ (by decide)) two_128
  refine q_asg (v := .int ((c * 6364136223846793005 + (k + 1) * 1442695040888963407) % 340282366920938463463374607431768211507)) ?_ fun H1 e1 => ?_
  · walk_at "ev"
    · exact cm_r (by decide) (by decide)
    · exact cm_r (by decide) (by decide)
    · decide
  generalize hm1 : (c * 6364136223846793005 + (k + 1) * 1442695040888963407) % 340282366920938463463374607431768211507 = m1 at *
  have b0 : 0 ≤ m1 * m1 % 340282366920938463463374607431768211297 := Int.emod_nonneg _ (by decide)
  have b1 : m1 * m1 % 340282366920938463463374607431768211297 < 340282366920938463463374607431768211297 := Int.emod_lt_of_pos _ (by decide)
  refine q_asg (v := .int (m1 * m1 % 340282366920938463463374607431768211297)) ?_ fun H2 e2 => ?_
  · walk_at "ev"
    · exact .inr (wide_mul (a := 129) (b := 129) (na_lt a0 a1) (na_lt a0 a1) (by decide) (by decide) (by decide))
    · decide
  generalize hm2 : m1 * m1 % 340282366920938463463374607431768211297 = m2 at *
  refine q_asg (v := .int ((m2 % 18446744073709551557 + 1) * (m2 / 18446744073709551557 + 1) * m2)) ?_ fun H3 e3 => ?_
  · have d0 : 0 ≤ m2 % 18446744073709551557 := Int.emod_nonneg _ (by decide)
    have d1 : m2 % 18446744073709551557 < 18446744073709551557 := Int.emod_lt_of_pos _ (by decide)
    have f0 : 0 ≤ m2 / 18446744073709551557 := by omega
    have f1 : m2 / 18446744073709551557 < 2 ^ 65 := by omega
    walk_at "ev"
    · decide
    · exact wide_div (b := 64) (by decide) (by decide) (by decide) (by decide)
    · exact cm_l (by omega) (by omega)
    · refine .inr (wide_mul (a := 200) (b := 129) (Nat.lt_of_lt_of_le (wide_lt (a := 65) (b := 66) (na_lt (by omega) (by omega)) (na_lt (by omega) (by omega))) (by decide)) (na_lt b0 (by omega)) (by decide) (by decide) (by decide))
  refine s_ret (v := .int (drawn c k)) ?_ fun H4 e4 => q.go (((e1.trans e2).trans e3).trans e4)
  refine ev_is (v := .int ((m2 % 18446744073709551557 + 1) * (m2 / 18446744073709551557 + 1) * m2 % 340282366920938463463374607431768211507)) ?_ ?_
  · walk_at "ev"
    decide
  · unfold drawn
    rw [hm1]
    dsimp only
    rw [hm2]
end Sv

set_option Elab.async false
set_option linter.all false
set_option maxRecDepth 100000
set_option maxHeartbeats 4000000
namespace Sv
open PySem PySem.Spec PyProof.Rows L2 Evl HotX L2H LamX
local macro_rules | `(tactic| walk_at "ev") => `(tactic| (repeat' (first | exact ev_var rfl | exact ev_c | exact rv_I0 | exact ea_nil | exact ru_neg | exact rv_eq rfl | exact rv_ne rfl | apply ev_op | apply rv_I | apply ev_un | apply et_test | apply et_B | apply et_not | apply ea_cons | apply ev_maxI | apply ev_minI)))
/-- a refusal -/
def No (C : Addr) (H : Hp) (E : XK) : Prop := ∀ H', Ex H H' → E (.ref C) none H'
theorem No.ex {C : Addr} {H H' : Hp} {E : XK} (e : Ex H H') (h : No C H E) : No C H' E := fun H1 e1 => h H1 (e.trans e1)
theorem RetV.ex {v : V} {H H' : Hp} {Q : VK} (e : Ex H H') (h : RetV v H Q) : RetV v H' Q := fun H1 e1 => h H1 (e.trans e1)
theorem RetL.ex {xs : List V} {H H' : Hp} {Q : VK} (e : Ex H H') (h : RetL xs H Q) : RetL xs H' Q := fun p H1 hp e1 h1 => h p H1 (fresh_back e hp) (e.trans e1) h1
/-! ### numbers and what is none -/
def NumBad (x : V) (lo hi : Int) : Prop := x = .non ∨ (∃ b, x = .bl b) ∨ (∃ s, x = .str s) ∨ ∃ i : Int, x = .int i ∧ ¬ (lo ≤ i ∧ i ≤ hi)
def R_need_number (G : Pm) : R3 := fun x y z H Q E => ∃ lo hi : Int, y = .int lo ∧ z = .int hi ∧ ((∃ i : Int, x = .int i ∧ lo ≤ i ∧ i ≤ hi ∧ RetV .non H Q) ∨ (NumBad x lo hi ∧ No G.BadNumber H E))
/-! ### lists of pairs of numbers -/
inductive Rows (K : PySem.W.Frag) (H : Hp) : List V → List (Nat × Nat) → Prop
  | nil : Rows K H [] []
  | cons {t : Addr} {p : Nat × Nat} {xs : List V} {ps : List (Nat × Nat)} : SqT K H t [.int (p.1 : Int), .int (p.2 : Int)] → Rows K H xs ps → Rows K H (.ref t :: xs) (p :: ps)
theorem Rows.ex {K : PySem.W.Frag} {H H' : Hp} (e : Ex H H') : ∀ {xs : List V} {ps : List (Nat × Nat)}, Rows K H xs ps → Rows K H' xs ps
  | _, _, .nil => .nil
  | _, _, .cons h r => .cons (ex_t e h) (r.ex e)
theorem Rows.len {K : PySem.W.Frag} {H : Hp} : ∀ {xs : List V} {ps : List (Nat × Nat)}, Rows K H xs ps → xs.length = ps.length
  | _, _, .nil => rfl
  | _, _, .cons _ r => congrArg (· + 1) r.len
theorem Rows.app {K : PySem.W.Frag} {H : Hp} : ∀ {xs ys : List V} {ps qs : List (Nat × Nat)}, Rows K H xs ps → Rows K H ys qs → Rows K H (xs ++ ys) (ps ++ qs)
  | _, _, _, _, .nil, s => s
  | _, _, _, _, .cons h r, s => .cons h (r.app s)
theorem Rows.rev {K : PySem.W.Frag} {H : Hp} : ∀ {xs : List V} {ps : List (Nat × Nat)}, Rows K H xs ps → Rows K H xs.reverse ps.reverse
  | _, _, .nil => .nil
  | _, _, .cons h r => by
    rw [List.reverse_cons, List.reverse_cons]
    exact r.rev.app (.cons h .nil)
theorem Rows.at {K : PySem.W.Frag} {H : Hp} : ∀ {xs : List V} {ps : List (Nat × Nat)} {i : Nat} {x : V}, Rows K H xs ps → xs[i]? = some x → ∃ t p, x = .ref t ∧ ps[i]? = some p ∧ SqT K H t [.int (p.1 : Int), .int (p.2 : Int)]
  | _, _, _, _, .nil, h => by simp at h
  | _, _, 0, x, .cons (t := t) (p := p) h r, e => by
    simp at e
    exact ⟨t, p, e.symm, rfl, h⟩
  | _, _, i + 1, x, .cons h r, e => r.at (by simpa using e)
def pd (p : Nat × Nat) : PyData := .tuple [.int (p.1 : Int), .int (p.2 : Int)]
theorem Rows.dp {K : PySem.W.Frag} {H : Hp} : ∀ {xs : List V} {ps : List (Nat × Nat)}, Rows K H xs ps → DpAll K H xs (ps.map pd)
  | _, _, .nil => .nil
  | _, _, .cons h r => .cons (.tup h (.cons (.int _) (.cons (.int _) .nil))) r.dp
theorem can_pd : ∀ ps : List (Nat × Nat), PyData.canLayAll0 (ps.map pd) = true
  | [] => by simp [PyData.canLayAll0]
  | p :: ps => by simp [PyData.canLayAll0, PyData.canLay0, pd, can_pd ps]
theorem dep_pd : ∀ ps : List (Nat × Nat), PyData.depthAll (ps.map pd) ≤ 1
  | [] => by simp [PyData.depthAll]
  | p :: ps => by
    have := dep_pd ps
    simp [PyData.depthAll, PyData.depth, pd] at *
    omega
theorem sh_rows (ps : List (Nat × Nat)) : SeqAt.shaped (.list (ps.map pd)) = true := by
  have := dep_pd ps
  simp [SeqAt.shaped, PyData.canLay0, PyData.depth, can_pd]
  omega
def RowsAt (K : PySem.W.Frag) (H : Hp) (a : Addr) (ps : List (Nat × Nat)) : Prop := ∃ xs, SqL K H a xs ∧ Rows K H xs ps
theorem RowsAt.ex {K : PySem.W.Frag} {H H' : Hp} {a : Addr} {ps : List (Nat × Nat)} (e : Ex H H') (h : RowsAt K H a ps) : RowsAt K H' a ps := by
  obtain ⟨xs, h1, h2⟩ := h
  exact ⟨xs, ex_l e h1, h2.ex e⟩
def RetRows (G : Pm) (ps : List (Nat × Nat)) (H : Hp) (Q : VK) : Prop := ∀ p xs H2, H p = none → Ex H H2 → H2 p = some (.lst xs) → Rows G.K H2 xs ps → Q (.ref p) H2
abbrev isZ (x : V) (n : Nat) : Prop := x = .int (n : Int) ∧ 1 ≤ n ∧ n ≤ 1000000000
def R_apart (G : Pm) : R1 := fun x H Q _ => ∃ n, isZ x n ∧ ∀ ps, Fac n ps → RetRows G ps H Q
def natV (l : List Nat) : List V := l.map fun u : Nat => V.int (u : Int)
theorem natV_len (l : List Nat) : (natV l).length = l.length := List.length_map ..
theorem natV_app (l m : List Nat) : natV (l ++ m) = natV l ++ natV m := List.map_append ..
theorem natV_int (l : List Nat) : natV l = (l.map fun u : Nat => (u : Int)).map V.int := by
  rw [List.map_map]
  rfl
theorem natV_at {l : List Nat} {i : Nat} {x : V} (h : (natV l)[i]? = some x) : ∃ u : Nat, l[i]? = some u ∧ x = .int (u : Int) := by
  unfold natV at h
  rw [List.getElem?_map] at h
  cases hl : l[i]? with
  | none =>
    rw [hl] at h
    cases h
  | some u =>
    rw [hl] at h
    exact ⟨u, rfl, (Option.some.inj h).symm⟩
/-! ### numbers, powers, divisors: the specs -/
def big : Nat := 4000000000
def R_rest_of (_ : Pm) : R3 := fun x y z H Q _ => ∃ b k m : Nat, x = .int (b : Int) ∧ y = .int (k : Int) ∧ z = .int (m : Int) ∧ b ≤ 4000000000 ∧ k ≤ 4000000000 ∧ 1 ≤ m ∧ m ≤ 4000000000 ∧ RetV (.int ((pwm b m k : Nat) : Int)) H Q
def R_divided_by (G : Pm) : R2' := fun x y H Q _ => ∃ (m : Nat) (a : Addr) (qs : List Nat), x = .int (m : Int) ∧ 1 ≤ m ∧ m ≤ 4000000000 ∧ y = .ref a ∧ SqL G.K H a (natV qs) ∧ (∀ q ∈ qs, 2 ≤ q ∧ q ≤ 4000000000) ∧ RetV (.int ((divL m qs : Nat) : Int)) H Q
def R__law_power (_ : Pm) : Nat → R3
  | 0 => fun _ _ _ _ _ _ => False
  | d + 1 => fun x y z H Q _ => ∃ b k m : Nat, x = .int (b : Int) ∧ y = .int (k : Int) ∧ z = .int (m : Int) ∧ b ≤ 4000000000 ∧ k ≤ 4000000000 ∧ k < 2 ^ d ∧ 1 ≤ m ∧ m ≤ 4000000000 ∧ RetV (.int ((pwm b m k : Nat) : Int)) H Q
def LeastD (n d : Nat) : Prop := 2 ≤ d ∧ d ∣ n ∧ ∀ e, 2 ≤ e → e ∣ n → d ≤ e
def R__law_least (_ : Pm) : R1 := fun x H Q _ => ∃ n : Nat, x = .int (n : Int) ∧ 2 ≤ n ∧ n ≤ 1000000000 ∧ ∀ d, LeastD n d → RetV (.int (d : Int)) H Q
abbrev n_need_number : List Str := ["number", "least", "most"]
abbrev p_need_number : List Str := ["number", "least", "most"]
def sp_need_number (G : Pm) : Sp := sp3 (R_need_number G)
def t_need_number (G : Pm) (E : XK) : TS :=
  (tIfS (tOr (tNot (tB (tCB (rIsi G.K) (tCons (tVar 0) (tCons (tC (.ty "int")) tNil))))) (tOr (tB (tCB (rIsi G.K) (tCons (tVar 0) (tCons (tC (.ty "bool")) tNil)))) (tNot (tTest (tChain cLe cLe (tVar 1) (tVar 0) (tVar 2))))))
  (tRaise G.BadNumber E)
  tNext)
def P_need_number (G : Pm) : Prop := ∀ x0 x1 x2 H Q E, R_need_number G x0 x1 x2 H Q E → t_need_number G E (dn Q) (start n_need_number [x0, x1, x2]) H
abbrev n_apart : List Str := ["number", "found", "prime", "often"]
abbrev p_apart : List Str := ["number"]
def sp_apart (G : Pm) : Sp := sp1 (R_apart G)
def t_apart (G : Pm) (E : XK) : TS :=
  (tSeq (tAsg (tLst tNil) (gName 1))
  (tSeq (tAsg (tC (.int 2)) (gName 2))
  (tSeq (tWhile (tTest (tOp cLe (tOp oMul (tVar 2) (tVar 2)) (tVar 0)))
  (tSeq (tAsg (tC (.int 0)) (gName 3))
  (tSeq (tWhile (tTest (tOp rEq (tOp oMod (tVar 0) (tVar 2)) (tC (.int 0))))
  (tSeq (tAsg (tOp oDiv (tVar 0) (tVar 2)) (gName 0))
  (tAsg (tOp oAdd (tVar 3) (tC (.int 1))) (gName 3))))
  (tSeq (tIfS (tTest (tOp cGt (tVar 3) (tC (.int 0))))
  (tDrop (tBM G.K "list" rAppend (tVar 1) (tCons (tTup (tCons (tVar 2) (tCons (tVar 3) tNil))) tNil)))
  tNext)
  (tAsg (tOp oAdd (tVar 2) (tC (.int 1))) (gName 2))))))
  (tSeq (tIfS (tTest (tOp cGt (tVar 0) (tC (.int 1))))
  (tDrop (tBM G.K "list" rAppend (tVar 1) (tCons (tTup (tCons (tVar 0) (tCons (tC (.int 1)) tNil))) tNil)))
  tNext)
  (tRet (tVar 1))))))
def P_apart (G : Pm) : Prop := ∀ x0 H Q E, R_apart G x0 H Q E → t_apart G E (dn Q) (start n_apart [x0]) H
abbrev n_rest_of : List Str := ["base", "many", "by", "found"]
abbrev p_rest_of : List Str := ["base", "many", "by"]
def sp_rest_of (G : Pm) : Sp := sp3 (R_rest_of G)
def t_rest_of (G : Pm) (E : XK) : TS :=
  (tSeq (tAsg (tOp oMod (tC (.int 1)) (tVar 2)) (gName 3))
  (tSeq (tAsg (tOp oMod (tVar 0) (tVar 2)) (gName 0))
  (tSeq (tWhile (tTest (tOp cGt (tVar 1) (tC (.int 0))))
  (tSeq (tIfS (tTest (tOp rEq (tOp oMod (tVar 1) (tC (.int 2))) (tC (.int 1))))
  (tAsg (tOp oMod (tOp oMul (tVar 3) (tVar 0)) (tVar 2)) (gName 3))
  tNext)
  (tSeq (tAsg (tOp oMod (tOp oMul (tVar 0) (tVar 0)) (tVar 2)) (gName 0))
  (tAsg (tOp oDiv (tVar 1) (tC (.int 2))) (gName 1)))))
  (tRet (tVar 3)))))
def P_rest_of (G : Pm) : Prop := ∀ x0 x1 x2 H Q E, R_rest_of G x0 x1 x2 H Q E → t_rest_of G E (dn Q) (start n_rest_of [x0, x1, x2]) H
abbrev n_divided_by : List Str := ["number", "primes", "prime"]
abbrev p_divided_by : List Str := ["number", "primes"]
def sp_divided_by (G : Pm) : Sp := sp2 (R_divided_by G)
def t_divided_by (G : Pm) (E : XK) : TS :=
  (tSeq (tFor (iList G.K (tVar 1)) (gName 2)
  (tWhile (tTest (tOp rEq (tOp oMod (tVar 0) (tVar 2)) (tC (.int 0))))
  (tAsg (tOp oDiv (tVar 0) (tVar 2)) (gName 0))))
  (tRet (tVar 0)))
def P_divided_by (G : Pm) : Prop := ∀ x0 x1 H Q E, R_divided_by G x0 x1 H Q E → t_divided_by G E (dn Q) (start n_divided_by [x0, x1]) H
abbrev n__law_power : List Str := ["_law_base", "_law_many", "_law_by", "_law_half"]
abbrev p__law_power : List Str := ["_law_base", "_law_many", "_law_by"]
def sp__law_power (G : Pm) (d : Nat) : Sp := sp3 (R__law_power G d)
def t__law_power (G : Pm) (d : Nat) (E : XK) : TS :=
  (tSeq (tIfS (tTest (tOp rEq (tVar 1) (tC (.int 0))))
  (tRet (tOp oMod (tC (.int 1)) (tVar 2)))
  tNext)
  (tSeq (tAsg (tCall (sp__law_power G d) [] E (tCons (tVar 0) (tCons (tOp oDiv (tVar 1) (tC (.int 2))) (tCons (tVar 2) tNil)))) (gName 3))
  (tRet (tOp oMod (tOp oMul (tOp oMul (tVar 3) (tVar 3)) (tOp (rIxL G.K) (tLst (tCons (tC (.int 1)) (tCons (tVar 0) tNil))) (tOp oMod (tVar 1) (tC (.int 2))))) (tVar 2)))))
def P__law_power (G : Pm) : Prop := ∀ d x0 x1 x2 H Q E, R__law_power G (d + 1) x0 x1 x2 H Q E → t__law_power G d E (dn Q) (start n__law_power [x0, x1, x2]) H
abbrev n__law_least : List Str := ["_law_n", "_law_d"]
abbrev p__law_least : List Str := ["_law_n"]
def sp__law_least (G : Pm) : Sp := sp1 (R__law_least G)
def t__law_least (G : Pm) (E : XK) : TS :=
  (tSeq (tAsg (tC (.int 2)) (gName 1))
  (tSeq (tWhile (tTest (tOp cLe (tOp oMul (tVar 1) (tVar 1)) (tVar 0)))
  (tSeq (tIfS (tTest (tOp rEq (tOp oMod (tVar 0) (tVar 1)) (tC (.int 0))))
  (tRet (tVar 1))
  tNext)
  (tAsg (tOp oAdd (tVar 1) (tC (.int 1))) (gName 1))))
  (tRet (tVar 0))))
def P__law_least (G : Pm) : Prop := ∀ x0 H Q E, R__law_least G x0 H Q E → t__law_least G E (dn Q) (start n__law_least [x0]) H
theorem given_nil {n : Nat} {f : Nat → Bool} {v : Nat → V} : given n f v = [] ↔ ∀ k, k < n → f k = false := by
  unfold given
  rw [List.map_eq_nil_iff, List.filter_eq_nil_iff]
  constructor
  · intro h k hk
    have := h k (List.mem_range.mpr hk)
    simpa using this
  · intro h k hk
    rw [h k (List.mem_range.mp hk)]
    decide
theorem int_mod_dec (a c : Nat) : decide (V.int ((a : Int) % (c : Int)) = V.int 0) = decide (a % c = 0) := by
  rw [← Int.natCast_emod]
  by_cases z : a % c = 0
  · rw [z]
    rfl
  · rw [decide_eq_false z, decide_eq_false]
    intro y
    have := V.int.inj y
    omega
theorem given_first {n : Nat} {f : Nat → Bool} {v : Nat → V} (m : Nat) (hm : m < n) (hf : f m = true) : ∃ c, c < n ∧ f c = true ∧ (∀ d, d < c → f d = false) ∧ (given n f v)[0]? = some (v c) := by
  have e : ((List.range n).filter f)[0]? = (List.range n).find? f := by rw [← List.head?_filter, List.head?_eq_getElem?]
  cases h : (List.range n).find? f with
  | none =>
    have := List.find?_eq_none.mp h m (List.mem_range.mpr hm)
    exact absurd hf this
  | some c =>
    obtain ⟨h1, h2, h3⟩ := List.find?_range_eq_some.mp h
    refine ⟨c, List.mem_range.mp h2, h1, fun d hd => by simpa using h3 d hd, ?_⟩
    unfold given
    rw [List.getElem?_map, e, h]
    rfl
theorem pure_need_number (G : Pm) : P_need_number G := by
  intro x0 x1 x2 H Q E h
  obtain ⟨lo, hi, rfl, rfl, h⟩ := h
  have num : ∀ i : Int, x0 = .int i → ∀ b, b = (!(decide (lo ≤ i) && decide (i ≤ hi))) → (b = true → No G.BadNumber H E) → (b = false → RetV .non H Q) → t_need_number G E (dn Q) (start n_need_number [x0, .int lo, .int hi]) H := by
    rintro i rfl b rfl h1 h2
    refine s_when (b := !true || (false || !(decide (lo ≤ i) && decide (i ≤ hi)))) (et_or (et_not (et_B (ev_isi (ev_var rfl) (fun _ _ => .base (.int i)) (by decide +kernel)))) fun _ => et_or (et_B (ev_isi (ev_var rfl) (fun _ _ => .base (.int i)) (by decide +kernel))) fun _ => et_not (et_chain (ev_chain (ev_var rfl) (ev_var rfl) rv_I0 (fun _ => ev_var rfl) fun _ => rv_I0))) (fun hb H1 e1 => h1 (by simpa using hb) H1 e1) fun hb H1 e1 => h2 (by simpa using hb) H1 e1
  have odd : ∀ (n m : Bool) (t : String), (∀ H1, Ex H H1 → TyX G.K H1 x0 (.type t)) → kitB t "int" = some n → kitB t "bool" = some m → (!n || (m || true)) = true → (n = true → m = true) → No G.BadNumber H E → t_need_number G E (dn Q) (start n_need_number [x0, .int lo, .int hi]) H := by
    intro n m t ht k1 k2 _ hnm no
    refine s_when (b := !n || (m || true)) (et_or (et_not (et_B (ev_isi (ev_var rfl) ht k1))) fun z => et_or (et_B (ev_isi (ev_var rfl) ht k2)) fun y => ?_) (fun _ H1 e1 => no H1 e1) fun hb => ?_
    · have : n = true := by simpa using z
      have := hnm this
      rw [y] at this
      cases this
    · cases n <;> cases m <;> cases hb
  rcases h with ⟨i, rfl, l1, l2, q⟩ | ⟨hb, no⟩
  · refine num i rfl _ rfl (fun z => ?_) fun _ => q
    rw [decide_eq_true l1, decide_eq_true l2] at z
    cases z
  · rcases hb with rfl | ⟨b, rfl⟩ | ⟨s, rfl⟩ | ⟨i, rfl, hi'⟩
    · exact odd false false "NoneType" (fun _ _ => .base .non) (by decide +kernel) (by decide +kernel) rfl (fun z => (by cases z)) no
    · exact odd true true "bool" (fun _ _ => .base (.bl b)) (by decide +kernel) (by decide +kernel) rfl (fun _ => rfl) no
    · exact odd false false "str" (fun _ _ => .base (.str s)) (by decide +kernel) (by decide +kernel) rfl (fun z => (by cases z)) no
    · refine num i rfl _ rfl (fun _ => no) fun z => ?_
      have : lo ≤ i ∧ i ≤ hi := by simpa using z
      exact (hi' this).elim
/-- need_number(..) as a statement -/
theorem q_num {G : Pm} {σ : L2.St} {H : Hp} {ta tb tc : TE} {E : XK} {D : Ends} {tz : TS} {x : V} {lo hi : Int} (ha : Ev ta σ H x) (hb : Ev tb σ H (.int lo)) (hc : Ev tc σ H (.int hi))
    (h : ((∃ i : Int, x = .int i ∧ lo ≤ i ∧ i ≤ hi) ∧ ∀ H1, Ex H H1 → tz D σ H1) ∨ (NumBad x lo hi ∧ No G.BadNumber H E)) : tSeq (tDrop (tCall (sp_need_number G) [] E (tCons ta (tCons tb (tCons tc tNil))))) tz D σ H :=
  ha H (Ex.refl H) _ fun H1 e1 => hb H1 e1 _ fun H2 e2 => hc H2 (e1.trans e2) _ fun H3 e3 => by
    have e := (e1.trans e2).trans e3
    refine ⟨lo, hi, rfl, rfl, ?_⟩
    rcases h with ⟨⟨i, h1, h2, h3⟩, k⟩ | ⟨h1, no⟩
    · exact .inl ⟨i, h1, h2, h3, fun H4 e4 => k H4 (e.trans e4)⟩
    · exact .inr ⟨h1, no.ex e⟩
theorem s_num {G : Pm} {σ : L2.St} {H : Hp} {ta tb tc : TE} {E : XK} {D : Ends} {x : V} {lo hi : Int} (ha : Ev ta σ H x) (hb : Ev tb σ H (.int lo)) (hc : Ev tc σ H (.int hi))
    (h : ((∃ i : Int, x = .int i ∧ lo ≤ i ∧ i ≤ hi) ∧ ∀ H1, Ex H H1 → D.nx σ H1) ∨ (NumBad x lo hi ∧ No G.BadNumber H E)) : tDrop (tCall (sp_need_number G) [] E (tCons ta (tCons tb (tCons tc tNil)))) D σ H :=
  ha H (Ex.refl H) _ fun H1 e1 => hb H1 e1 _ fun H2 e2 => hc H2 (e1.trans e2) _ fun H3 e3 => by
    have e := (e1.trans e2).trans e3
    refine ⟨lo, hi, rfl, rfl, ?_⟩
    rcases h with ⟨⟨i, h1, h2, h3⟩, k⟩ | ⟨h1, no⟩
    · exact .inl ⟨i, h1, h2, h3, fun H4 e4 => k H4 (e.trans e4)⟩
    · exact .inr ⟨h1, no.ex e⟩
/-! ### apart -/
theorem facP {c p : Nat} (hc : 2 ≤ c) (h : ∀ d, 2 ≤ d → d ∣ c → p ≤ d) (hp : c < p * p) : IsP c := by
  refine ⟨hc, fun d d2 dc => ?_⟩
  obtain ⟨e, he⟩ := dc
  rcases Nat.lt_or_ge e 2 with z | z
  · have : e = 0 ∨ e = 1 := by omega
    rcases this with y | y
    · rw [y, Nat.mul_zero] at he
      omega
    · rw [y, Nat.mul_one] at he
      exact he.symm
  · have l1 := h d d2 ⟨e, he⟩
    have l2 := h e z ⟨d, by rw [he, Nat.mul_comm]⟩
    have := Nat.mul_le_mul l1 l2
    rw [← he] at this
    omega
theorem Rows.mut {K : PySem.W.Frag} {H : Hp} {l : Addr} {zs : List V} {o : HO} (hl : H l = some (.lst zs)) : ∀ {xs : List V} {ps : List (Nat × Nat)}, Rows K H xs ps → Rows K (upd H l o) xs ps
  | _, _, .nil => .nil
  | _, _, .cons h r => .cons (sqT_mut hl h) (r.mut hl)
theorem pure_apart (G : Pm) : P_apart G := by
  intro x0 H Q E h
  obtain ⟨n, ⟨rfl, n1, n9⟩, q⟩ := h
  refine q_asgL (el_lst ea_nil (Nat.zero_le _)) fun l H1 l0 e1 h1 => ?_
  refine q_asg (v := .int ((2 : Nat) : Int)) ev_c fun H2 e2 => ?_
  refine q_whl (fun m σ' H' => ∃ (c p : Nat) (ps : List (Nat × Nat)) (xs : List V) (y3 : Option V), σ' = [some (.int (c : Int)), some (.ref l), some (.int (p : Int)), y3] ∧ m = n + 2 - p ∧ Ex H H' ∧ H' l = some (.lst xs) ∧ Rows G.K H' xs ps ∧
    n = prodF ps * c ∧ 1 ≤ c ∧ 2 ≤ p ∧ p ≤ 40000 ∧ (∀ d, 2 ≤ d → d ∣ c → p ≤ d) ∧ (∀ q ∈ ps, IsP q.1 ∧ 1 ≤ q.2) ∧ (∀ q ∈ ps, q.1 < p) ∧ ps.Pairwise (fun a b => a.1 < b.1) ∧ ps.length + 2 ≤ p) (n + 2 - 2)
    ⟨n, 2, [], [], _, rfl, rfl, e1.trans e2, e2 l _ h1, .nil, by simp [prodF], n1, Nat.le_refl 2, by decide, fun d d2 _ => d2, fun _ h => by simp at h, fun _ h => by simp at h, .nil, Nat.le_refl 2⟩ ?_
  rintro m σ' H3 ⟨c, p, ps, xs, y3, rfl, rfl, e3, h3, hR, hn, c1, p2, p4, hd, hP, hlt, hpw, hlen⟩
  have cn : c ≤ n := by
    rw [hn]
    exact Nat.le_mul_of_pos_left _ (prodF_pos hP)
  have hxl : xs.length = ps.length := hR.len
  have hcast : (p : Int) * (p : Int) = ((p * p : Nat) : Int) := (Int.natCast_mul p p).symm
  refine ⟨decide (p * p ≤ c), ?_, fun hb H4 e4 => ?_, fun hb H4 e4 => ?_⟩
  · refine et_is (et_test (ev_op (ev_op (ev_var rfl) (ev_var rfl) (rv_I (cm_l (by omega) (by omega)))) (ev_var rfl) rv_I0)) ?_
    rw [hcast]
    exact decide_eq_decide.mpr Int.ofNat_le
  · have ppc : p * p ≤ c := of_decide_eq_true hb
    have pc : p ≤ c := Nat.le_trans (Nat.le_mul_of_pos_left p (by omega)) ppc
    have p5 : p < 40000 := by
      rcases Nat.lt_or_ge p 40000 with z | z
      · exact z
      · have := Nat.mul_le_mul z z
        omega
    refine q_asg (v := .int ((0 : Nat) : Int)) ev_c fun H5 e5 => ?_
    refine q_whl (fun m σ' H' => ∃ c' k : Nat, σ' = [some (.int (c' : Int)), some (.ref l), some (.int (p : Int)), some (.int (k : Int))] ∧ m = c' ∧ Ex H3 H' ∧ c = p ^ k * c' ∧ 1 ≤ c') c ⟨c, 0, rfl, rfl, e4.trans e5, by simp, c1⟩ ?_
    rintro m σ' H6 ⟨c', k, rfl, hm6, e6, hc, c1'⟩
    have pk : 1 ≤ p ^ k := Nat.pow_pos (by omega)
    have cc : c' ∣ c := ⟨p ^ k, by rw [hc, Nat.mul_comm]⟩
    refine ⟨decide (c' % p = 0), et_is (et_test (ev_op (ev_op (ev_var rfl) (ev_var rfl) (rv_I (by omega))) ev_c (rv_eq rfl))) (int_mod_dec c' p), fun hb2 H7 e7 => ?_, fun hb2 H7 e7 => ?_⟩
    · have d0 : p ∣ c' := Nat.dvd_of_mod_eq_zero (of_decide_eq_true hb2)
      have lep : p ≤ c' := Nat.le_of_dvd c1' d0
      have q1 : 1 ≤ c' / p := Nat.div_pos lep (by omega)
      have q2 : c' / p < c' := Nat.div_lt_self c1' p2
      have q3 : p * (c' / p) = c' := Nat.mul_div_cancel' d0
      refine q_asg (v := .int ((c' / p : Nat) : Int)) (ev_is (ev_op (ev_var rfl) (ev_var rfl) (rv_I (cdiv_w (by omega) (by omega)))) (by rw [Int.natCast_ediv])) fun H8 e8 => ?_
      refine s_asg (v := .int ((k + 1 : Nat) : Int)) (ev_op (ev_var rfl) ev_c rv_I0) fun H9 e9 => ⟨c' / p, by rw [hm6]; exact q2, c' / p, k + 1, rfl, rfl, e6.trans (e7.trans (e8.trans e9)), ?_, q1⟩
      rw [Nat.pow_succ, Nat.mul_assoc, q3]
      exact hc
    · have nd : ¬ p ∣ c' := fun z => of_decide_eq_false hb2 (Nat.mod_eq_zero_of_dvd z)
      have nx : ∀ d, 2 ≤ d → d ∣ c' → p + 1 ≤ d := fun d d2 dc => by
        have l := hd d d2 (Nat.dvd_trans dc cc)
        rcases Nat.lt_or_ge p d with z | z
        · exact z
        · have : d = p := by omega
          exact absurd (this ▸ dc) nd
      have e67 := e6.trans e7
      have h7 := e67 l _ h3
      have hR7 := hR.ex e67
      refine q_ifM (b := decide (0 < k)) (M := fun σ' H' => ∃ (ps' : List (Nat × Nat)) (xs' : List V), σ' = [some (.int (c' : Int)), some (.ref l), some (.int (p : Int)), some (.int (k : Int))] ∧ Ex H H' ∧ H' l = some (.lst xs') ∧ Rows G.K H' xs' ps' ∧ n = prodF ps' * c' ∧ (∀ q ∈ ps', IsP q.1 ∧ 1 ≤ q.2) ∧ (∀ q ∈ ps', q.1 < p + 1) ∧ ps'.Pairwise (fun a b => a.1 < b.1) ∧ ps'.length + 2 ≤ p + 1) ?_
        (et_is (et_test (ev_op (ev_var rfl) ev_c rv_I0)) (by rw [show decide ((0 : Int) < (k : Int)) = decide (0 < k) from decide_eq_decide.mpr (by omega)])) (fun hb3 H8 e8 N hN => ?_) fun hb3 H8 e8 N hN => ?_
      · rintro σ' H8 ⟨ps', xs', rfl, e8, h8, hR8, hn8, hP8, hlt8, hpw8, hlen8⟩
        exact s_asg (v := .int ((p + 1 : Nat) : Int)) (ev_op (ev_var rfl) ev_c rv_I0) fun H9 e9 => ⟨n + 2 - (p + 1), by omega, c', p + 1, ps', xs', _, rfl, rfl, e8.trans e9, e9 l _ h8, hR8.ex e9, hn8, c1', by omega, by omega, nx, hP8, hlt8, hpw8, hlen8⟩
      · have k1 : 1 ≤ k := of_decide_eq_true hb3
        have pdc : p ∣ c := by
          rw [hc]
          exact Nat.dvd_trans (Nat.dvd_trans (by rw [Nat.pow_one]; exact Nat.dvd_refl _) (Nat.pow_dvd_pow p k1)) (Nat.dvd_mul_right _ _)
        have pp : IsP p := ⟨p2, fun d d2 dp => by
          have l1 := hd d d2 (Nat.dvd_trans dp pdc)
          have l2 := Nat.le_of_dvd (by omega) dp
          omega⟩
        refine s_appU (e8 l _ h7) (ev_var rfl) (eu_tup (vs := [.int (p : Int), .int (k : Int)]) (ea_cons (ev_var rfl) (ea_cons (ev_var rfl) ea_nil)) (by show 2 ≤ 100000; decide)) (by omega) fun t H9 t0 e9 h9 => hN _ _ ⟨ps ++ [(p, k)], xs ++ [.ref t], rfl, Ex.mut ((e3.trans e67).trans (e8.trans e9)) l0, upd_same, ?_, ?_, ?_, ?_, ?_, ?_⟩
        · have hl9 := (e8.trans e9) l _ h7
          exact (Rows.mut hl9 (hR7.ex (e8.trans e9))).app (.cons (p := (p, k)) (sqT_mut hl9 (st_of h9)) .nil)
        · rw [prodF_app, hn, hc]
          simp [prodF, Nat.mul_assoc]
        · intro q hq
          rcases List.mem_append.mp hq with z | z
          · exact hP q z
          · rw [List.mem_singleton.mp z]
            exact ⟨pp, k1⟩
        · intro q hq
          rcases List.mem_append.mp hq with z | z
          · have := hlt q z
            omega
          · rw [List.mem_singleton.mp z]
            exact Nat.lt_succ_self p
        · rw [List.pairwise_append]
          refine ⟨hpw, List.pairwise_singleton _ _, fun a ha b hb => ?_⟩
          rw [List.mem_singleton.mp hb]
          exact hlt a ha
        · rw [List.length_append]
          show ps.length + 1 + 2 ≤ p + 1
          omega
      · have k0 : k = 0 := by
          have := of_decide_eq_false hb3
          omega
        subst k0
        rw [Nat.pow_zero, Nat.one_mul] at hc
        subst hc
        exact hN _ _ ⟨ps, xs, rfl, (e3.trans e67).trans e8, e8 l _ h7, hR7.ex e8, hn, hP, fun q hq => by have := hlt q hq; omega, hpw, by omega⟩
  · have ppc : c < p * p := by
      have := of_decide_eq_false hb
      omega
    have h4 := e4 l _ h3
    have hR4 := hR.ex e4
    refine q_ifM (b := decide (1 < c)) (M := fun σ' H' => ∃ (ps' : List (Nat × Nat)) (xs' : List V) (y0 y2 y3 : Option V), σ' = [y0, some (.ref l), y2, y3] ∧ Ex H H' ∧ H' l = some (.lst xs') ∧ Rows G.K H' xs' ps' ∧ Fac n ps') ?_
      (et_is (et_test (ev_op (ev_var rfl) ev_c rv_I0)) (by rw [show decide ((1 : Int) < (c : Int)) = decide (1 < c) from decide_eq_decide.mpr (by omega)])) (fun hb3 H8 e8 N hN => ?_) fun hb3 H8 e8 N hN => ?_
    · rintro σ' H8 ⟨ps', xs', y0, y2, y3, rfl, e8, h8, hR8, hF⟩
      exact s_ret (ev_var rfl) fun H9 e9 => q ps' hF l xs' H9 l0 (e8.trans e9) (e9 l _ h8) (hR8.ex e9)
    · have c2 : 2 ≤ c := of_decide_eq_true hb3
      have pp := facP c2 hd ppc
      have pc : p ≤ c := hd c c2 (Nat.dvd_refl c)
      refine s_appU (e8 l _ h4) (ev_var rfl) (eu_tup (vs := [.int (c : Int), .int ((1 : Nat) : Int)]) (ea_cons (ev_var rfl) (ea_cons ev_c ea_nil)) (by show 2 ≤ 100000; decide)) (by omega) fun t H9 t0 e9 h9 => hN _ _ ⟨ps ++ [(c, 1)], xs ++ [.ref t], _, _, _, rfl, Ex.mut ((e3.trans e4).trans (e8.trans e9)) l0, upd_same, ?_, ?_, ?_, ?_⟩
      · have hl9 := (e8.trans e9) l _ h4
        exact (Rows.mut hl9 (hR4.ex (e8.trans e9))).app (.cons (p := (c, 1)) (sqT_mut hl9 (st_of h9)) .nil)
      · rw [prodF_app, hn]
        simp [prodF]
      · intro q hq
        rcases List.mem_append.mp hq with z | z
        · exact hP q z
        · rw [List.mem_singleton.mp z]
          exact ⟨pp, Nat.le_refl 1⟩
      · rw [List.pairwise_append]
        refine ⟨hpw, List.pairwise_singleton _ _, fun a ha b hb => ?_⟩
        rw [List.mem_singleton.mp hb]
        have := hlt a ha
        show a.1 < c
        omega
    · have c0 : c = 1 := by
        have := of_decide_eq_false hb3
        omega
      subst c0
      exact hN _ _ ⟨ps, xs, _, _, _, rfl, (e3.trans e4).trans e8, e8 l _ h4, hR4.ex e8, by rw [hn, Nat.mul_one], hP, hpw⟩
theorem nat_dec (a b : Nat) : decide (V.int (a : Int) = V.int (b : Int)) = decide (a = b) := by
  by_cases z : a = b
  · rw [z, decide_eq_true rfl, decide_eq_true rfl]
  · rw [decide_eq_false z, decide_eq_false]
    intro y
    have := V.int.inj y
    omega
theorem mulmod_cast (a b m : Nat) : (a : Int) * (b : Int) % (m : Int) = ((a * b % m : Nat) : Int) := by rw [Int.natCast_emod, Int.natCast_mul]
theorem lt_dec (a b : Nat) : decide ((a : Int) < (b : Int)) = decide (a < b) := decide_eq_decide.mpr (by omega)
theorem le_dec (a b : Nat) : decide ((a : Int) ≤ (b : Int)) = decide (a ≤ b) := decide_eq_decide.mpr (by omega)
theorem sub1_cast {n : Nat} (h : 1 ≤ n) : (n : Int) - 1 = ((n - 1 : Nat) : Int) := by omega
/-! ### rest_of -/
theorem rest_odd (f b m k : Nat) (h : k % 2 = 1) : f * b % m * (b * b % m) ^ (k / 2) % m = f * b ^ k % m := by
  have e : b ^ k = b * (b * b) ^ (k / 2) := by
    rw [← Nat.pow_two, ← Nat.pow_mul, Nat.mul_comm b, ← Nat.pow_succ]
    congr 1
    omega
  rw [e, ← Nat.mul_assoc, Nat.mul_mod (f * b % m), Nat.mod_mod, ← Nat.pow_mod, ← Nat.mul_mod]
theorem rest_even (f b m k : Nat) (h : k % 2 ≠ 1) : f * (b * b % m) ^ (k / 2) % m = f * b ^ k % m := by
  have e : b ^ k = (b * b) ^ (k / 2) := by
    rw [← Nat.pow_two, ← Nat.pow_mul]
    congr 1
    omega
  rw [e, Nat.mul_mod f, ← Nat.pow_mod, ← Nat.mul_mod]
theorem rest_first (b m k : Nat) : 1 % m * (b % m) ^ k % m = pwm b m k := by
  unfold pwm
  rw [Nat.mul_mod, Nat.mod_mod, ← Nat.pow_mod, ← Nat.mul_mod, Nat.one_mul]
theorem pure_rest_of (G : Pm) : P_rest_of G := by
  intro x0 x1 x2 H Q E h
  obtain ⟨b, k, m, rfl, rfl, rfl, hb, hk, m1, m4, q⟩ := h
  have mp : (0 : Int) < (m : Int) := by omega
  refine q_asg (v := .int ((1 % m : Nat) : Int)) (ev_is (ev_op ev_c (ev_var rfl) (rv_I mp)) (by rw [Int.natCast_emod]; rfl)) fun H1 e1 => ?_
  refine q_asg (v := .int ((b % m : Nat) : Int)) (ev_is (ev_op (ev_var rfl) (ev_var rfl) (rv_I mp)) (by rw [Int.natCast_emod])) fun H2 e2 => ?_
  refine q_whl (fun r σ' H' => ∃ f c : Nat, σ' = [some (.int (c : Int)), some (.int (r : Int)), some (.int (m : Int)), some (.int (f : Int))] ∧ Ex H H' ∧ f < m ∧ c < m ∧ r ≤ k ∧ f * c ^ r % m = pwm b m k) k
    ⟨1 % m, b % m, rfl, e1.trans e2, Nat.mod_lt _ m1, Nat.mod_lt _ m1, Nat.le_refl k, rest_first b m k⟩ ?_
  rintro r σ' H3 ⟨f, c, rfl, e3, hf, hc, hr, hv⟩
  refine ⟨decide (0 < r), et_is (et_test (ev_op (ev_var rfl) ev_c rv_I0)) (lt_dec 0 r), fun hb1 H4 e4 => ?_, fun hb1 H4 e4 => ?_⟩
  · have r1 : 0 < r := of_decide_eq_true hb1
    have rest : ∀ (f' : Nat) (H5 : Hp), Ex H H5 → f' < m → f' * (c * c % m) ^ (r / 2) % m = pwm b m k →
        tSeq (tAsg (tOp oMod (tOp oMul (tVar 0) (tVar 0)) (tVar 2)) (gName 0)) (tAsg (tOp oDiv (tVar 1) (tC (.int 2))) (gName 1)) { dn Q with nx := fun σ2 H2 => ∃ m', m' < r ∧ ∃ f c : Nat, σ2 = [some (.int (c : Int)), some (.int (m' : Int)), some (.int (m : Int)), some (.int (f : Int))] ∧ Ex H H2 ∧ f < m ∧ c < m ∧ m' ≤ k ∧ f * c ^ m' % m = pwm b m k, ct := fun σ2 H2 => ∃ m', m' < r ∧ ∃ f c : Nat, σ2 = [some (.int (c : Int)), some (.int (m' : Int)), some (.int (m : Int)), some (.int (f : Int))] ∧ Ex H H2 ∧ f < m ∧ c < m ∧ m' ≤ k ∧ f * c ^ m' % m = pwm b m k, bk := tRet (tVar 3) (dn Q) } [some (.int (c : Int)), some (.int (r : Int)), some (.int (m : Int)), some (.int (f' : Int))] H5 := fun f' H5 e5 hf' hv' => by
      refine q_asg (v := .int ((c * c % m : Nat) : Int)) (ev_is (ev_op (ev_op (ev_var rfl) (ev_var rfl) (rv_I (cm_l (by omega) (by omega)))) (ev_var rfl) (rv_I mp)) (by rw [mulmod_cast])) fun H6 e6 => ?_
      exact s_asg (v := .int ((r / 2 : Nat) : Int)) (ev_is (ev_op (ev_var rfl) ev_c (rv_I (cdiv_w (by decide) (by decide)))) (by rw [Int.natCast_ediv]; rfl)) fun H7 e7 => ⟨r / 2, by omega, f', c * c % m, rfl, (e5.trans e6).trans e7, hf', Nat.mod_lt _ m1, by omega, hv'⟩
    refine q_when (b := decide (r % 2 = 1)) (et_is (et_test (ev_op (ev_is (ev_op (ev_var rfl) ev_c (rv_I (by decide))) (w := .int ((r % 2 : Nat) : Int)) (by rw [Int.natCast_emod]; rfl)) ev_c (rv_eq rfl))) (nat_dec (r % 2) 1)) (fun hb2 H5 e5 => ?_) fun hb2 H5 e5 => ?_
    · exact s_asg (v := .int ((f * c % m : Nat) : Int)) (ev_is (ev_op (ev_op (ev_var rfl) (ev_var rfl) (rv_I (cm_l (by omega) (by omega)))) (ev_var rfl) (rv_I mp)) (by rw [mulmod_cast])) fun H6 e6 => rest _ _ (((e3.trans e4).trans e5).trans e6) (Nat.mod_lt _ m1) (by rw [rest_odd f c m r (of_decide_eq_true hb2)]; exact hv)
    · exact rest f _ ((e3.trans e4).trans e5) hf (by rw [rest_even f c m r (of_decide_eq_false hb2)]; exact hv)
  · have r0 : r = 0 := by
      have := of_decide_eq_false hb1
      omega
    subst r0
    rw [Nat.pow_zero, Nat.mul_one, Nat.mod_eq_of_lt hf] at hv
    subst hv
    exact s_ret (ev_var rfl) fun H5 e5 => q.go ((e3.trans e4).trans e5)
/-! ### divided_by -/
theorem divL_app : ∀ (l r : List Nat) (m : Nat), divL m (l ++ r) = divL (divL m l) r
  | [], _, _ => rfl
  | q :: l, r, m => divL_app l r (dvo q m)
theorem dvo_pos {q m : Nat} (hq : 2 ≤ q) (h : 1 ≤ m) : 1 ≤ dvo q m ∧ dvo q m ≤ m := by
  obtain ⟨e, h1, h2, h3⟩ := dvo_spec hq m h
  refine ⟨h2, ?_⟩
  have := Nat.le_mul_of_pos_left (dvo q m) (show 0 < q ^ e from Nat.pow_pos (by omega))
  rw [← h1] at this
  exact this
/-- while number % prime == 0: number //= prime -/
theorem q_out {σ : L2.St} {H : Hp} {D : Ends} {i j : Nat} {m p : Nat} (p2 : 2 ≤ p) (m1 : 1 ≤ m) (p4 : p ≤ 4000000000) (ne : i ≠ j) (hi : σ[i]? = some (some (.int (m : Int)))) (hj : σ[j]? = some (some (.int (p : Int)))) (k : ∀ H1, Ex H H1 → D.nx (σ.set i (some (.int ((dvo p m : Nat) : Int)))) H1) :
    tWhile (tTest (tOp rEq (tOp oMod (tVar i) (tVar j)) (tC (.int 0)))) (tAsg (tOp oDiv (tVar i) (tVar j)) (gName i)) D σ H := by
  have il : i < σ.length := (List.getElem?_eq_some_iff.mp hi).1
  refine s_whl (fun c σ' H' => σ' = σ.set i (some (.int (c : Int))) ∧ Ex H H' ∧ 1 ≤ c ∧ dvo p c = dvo p m) m ⟨?_, Ex.refl H, m1, rfl⟩ ?_
  · have e : σ[i] = some (.int (m : Int)) := (List.getElem?_eq_some_iff.mp hi).2
    rw [← e, List.set_getElem_self]
  rintro c σ' H1 ⟨rfl, e1, c1, hd⟩
  have gi : (σ.set i (some (V.int (c : Int))))[i]? = some (some (.int (c : Int))) := by rw [List.getElem?_set_self il]
  have gj : (σ.set i (some (V.int (c : Int))))[j]? = some (some (.int (p : Int))) := by rw [List.getElem?_set_ne ne]; exact hj
  refine ⟨decide (c % p = 0), et_is (et_test (ev_op (ev_op (ev_var gi) (ev_var gj) (rv_I (by omega))) ev_c (rv_eq rfl))) (int_mod_dec c p), fun hb H2 e2 => ?_, fun hb H2 e2 => ?_⟩
  · have z := of_decide_eq_true hb
    have d := Nat.dvd_of_mod_eq_zero z
    have le := Nat.le_of_dvd c1 d
    refine s_asg (v := .int ((c / p : Nat) : Int)) (ev_is (ev_op (ev_var gi) (ev_var gj) (rv_I (cdiv_w (by omega) (by omega)))) (by rw [Int.natCast_ediv])) fun H3 e3 => ⟨c / p, Nat.div_lt_self c1 p2, by rw [List.set_set], (e1.trans e2).trans e3, Nat.div_pos le (by omega), ?_⟩
    rw [← dvo_go p2 c1 z, hd]
  · have z := of_decide_eq_false hb
    rw [dvo_end z] at hd
    rw [hd]
    exact k H2 (e1.trans e2)
theorem pure_divided_by (G : Pm) : P_divided_by G := by
  intro x0 x1 H Q E h
  obtain ⟨m, a, qs, rfl, m1, m4, rfl, hS, hq, q⟩ := h
  have pos : ∀ i, 1 ≤ divL m (qs.take i) ∧ divL m (qs.take i) ≤ m := fun i => by
    have gen : ∀ (l : List Nat) (m : Nat), 1 ≤ m → (∀ q ∈ l, 2 ≤ q) → 1 ≤ divL m l ∧ divL m l ≤ m := fun l => by
      induction l with
      | nil => exact fun m h _ => ⟨h, Nat.le_refl m⟩
      | cons q l ih =>
        intro m h h2
        obtain ⟨d1, d2⟩ := dvo_pos (h2 q List.mem_cons_self) h
        obtain ⟨i1, i2⟩ := ih (dvo q m) d1 fun x hx => h2 x (List.mem_cons_of_mem _ hx)
        exact ⟨i1, Nat.le_trans i2 d2⟩
    exact gen _ m m1 fun q hx => (hq q (List.mem_of_mem_take hx)).1
  refine q_forLn (ev_var rfl) hS (fun i σ' H' => ∃ y2, σ' = [some (.int ((divL m (qs.take i) : Nat) : Int)), some (.ref a), y2] ∧ Ex H H') (fun H1 e1 => ⟨_, rfl, e1⟩) (fun i σ' H' _ p => by
    obtain ⟨y2, _, e⟩ := p
    exact ex_l e hS) ?_ ?_
  · rintro i x σ' H1 hx ⟨y2, rfl, e1⟩
    obtain ⟨u, hu, rfl⟩ := natV_at hx
    obtain ⟨u2, u4⟩ := hq u (List.mem_of_getElem? hu)
    refine q_out u2 (pos i).1 u4 (by decide) rfl rfl fun H2 e2 => ⟨some (.int (u : Int)), ?_, e1.trans e2⟩
    have e : qs.take (i + 1) = qs.take i ++ [u] := by rw [List.take_add_one, hu]; rfl
    rw [e, divL_app]
    rfl
  · rintro σ' H1 ⟨y2, rfl, e1⟩
    rw [natV_len, List.take_length]
    exact s_ret (ev_var rfl) fun H2 e2 => q.go (e1.trans e2)
/-! ### the law's own powers, the least divisor -/
theorem pwm_half (b m k : Nat) : pwm b m (k / 2) * pwm b m (k / 2) * b ^ (k % 2) % m = pwm b m k := by
  unfold pwm
  rw [Nat.mul_mod, ← Nat.mul_mod (b ^ (k / 2)), ← Nat.mul_mod, ← Nat.pow_add, ← Nat.pow_add]
  congr 2
  omega
theorem pure__law_power (G : Pm) : P__law_power G := by
  intro d x0 x1 x2 H Q E h
  obtain ⟨b, k, m, rfl, rfl, rfl, hb, hk, hd, m1, m4, q⟩ := h
  have mp : (0 : Int) < (m : Int) := by omega
  refine q_when (b := decide (k = 0)) (et_is (et_test (ev_op (ev_var rfl) ev_c (rv_eq rfl))) (nat_dec k 0)) (fun hb1 H1 e1 => ?_) fun hb1 H1 e1 => ?_
  · have k0 := of_decide_eq_true hb1
    subst k0
    refine s_ret (v := .int ((1 % m : Nat) : Int)) (ev_is (ev_op ev_c (ev_var rfl) (rv_I mp)) (by rw [Int.natCast_emod]; rfl)) fun H2 e2 => q.go (e1.trans e2)
  · have k0 := of_decide_eq_false hb1
    have hl := pwm_lt (a := b) (m := m) (k := k / 2) m1
    obtain ⟨d', rfl⟩ : ∃ d', d = d' + 1 := by
      cases d with
      | zero => omega
      | succ d => exact ⟨d, rfl⟩
    rw [Nat.pow_succ] at hd
    refine q_asg (v := .int ((pwm b m (k / 2) : Nat) : Int)) (ev_ca3 (ev_var rfl) (ev_is (w := .int ((k / 2 : Nat) : Int)) (ev_op (ev_var rfl) ev_c (rv_I (cdiv_w (by decide) (by decide)))) (by rw [Int.natCast_ediv]; rfl)) (ev_var rfl) fun H2 e2 Q' q' => ⟨b, k / 2, m, rfl, rfl, rfl, hb, by omega, by omega, m1, m4, q'⟩) fun H2 e2 => ?_
    refine s_ret (v := .int ((pwm b m k : Nat) : Int)) ?_ fun H3 e3 => q.go ((e1.trans e2).trans e3)
    have k2 : k % 2 < 2 := Nat.mod_lt _ (by decide)
    have it : Ev (tOp (rIxL G.K) (tLst (tCons (tC (.int 1)) (tCons (tVar 0) tNil))) (tOp oMod (tVar 1) (tC (.int 2)))) [some (.int (b : Int)), some (.int (k : Int)), some (.int (m : Int)), some (.int ((pwm b m (k / 2) : Nat) : Int))] H2 (.int ((b ^ (k % 2) : Nat) : Int)) := by
      refine ev_opL1 (xs := [.int 1, .int (b : Int)]) (el_lst (ea_cons ev_c (ea_cons (ev_var rfl) ea_nil)) (by show 2 ≤ 100000; decide)) (fun H4 _ => ev_is (w := .int ((k % 2 : Nat) : Int)) (ev_op (ev_var rfl) ev_c (rv_I (by decide))) (by rw [Int.natCast_emod]; rfl)) fun p H4 h4 _ => rv_ixL (sq_of h4) (atI_nat ?_)
      rcases Nat.mod_two_eq_zero_or_one k with z | z
      · rw [z]
        rfl
      · rw [z, Nat.pow_one]
        rfl
    have bl : b ^ (k % 2) ≤ 4000000000 := by
      rcases Nat.mod_two_eq_zero_or_one k with z | z
      · rw [z, Nat.pow_zero]
        decide
      · rw [z, Nat.pow_one]
        exact hb
    refine ev_is (ev_op (ev_op (ev_op (ev_var rfl) (ev_var rfl) (rv_I (cm_l (by omega) (by omega)))) it (rv_I (cm_r (by omega) (by omega)))) (ev_var rfl) (rv_I mp)) ?_
    rw [← pwm_half b m k, Int.natCast_emod, Int.natCast_mul, Int.natCast_mul]
theorem LeastD.uniq {n d d' : Nat} (h : LeastD n d) (h' : LeastD n d') : d = d' := Nat.le_antisymm (h.2.2 d' h'.1 h'.2.1) (h'.2.2 d h.1 h.2.1)
theorem pure__law_least (G : Pm) : P__law_least G := by
  intro x0 H Q E h
  obtain ⟨n, rfl, n2, n9, q⟩ := h
  refine q_asg (v := .int ((2 : Nat) : Int)) ev_c fun H1 e1 => ?_
  refine q_whl (fun m σ' H' => ∃ p : Nat, σ' = [some (.int (n : Int)), some (.int (p : Int))] ∧ m = n + 2 - p ∧ Ex H H' ∧ 2 ≤ p ∧ p ≤ 40000 ∧ p ≤ n ∧ ∀ d, 2 ≤ d → d ∣ n → p ≤ d) (n + 2 - 2) ⟨2, rfl, rfl, e1, Nat.le_refl 2, by decide, n2, fun d d2 _ => d2⟩ ?_
  rintro m σ' H2 ⟨p, rfl, rfl, e2, p2, p4, pn, hd⟩
  have hcast : (p : Int) * (p : Int) = ((p * p : Nat) : Int) := (Int.natCast_mul p p).symm
  refine ⟨decide (p * p ≤ n), ?_, fun hb H3 e3 => ?_, fun hb H3 e3 => ?_⟩
  · refine et_is (et_test (ev_op (ev_op (ev_var rfl) (ev_var rfl) (rv_I (cm_l (by omega) (by omega)))) (ev_var rfl) rv_I0)) ?_
    rw [hcast]
    exact le_dec _ _
  · have ppn := of_decide_eq_true hb
    have p5 : p < 40000 := by
      rcases Nat.lt_or_ge p 40000 with z | z
      · exact z
      · have := Nat.mul_le_mul z z
        omega
    have pp : p < p * p := by
      have := Nat.mul_le_mul_right p p2
      omega
    refine q_when (b := decide (n % p = 0)) (et_is (et_test (ev_op (ev_op (ev_var rfl) (ev_var rfl) (rv_I (by omega))) ev_c (rv_eq rfl))) (int_mod_dec n p)) (fun hb2 H4 e4 => ?_) fun hb2 H4 e4 => ?_
    · have d := Nat.dvd_of_mod_eq_zero (of_decide_eq_true hb2)
      exact s_ret (ev_var rfl) fun H5 e5 => (q p ⟨p2, d, hd⟩).go ((e2.trans e3).trans (e4.trans e5))
    · have nd : ¬ p ∣ n := fun z => of_decide_eq_false hb2 (Nat.mod_eq_zero_of_dvd z)
      exact s_asg (v := .int ((p + 1 : Nat) : Int)) (ev_op (ev_var rfl) ev_c rv_I0) fun H5 e5 => ⟨n + 2 - (p + 1), by omega, p + 1, rfl, rfl, (e2.trans e3).trans (e4.trans e5), by omega, by omega, by omega, fun d d2 dn => by
        have := hd d d2 dn
        rcases Nat.lt_or_ge p d with z | z
        · exact z
        · have : d = p := by omega
          exact absurd (this ▸ dn) nd⟩
  · have ppn := of_decide_eq_false hb
    have hP : IsP n := facP n2 hd (by omega)
    exact s_ret (ev_var rfl) fun H4 e4 => (q n ⟨n2, Nat.dvd_refl n, fun e e2 en => by rw [hP.2 e e2 en]; exact Nat.le_refl n⟩).go ((e2.trans e3).trans e4)
end Sv

set_option Elab.async false
set_option linter.all false
set_option maxRecDepth 100000
set_option maxHeartbeats 4000000
namespace Sv
open PySem PySem.Spec PyProof.Rows L2 Evl HotX L2H LamX
local macro_rules | `(tactic| walk_at "ev") => `(tactic| (repeat' (first | exact ev_var rfl | exact ev_c | exact rv_I0 | exact ea_nil | exact ru_neg | exact rv_eq rfl | exact rv_ne rfl | apply ev_op | apply rv_I | apply ev_un | apply et_test | apply et_B | apply et_not | apply ea_cons | apply ev_maxI | apply ev_minI)))
/-! ### papers in the heap -/
inductive Pr2 {A : Type} (R : V → A → Prop) : List V → List A → Prop
  | nil : Pr2 R [] []
  | cons {x : V} {p : A} {xs : List V} {ps : List A} : R x p → Pr2 R xs ps → Pr2 R (x :: xs) (p :: ps)
section
variable {A : Type} {R S : V → A → Prop}
theorem Pr2.imp (h : ∀ x p, R x p → S x p) : ∀ {xs : List V} {ps : List A}, Pr2 R xs ps → Pr2 S xs ps
  | _, _, .nil => .nil
  | _, _, .cons a r => .cons (h _ _ a) (r.imp h)
theorem Pr2.len : ∀ {xs : List V} {ps : List A}, Pr2 R xs ps → xs.length = ps.length
  | _, _, .nil => rfl
  | _, _, .cons _ r => congrArg (· + 1) r.len
theorem Pr2.app : ∀ {xs ys : List V} {ps qs : List A}, Pr2 R xs ps → Pr2 R ys qs → Pr2 R (xs ++ ys) (ps ++ qs)
  | _, _, _, _, .nil, s => s
  | _, _, _, _, .cons h r, s => .cons h (r.app s)
theorem Pr2.take : ∀ {xs : List V} {ps : List A} (i : Nat), Pr2 R xs ps → Pr2 R (xs.take i) (ps.take i)
  | _, _, 0, _ => .nil
  | _, _, _ + 1, .nil => .nil
  | _, _, i + 1, .cons h r => .cons h (r.take i)
theorem Pr2.drop : ∀ {xs : List V} {ps : List A} (i : Nat), Pr2 R xs ps → Pr2 R (xs.drop i) (ps.drop i)
  | _, _, 0, r => r
  | _, _, _ + 1, .nil => .nil
  | _, _, i + 1, .cons _ r => r.drop i
theorem Pr2.rev : ∀ {xs : List V} {ps : List A}, Pr2 R xs ps → Pr2 R xs.reverse ps.reverse
  | _, _, .nil => .nil
  | _, _, .cons h r => by
    rw [List.reverse_cons, List.reverse_cons]
    exact r.rev.app (.cons h .nil)
theorem Pr2.at : ∀ {xs : List V} {ps : List A} {i : Nat} {x : V}, Pr2 R xs ps → xs[i]? = some x → ∃ p, ps[i]? = some p ∧ R x p
  | _, _, _, _, .nil, h => by simp at h
  | _, _, 0, x, .cons (p := p) h r, e => by
    simp at e
    exact ⟨p, rfl, e ▸ h⟩
  | _, _, i + 1, x, .cons h r, e => r.at (by simpa using e)
theorem Pr2.mem : ∀ {xs : List V} {ps : List A} {p : A}, Pr2 R xs ps → p ∈ ps → ∃ x, R x p
  | _, _, _, .nil, h => by cases h
  | _, _, _, .cons (x := x) h r, m => by
    rcases List.mem_cons.mp m with rfl | m
    · exact ⟨x, h⟩
    · exact r.mem m
end
def PapW (ok : Addr → Prop) (H : Hp) : Nat → V → Pap → Prop
  | 0, _, _ => False
  | d + 1, v, P => ∃ p l xs, v = .ref p ∧ H p = some (.tup [.int (P.n : Int), .int (P.b : Int), .ref l]) ∧ ok l ∧ H l = some (.lst xs) ∧ Pr2 (PapW ok H d) xs P.ps
abbrev PapAt (H : Hp) : Nat → V → Pap → Prop := PapW (fun _ => True) H
theorem PapW.ex {ok : Addr → Prop} {H H' : Hp} (e : Ex H H') : ∀ (d : Nat) (v : V) (P : Pap), PapW ok H d v P → PapW ok H' d v P
  | 0, _, _, h => h
  | d + 1, v, P, ⟨p, l, xs, h1, h2, h3, h4, h5⟩ => ⟨p, l, xs, h1, e p _ h2, h3, e l _ h4, h5.imp (PapW.ex e d)⟩
theorem PapW.imp {ok ok' : Addr → Prop} {H : Hp} (e : ∀ l, ok l → ok' l) : ∀ (d : Nat) (v : V) (P : Pap), PapW ok H d v P → PapW ok' H d v P
  | 0, _, _, h => h
  | d + 1, v, P, ⟨p, l, xs, h1, h2, h3, h4, h5⟩ => ⟨p, l, xs, h1, h2, e l h3, h4, h5.imp (PapW.imp e d)⟩
theorem PapW.mut {ok : Addr → Prop} {H : Hp} {D : Addr} {ws : List V} {o : HO} (hD : H D = some (.lst ws)) (ne : ∀ l, ok l → l ≠ D) : ∀ (d : Nat) (v : V) (P : Pap), PapW ok H d v P → PapW ok (upd H D o) d v P
  | 0, _, _, h => h
  | d + 1, v, P, ⟨p, l, xs, h1, h2, h3, h4, h5⟩ => ⟨p, l, xs, h1, by rw [upd_ne (ne_of h2 hD (by intro z; cases z))]; exact h2, h3, by rw [upd_ne (ne l h3)]; exact h4, h5.imp (PapW.mut hD ne d)⟩
theorem PapW.up {ok : Addr → Prop} {H : Hp} : ∀ (d : Nat) (v : V) (P : Pap), PapW ok H d v P → PapW ok H (d + 1) v P
  | 0, _, _, h => h.elim
  | d + 1, v, P, ⟨p, l, xs, h1, h2, h3, h4, h5⟩ => ⟨p, l, xs, h1, h2, h3, h4, h5.imp (PapW.up d)⟩
theorem pap_ps {H H' : Hp} {d : Nat} {xs : List V} {ps : List Pap} (e : Ex H H') (h : Pr2 (PapAt H d) xs ps) : Pr2 (PapAt H' d) xs ps := h.imp (PapW.ex e d)
/-! ### their data -/
def pdt : Nat → Pap → PyData
  | 0, _ => .none
  | d + 1, P => .tuple [.int (P.n : Int), .int (P.b : Int), .list (P.ps.map (pdt d))]
theorem dp_pr {K : PySem.W.Frag} {H : Hp} {A : Type} (f : A → PyData) : ∀ {xs : List V} {ps : List A}, Pr2 (fun v p => Dp K H v (f p)) xs ps → DpAll K H xs (ps.map f)
  | _, _, .nil => .nil
  | _, _, .cons h r => .cons h (dp_pr f r)
theorem pap_dp {K : PySem.W.Frag} {H : Hp} : ∀ (d : Nat) (v : V) (P : Pap), PapAt H d v P → Dp K H v (pdt d P)
  | 0, _, _, h => h.elim
  | d + 1, v, P, ⟨p, l, xs, h1, h2, h3, h4, h5⟩ => by
    subst h1
    exact .tup (st_of h2) (.cons (.int _) (.cons (.int _) (.cons (.lst (sq_of h4) (dp_pr (pdt d) (h5.imp (pap_dp d)))) .nil)))
theorem can_map {A : Type} (f : A → PyData) (h : ∀ a, PyData.canLay0 (f a) = true) : ∀ ps : List A, PyData.canLayAll0 (ps.map f) = true
  | [] => by simp [PyData.canLayAll0]
  | p :: ps => by simp [PyData.canLayAll0, h p, can_map f h ps]
theorem dep_map {A : Type} (f : A → PyData) (n : Nat) (h : ∀ a, PyData.depth (f a) ≤ n) : ∀ ps : List A, PyData.depthAll (ps.map f) ≤ n
  | [] => by simp [PyData.depthAll]
  | p :: ps => by
    have := dep_map f n h ps
    have := h p
    simp [PyData.depthAll]
    omega
theorem can_pdt : ∀ (d : Nat) (P : Pap), PyData.canLay0 (pdt d P) = true
  | 0, _ => by simp [pdt, PyData.canLay0]
  | d + 1, P => by simp [pdt, PyData.canLay0, PyData.canLayAll0, can_map (pdt d) (can_pdt d)]
theorem dep_pdt : ∀ (d : Nat) (P : Pap), PyData.depth (pdt d P) ≤ 2 * d
  | 0, _ => by simp [pdt, PyData.depth]
  | d + 1, P => by
    have := dep_map (pdt d) (2 * d) (dep_pdt d) P.ps
    simp [pdt, PyData.depth, PyData.depthAll]
    omega
theorem sh_pl {d : Nat} (hd : d ≤ 30) (ps : List Pap) : SeqAt.shaped (.list (ps.map (pdt d))) = true := by
  have := dep_map (pdt d) (2 * d) (dep_pdt d) ps
  simp [SeqAt.shaped, PyData.canLay0, PyData.depth, can_map (pdt d) (can_pdt d)]
  omega
theorem eqv_nil {A : Type} (f : A → PyData) (ps : List A) : PyData.eqv (.list (ps.map f)) (.list []) = ps.isEmpty := by
  cases ps with
  | nil => simp [PyData.eqv, PyData.eqvAll]
  | cons a l => simp [PyData.eqv, PyData.eqvAll]
/-! ### the specs -/
def R_shows (_ : Pm) : Nat → R1
  | 0 => fun _ _ _ _ => False
  | d + 1 => fun x H Q _ => d + 1 ≤ 30 ∧ ∃ P, PapAt H (d + 1) x P ∧ szP (d + 1) P ∧ RetV (.bl (shB (d + 1) P)) H Q
def R__law_shows (_ : Pm) : Nat → R1
  | 0 => fun _ _ _ _ => False
  | d + 1 => fun x H Q _ => d + 1 ≤ 30 ∧ ∃ P, PapAt H (d + 1) x P ∧ szP (d + 1) P ∧ RetV (.bl (shB (d + 1) P)) H Q
def R_paper_of (_ : Pm) : Nat → R1
  | 0 => fun _ _ _ _ => False
  | d + 1 => fun x H Q _ => ∃ p : Nat, x = .int (p : Int) ∧ IsP p ∧ p ≤ 1000000000 ∧ p ≤ 2 ^ (d + 1) ∧ ∀ v H2, Ex H H2 → PapW (fun l => H l = none) H2 (d + 1) v (paper (d + 1) p) → Q v H2
def R_prime_or_parts (G : Pm) : R1 := fun x H Q E =>
  (∃ n : Nat, x = .int (n : Int) ∧ 2 ≤ n ∧ n ≤ 1000000000 ∧ (∀ d, LeastD n d → d < n → RetU [.str "parts", .int (d : Int)] H Q) ∧ (IsP n → ∀ v p H2, Ex H H2 → PapAt H2 30 v (paper 30 n) → H2 p = some (.tup [.str "prime", v]) → Q (.ref p) H2)) ∨
  (NumBad x 2 1000000000 ∧ No G.BadNumber H E)
def R__law_bent (_ : Pm) : R2' := fun x y H Q _ => ∃ (P : Pap) (m : Int), y = .int m ∧ 0 ≤ m ∧ PapAt H 30 x P ∧ szP 30 P ∧ P.n ≤ 1000000000 ∧ P.b ≤ 1000000000 ∧ P.ps.length ≤ 100 ∧ ∀ v P' H2, Ex H H2 → PapAt H2 30 v P' → szP 30 P' → Q v H2
abbrev n_shows : List Str := ["paper", "number", "base", "papers", "primes", "one", "other", "prime"]
abbrev p_shows : List Str := ["paper"]
def sp_shows (G : Pm) (d : Nat) : Sp := sp1 (R_shows G d)
def t_shows (G : Pm) (d : Nat) (E : XK) : TS :=
  (tSeq (tAsg (tVar 0) (gTup G.K 3 (gCons (gName 1) (gCons (gName 2) (gCons (gName 3) gNil)))))
  (tSeq (tIfS (tTest (tOp rEq (tVar 1) (tC (.int 2))))
  (tRet (tAndV (tOp rEq (tVar 2) (tC (.int 1))) (tOp (rEqD G.K) (tVar 3) (tLst tNil))))
  tNext)
  (tSeq (tIfS (tOr (tTest (tOp cLt (tVar 1) (tC (.int 3)))) (tOr (tTest (tOp rEq (tOp oMod (tVar 1) (tC (.int 2))) (tC (.int 0)))) (tNot (tB (tCB (rAll G.K) (tCons (tLc (iList G.K (tVar 3)) (gName 5) tYes (tCall (sp_shows G d) [] E0 (tCons (tVar 5) tNil)) [5]) tNil))))))
  (tRet (tC (.bl false)))
  tNext)
  (tSeq (tAsg (tLc (iList G.K (tVar 3)) (gName 5) tYes (tOp (rIxT G.K) (tVar 5) (tC (.int 0))) [5]) (gName 4))
  (tSeq (tIfS (tNot (tB (tCB (rAll G.K) (tCons (tLc (iZip G.K (tCons (tVar 4) (tCons (tSl (rSlL G.K) (tVar 4) (tPart (tC (.int 1))) tNoPart) tNil))) (gTup G.K 2 (gCons (gName 5) (gCons (gName 6) gNil))) tYes (tOp cLt (tVar 5) (tVar 6)) [5, 6]) tNil))))
  (tRet (tC (.bl false)))
  tNext)
  (tSeq (tIfS (tOr (tNot (tB (tCB (rAll G.K) (tCons (tLc (iList G.K (tVar 4)) (gName 7) tYes (tOp rEq (tOp oMod (tOp oSub (tVar 1) (tC (.int 1))) (tVar 7)) (tC (.int 0))) [7]) tNil)))) (tTest (tOp rNe (tCall (sp_divided_by G) [] E (tCons (tOp oSub (tVar 1) (tC (.int 1))) (tCons (tVar 4) tNil))) (tC (.int 1)))))
  (tRet (tC (.bl false)))
  tNext)
  (tSeq (tIfS (tTest (tOp rNe (tCall (sp_rest_of G) [] E (tCons (tVar 2) (tCons (tOp oSub (tVar 1) (tC (.int 1))) (tCons (tVar 1) tNil)))) (tC (.int 1))))
  (tRet (tC (.bl false)))
  tNext)
  (tRet (tCB (rAll G.K) (tCons (tLc (iList G.K (tVar 4)) (gName 7) tYes (tOp rNe (tCall (sp_rest_of G) [] E0 (tCons (tVar 2) (tCons (tOp oDiv (tOp oSub (tVar 1) (tC (.int 1))) (tVar 7)) (tCons (tVar 1) tNil)))) (tC (.int 1))) [7]) tNil))))))))))
def P_shows (G : Pm) : Prop := ∀ d x0 H Q E, R_shows G (d + 1) x0 H Q E → t_shows G d E (dn Q) (start n_shows [x0]) H
abbrev n_paper_of : List Str := ["number", "primes", "base", "prime", "often"]
abbrev p_paper_of : List Str := ["number"]
def sp_paper_of (G : Pm) (d : Nat) : Sp := sp1 (R_paper_of G d)
def t_paper_of (G : Pm) (d : Nat) (E : XK) : TS :=
  (tSeq (tIfS (tTest (tOp rEq (tVar 0) (tC (.int 2))))
  (tRet (tTup (tCons (tC (.int 2)) (tCons (tC (.int 1)) (tCons (tLst tNil) tNil)))))
  tNext)
  (tSeq (tAsg (tLc (iList G.K (tCall (sp_apart G) [] E (tCons (tOp oSub (tVar 0) (tC (.int 1))) tNil))) (gTup G.K 2 (gCons (gName 3) (gCons (gName 4) gNil))) tYes (tVar 3) [3, 4]) (gName 1))
  (tSeq (tAsg (tC (.int 1)) (gName 2))
  (tSeq (tWhile (tNot (tB (tCB (rAll G.K) (tCons (tLc (iList G.K (tVar 1)) (gName 3) tYes (tOp rNe (tCall (sp_rest_of G) [] E0 (tCons (tVar 2) (tCons (tOp oDiv (tOp oSub (tVar 0) (tC (.int 1))) (tVar 3)) (tCons (tVar 0) tNil)))) (tC (.int 1))) [3]) tNil))))
  (tAsg (tOp oAdd (tVar 2) (tC (.int 1))) (gName 2)))
  (tRet (tTup (tCons (tVar 0) (tCons (tVar 2) (tCons (tLc (iList G.K (tVar 1)) (gName 3) tYes (tCall (sp_paper_of G d) [] E0 (tCons (tVar 3) tNil)) [3]) tNil)))))))))
def P_paper_of (G : Pm) : Prop := ∀ d x0 H Q E, R_paper_of G (d + 1) x0 H Q E → t_paper_of G d E (dn Q) (start n_paper_of [x0]) H
abbrev n_prime_or_parts : List Str := ["number", "pairs"]
abbrev p_prime_or_parts : List Str := ["number"]
def sp_prime_or_parts (G : Pm) : Sp := sp1 (R_prime_or_parts G)
def t_prime_or_parts (G : Pm) (E : XK) : TS :=
  (tSeq (tDrop (tCall (sp_need_number G) [] E (tCons (tVar 0) (tCons (tC (.int 2)) (tCons (tC (.int 1000000000)) tNil)))))
  (tSeq (tAsg (tCall (sp_apart G) [] E (tCons (tVar 0) tNil)) (gName 1))
  (tSeq (tIfS (tTest (tOp cLt (tOp (rIxT G.K) (tOp (rIxL G.K) (tVar 1) (tC (.int 0))) (tC (.int 0))) (tVar 0)))
  (tRet (tTup (tCons (tC (.str "parts")) (tCons (tOp (rIxT G.K) (tOp (rIxL G.K) (tVar 1) (tC (.int 0))) (tC (.int 0))) tNil))))
  tNext)
  (tRet (tTup (tCons (tC (.str "prime")) (tCons (tCall (sp_paper_of G 30) [] E (tCons (tVar 0) tNil)) tNil)))))))
def P_prime_or_parts (G : Pm) : Prop := ∀ x0 H Q E, R_prime_or_parts G x0 H Q E → t_prime_or_parts G E (dn Q) (start n_prime_or_parts [x0]) H
abbrev n__law_shows : List Str := ["_law_paper", "_law_number", "_law_base", "_law_some", "_law_left", "_law_ahead", "_law_one"]
abbrev p__law_shows : List Str := ["_law_paper"]
def sp__law_shows (G : Pm) (d : Nat) : Sp := sp1 (R__law_shows G d)
def t__law_shows (G : Pm) (d : Nat) (E : XK) : TS :=
  (tSeq (tAsg (tVar 0) (gTup G.K 3 (gCons (gName 1) (gCons (gName 2) (gCons (gName 3) gNil)))))
  (tSeq (tIfS (tTest (tOp rEq (tVar 1) (tC (.int 2))))
  (tRet (tAndV (tOp rEq (tVar 2) (tC (.int 1))) (tOp (rEqD G.K) (tVar 3) (tLst tNil))))
  tNext)
  (tSeq (tIfS (tOr (tTest (tOp cLt (tVar 1) (tC (.int 3)))) (tTest (tOp rEq (tOp oMod (tVar 1) (tC (.int 2))) (tC (.int 0)))))
  (tRet (tC (.bl false)))
  tNext)
  (tSeq (tAsg (tOp oSub (tVar 1) (tC (.int 1))) (gName 4))
  (tSeq (tAsg (tC (.int 0)) (gName 5))
  (tSeq (tFor (iList G.K (tVar 3)) (gName 6)
  (tSeq (tIfS (tOr (tNot (tB (tCall (sp__law_shows G d) [] E (tCons (tVar 6) tNil)))) (tOr (tTest (tOp cLe (tOp (rIxT G.K) (tVar 6) (tC (.int 0))) (tVar 5))) (tTest (tOp rNe (tOp oMod (tVar 4) (tOp (rIxT G.K) (tVar 6) (tC (.int 0)))) (tC (.int 0))))))
  (tRet (tC (.bl false)))
  tNext)
  (tSeq (tIfS (tTest (tOp rEq (tCall (sp__law_power G 40) [] E (tCons (tVar 2) (tCons (tOp oDiv (tOp oSub (tVar 1) (tC (.int 1))) (tOp (rIxT G.K) (tVar 6) (tC (.int 0)))) (tCons (tVar 1) tNil)))) (tC (.int 1))))
  (tRet (tC (.bl false)))
  tNext)
  (tSeq (tAsg (tOp (rIxT G.K) (tVar 6) (tC (.int 0))) (gName 5))
  (tWhile (tTest (tOp rEq (tOp oMod (tVar 4) (tVar 5)) (tC (.int 0))))
  (tAsg (tOp oDiv (tVar 4) (tVar 5)) (gName 4)))))))
  (tRet (tAndV (tOp rEq (tVar 4) (tC (.int 1))) (tOp rEq (tCall (sp__law_power G 40) [] E (tCons (tVar 2) (tCons (tOp oSub (tVar 1) (tC (.int 1))) (tCons (tVar 1) tNil)))) (tC (.int 1)))))))))))
def P__law_shows (G : Pm) : Prop := ∀ d x0 H Q E, R__law_shows G (d + 1) x0 H Q E → t__law_shows G d E (dn Q) (start n__law_shows [x0]) H
abbrev n__law_bent : List Str := ["_law_paper", "_law_more", "_law_number", "_law_base", "_law_some", "_law_at", "_law_row"]
abbrev p__law_bent : List Str := ["_law_paper", "_law_more"]
def sp__law_bent (G : Pm) : Sp := sp2 (R__law_bent G)
def t__law_bent (G : Pm) (E : XK) : TS :=
  (tSeq (tAsg (tVar 0) (gTup G.K 3 (gCons (gName 2) (gCons (gName 3) (gCons (gName 4) gNil)))))
  (tSeq (tAsg (tOp oMod (tVar 1) (tCB bMax2 (tCons (tC (.int 1)) (tCons (tCB (bLenQ G.K) (tCons (tVar 4) tNil)) tNil)))) (gName 5))
  (tSeq (tAsg (tLst (tCons (tTup (tCons (tVar 2) (tCons (tOp oAdd (tOp oAdd (tVar 3) (tC (.int 1))) (tOp oMod (tOp oDiv (tVar 1) (tC (.int 8))) (tC (.int 3)))) (tCons (tVar 4) tNil)))) tNil)) (gName 6))
  (tSeq (tAsg (tOp rCat (tVar 6) (tLst (tCons (tTup (tCons (tVar 2) (tCons (tVar 3) (tCons (tOp rCat (tSl (rSlL G.K) (tVar 4) tNoPart (tPart (tVar 5))) (tSl (rSlL G.K) (tVar 4) (tPart (tOp oAdd (tVar 5) (tC (.int 1)))) tNoPart)) tNil)))) (tCons (tTup (tCons (tVar 2) (tCons (tVar 3) (tCons (tOp rCat (tVar 4) (tSl (rSlL G.K) (tVar 4) tNoPart (tPart (tC (.int 1))))) tNil)))) tNil)))) (gName 6))
  (tSeq (tAsg (tOp rCat (tVar 6) (tLst (tCons (tTup (tCons (tOp oAdd (tVar 2) (tC (.int 2))) (tCons (tVar 3) (tCons (tVar 4) tNil)))) (tCons (tTup (tCons (tVar 2) (tCons (tC (.int 1)) (tCons (tVar 4) tNil)))) (tCons (tTup (tCons (tVar 2) (tCons (tVar 3) (tCons (tRevL G.K (tVar 4)) tNil)))) tNil))))) (gName 6))
  (tSeq (tAsg (tOp rCat (tVar 6) (tLst (tCons (tTup (tCons (tC (.int 9)) (tCons (tC (.int 2)) (tCons (tLst (tCons (tTup (tCons (tC (.int 2)) (tCons (tC (.int 1)) (tCons (tLst tNil) tNil)))) tNil)) tNil)))) (tCons (tTup (tCons (tC (.int 2)) (tCons (tC (.int 1)) (tCons (tVar 4) tNil)))) tNil)))) (gName 6))
  (tSeq (tAsg (tOp rCat (tVar 6) (tLst (tCons (tTup (tCons (tOp oMul (tVar 2) (tC (.int 3))) (tCons (tVar 3) (tCons (tVar 4) tNil)))) (tCons (tTup (tCons (tC (.int 1)) (tCons (tC (.int 1)) (tCons (tLst tNil) tNil)))) tNil)))) (gName 6))
  (tSeq (tAsg (tOp rCat (tVar 6) (tLst (tCons (tTup (tCons (tVar 2) (tCons (tVar 3) (tCons (tOp rCat (tOp rCat (tSl (rSlL G.K) (tVar 4) tNoPart (tPart (tVar 5))) (tLst (tCons (tTup (tCons (tC (.int 4)) (tCons (tC (.int 3)) (tCons (tLst (tCons (tTup (tCons (tC (.int 3)) (tCons (tC (.int 2)) (tCons (tLst (tCons (tTup (tCons (tC (.int 2)) (tCons (tC (.int 1)) (tCons (tLst tNil) tNil)))) tNil)) tNil)))) tNil)) tNil)))) tNil))) (tSl (rSlL G.K) (tVar 4) (tPart (tOp oAdd (tVar 5) (tC (.int 1)))) tNoPart)) tNil)))) tNil))) (gName 6))
  (tRet (tOp (rIxL G.K) (tVar 6) (tOp oMod (tOp oDiv (tVar 1) (tC (.int 64))) (tC (.int 11)))))))))))))
def P__law_bent (G : Pm) : Prop := ∀ x0 x1 H Q E, R__law_bent G x0 x1 H Q E → t__law_bent G E (dn Q) (start n__law_bent [x0, x1]) H
theorem sh_2 {d : Nat} {P : Pap} (h : P.n = 2) : shB (d + 1) P = (decide (P.b = 1) && P.ps.isEmpty) := by rw [shB, if_pos h]
theorem sh_eq {d : Nat} {P : Pap} (h2 : P.n ≠ 2) : shB (d + 1) P = (!(decide (P.n < 3) || (decide (P.n % 2 = 0) || !(P.ps.all (shB d)))) && (!(!rise (P.ps.map Pap.n)) && (!(!((P.ps.map Pap.n).all fun q => decide ((P.n - 1) % q = 0)) || !decide (divL (P.n - 1) (P.ps.map Pap.n) = 1)) && (!(!decide (pwm P.b P.n (P.n - 1) = 1)) && baseOk P.n P.b (P.ps.map Pap.n))))) := by
  have a : decide (3 ≤ P.n) = !decide (P.n < 3) := by
    by_cases z : P.n < 3
    · rw [decide_eq_true z, decide_eq_false (by omega)]
      rfl
    · rw [decide_eq_false z, decide_eq_true (by omega)]
      rfl
  rw [shB, if_neg h2, a]
  simp only [Bool.not_or, Bool.not_not, Bool.and_assoc]
section
variable {K : PySem.W.Frag} {G : Pm} {σ : L2.St} {H H' : Hp} {ta tb tc te tl t1 t2 : TE} {x y : V} {a l : Addr} {xs ys : List V} {d n b : Nat} {P : Pap} {ps qs : List Pap} {E : XK} {D : Ends} {tz : TS} {i j : Nat}
theorem q_tup3 {i j k : Nat} {u v w : V} {p : Addr} (h : Ev te σ H (.ref p)) (hp : SqT K H p [u, v, w]) (k1 : ∀ H1, Ex H H1 → tz D (((σ.set i (some u)).set j (some v)).set k (some w)) H1) : tSeq (tAsg te (gTup K 3 (gCons (gName i) (gCons (gName j) (gCons (gName k) gNil))))) tz D σ H :=
  h H (Ex.refl H) _ fun H1 e => g_tup3 (ex_t e hp) (k1 H1 e)
theorem sub_shows (hd : d + 1 ≤ 30) (h : PapAt H d x P) (s : szP d P) (ha : Ev ta σ H x) : Ev (tCall (sp_shows G d) [] E (tCons ta tNil)) σ H (.bl (shB d P)) := by
  cases d with
  | zero => exact h.elim
  | succ d => exact ev_ca1 ha fun H1 e1 Q' q' => ⟨by omega, P, h.ex e1, s, q'⟩
theorem sub_law (hd : d + 1 ≤ 30) (h : PapAt H d x P) (s : szP d P) (ha : Ev ta σ H x) : Ev (tCall (sp__law_shows G d) [] E (tCons ta tNil)) σ H (.bl (shB d P)) := by
  cases d with
  | zero => exact h.elim
  | succ d => exact ev_ca1 ha fun H1 e1 Q' q' => ⟨by omega, P, h.ex e1, s, q'⟩
theorem sz_n (h : PapAt H d x P) (s : szP d P) : P.n ≤ 4000000000 := by
  cases d with
  | zero => exact h.elim
  | succ d => exact s.1
theorem pap_n (h : PapAt H d x P) (ha : Ev ta σ H x) : Ev (tOp (rIxT K) ta (tC (.int 0))) σ H (.int (P.n : Int)) := by
  cases d with
  | zero => exact h.elim
  | succ d =>
    obtain ⟨p, l, xs, rfl, h2, _, _, _⟩ := h
    exact ev_op ha ev_c (rv_ixT (st_of h2) (atI_nat (j := 0) rfl))
/-- [e for x, y in zip(xs, new ys) if t] -/
theorem el_lcZ {j1 j2 : Nat} {vs : List Nat} {u : TT} (f : Nat → Bool) (v : Nat → V) (n : Nat) (h1 : Ev t1 σ H (.ref a)) (hx : SqL K H a xs) (h2 : EvL t2 σ H ys) (hn : n = min xs.length ys.length) (hz : n ≤ 40000) (hw : ∀ x y, wipe (((wipe σ vs).set j1 (some x)).set j2 (some y)) vs = wipe σ vs)
    (ht : ∀ (i : Nat) (x y : V) H1, Ex H H1 → xs[i]? = some x → ys[i]? = some y → EvT u (((wipe σ vs).set j1 (some x)).set j2 (some y)) H1 (f i)) (he : ∀ (i : Nat) (x y : V) H1, Ex H H1 → xs[i]? = some x → ys[i]? = some y → f i = true → Ev te (((wipe σ vs).set j1 (some x)).set j2 (some y)) H1 (v i)) :
    EvL (tLc (iZip K (tCons t1 (tCons t2 tNil))) (gTup K 2 (gCons (gName j1) (gCons (gName j2) gNil))) u te vs) σ H (given n f v) := fun H0 e Q q => h1 H0 e _ fun H1 e1 => h2 H1 (e.trans e1) _ fun b H2 _ e2 hb => ⟨a, b, xs, ys, rfl, ex_l ((e.trans e1).trans e2) hx, sq_of hb, fun Dl hD => by
  have e02 := (e.trans e1).trans e2
  refine ⟨fun i m H' => m = n - i ∧ i ≤ n ∧ Cw H2 f v Dl i H', ⟨n, by simp, Nat.zero_le _, hD, Ex.new hD, upd_same⟩, ?_⟩
  rintro i m H' ⟨rfl, hi, p⟩
  have qa := ex_l (e02.trans p.2.1) hx
  have qb : SqL K H' b ys := sq_of (p.2.1 b _ hb)
  by_cases hlt : i < n
  · have la : i < xs.length := by omega
    have lb : i < ys.length := by omega
    refine .inr ⟨⟨xs, ys, xs[i], ys[i], qa, qb, by simp [la], by simp [lb]⟩, Cw H2 f v Dl (i + 1), fun H3 p' => ⟨n - (i + 1), by omega, rfl, hlt, p'⟩, fun x H3 y => ?_⟩
    obtain ⟨T0, x0, y0, rfl, hT, rfl, hx0, hy0⟩ := y
    have hi0 := hx0 xs qa
    have hj0 := hy0 ys qb
    have p2 : Cw H2 f v Dl i (upd H' T0 (.tup [x0, y0])) := ⟨p.1, p.2.1.trans (Ex.new hT), by
      rw [upd_ne (ne_of_none p.2.2 hT)]
      exact p.2.2⟩
    exact g_tup2 (st_of upd_same) ⟨hw _ _, cw_turn p2 (by omega) (ht i x0 y0 H2 e02 hi0 hj0) fun hf => he i x0 y0 H2 e02 hi0 hj0 hf⟩
  · have ei : i = n := by omega
    subst ei
    refine .inl ⟨⟨xs, ys, qa, qb, ?_⟩, q Dl H' (fresh_back (e1.trans e2) p.1) ((e1.trans e2).trans p.2.1) p.2.2⟩
    omega⟩
theorem rise_zip : ∀ qs : List Nat, ((List.range (qs.length - 1)).map fun i => decide (qs.getD i 0 < qs.getD (i + 1) 0)).all id = rise qs
  | [] => rfl
  | [_] => rfl
  | a :: b :: l => by
    have ih := rise_zip (b :: l)
    show ((List.range (l.length + 1)).map fun i => decide ((a :: b :: l).getD i 0 < (a :: b :: l).getD (i + 1) 0)).all id = (decide (a < b) && rise (b :: l))
    rw [← ih, List.range_succ_eq_map, List.map_cons, List.all_cons, List.map_map]
    rfl
theorem natV_at' {l : List Nat} {i u : Nat} (h : l[i]? = some u) : (natV l)[i]? = some (.int (u : Int)) := by
  unfold natV
  rw [List.getElem?_map, h]
  rfl
theorem all_id {A : Type} (f : A → Bool) (l : List A) : (l.map f).all id = l.all f := by
  rw [List.all_map]
  rfl
/-- a truth of each number of a list -/
theorem el_nat {vs : List Nat} (f : Nat → Bool) (qs : List Nat) (h : Ev tl σ H (.ref a)) (hx : SqL K H a (natV qs)) (hz : qs.length ≤ 40000) (hw : ∀ x, wipe ((wipe σ vs).set j (some x)) vs = wipe σ vs)
    (he : ∀ u ∈ qs, ∀ H1, Ex H H1 → Ev te ((wipe σ vs).set j (some (.int (u : Int)))) H1 (.bl (f u))) : EvL (tLc (iList K tl) (gName j) tYes te vs) σ H ((qs.map f).map V.bl) :=
  el_mapL ((qs.map f).map V.bl) h hx (by rw [natV_len]; simp) (by rw [natV_len]; exact hz) hw fun i x y H1 e1 hi hy => by
    obtain ⟨u, hu, rfl⟩ := natV_at hi
    rw [List.getElem?_map, List.getElem?_map, hu] at hy
    cases hy
    exact he u (List.mem_of_getElem? hu) H1 e1
theorem ev_ne1 {k : Nat} (h : Ev te σ H (.int (k : Int))) : Ev (tOp rNe te (tC (.int 1))) σ H (.bl (!decide (k = 1))) := ev_is (ev_op h ev_c (rv_ne rfl)) (congrArg (fun z => V.bl (!z)) (nat_dec k 1))
theorem ev_eq1 {k : Nat} (h : Ev te σ H (.int (k : Int))) : Ev (tOp rEq te (tC (.int 1))) σ H (.bl (decide (k = 1))) := ev_is (ev_op h ev_c (rv_eq rfl)) (congrArg V.bl (nat_dec k 1))
theorem ev_sub1 {k : Nat} (h1 : 1 ≤ k) (h : Ev te σ H (.int (k : Int))) : Ev (tOp oSub te (tC (.int 1))) σ H (.int ((k - 1 : Nat) : Int)) := ev_is (ev_op h ev_c rv_I0) (by rw [sub1_cast h1])
theorem ev_divN {u v : Nat} (h : Ev ta σ H (.int (u : Int))) (h2 : Ev tb σ H (.int (v : Int))) (h0 : 0 < v) (hl : v ≤ 4000000000) : Ev (tOp oDiv ta tb) σ H (.int ((u / v : Nat) : Int)) := ev_is (ev_op h h2 (rv_I (cdiv_w (by omega) (by omega)))) (by rw [Int.natCast_ediv])
theorem ev_modN {u v : Nat} (h : Ev ta σ H (.int (u : Int))) (h2 : Ev tb σ H (.int (v : Int))) (h0 : 0 < v) : Ev (tOp oMod ta tb) σ H (.int ((u % v : Nat) : Int)) := ev_is (ev_op h h2 (rv_I (by omega))) (by rw [Int.natCast_emod])
theorem ev_eq0 {k : Nat} (h : Ev te σ H (.int (k : Int))) : Ev (tOp rEq te (tC (.int 0))) σ H (.bl (decide (k = 0))) := ev_is (ev_op h ev_c (rv_eq rfl)) (congrArg V.bl (nat_dec k 0))
theorem ev_ne0 {k : Nat} (h : Ev te σ H (.int (k : Int))) : Ev (tOp rNe te (tC (.int 0))) σ H (.bl (!decide (k = 0))) := ev_is (ev_op h ev_c (rv_ne rfl)) (congrArg (fun z => V.bl (!z)) (nat_dec k 0))
/-- papers == [] -/
theorem ev_none {E : XK} (hd : d ≤ 30) (h : Ev ta σ H (.ref l)) (hl : H l = some (.lst xs)) (hx : Pr2 (PapAt H d) xs ps) : Ev (tOp (rEqD K) ta (tLst tNil)) σ H (.bl ps.isEmpty) :=
  ev_is (ev_opL h (el_lst ea_nil (Nat.zero_le _)) fun p H1 h1 e1 => rv_eqD (d := .list (ps.map (pdt d))) (.lst (sq_of (e1 l _ hl)) (dp_pr (pdt d) ((pap_ps e1 hx).imp (pap_dp d)))) (dp_il (ns := []) (sq_of h1)) (sh_pl hd ps) (sh_il _)) (congrArg V.bl (eqv_nil (pdt d) ps))
end
theorem pure_shows (G : Pm) : P_shows G := by
  intro d x0 H Q E h
  obtain ⟨hd, P, ⟨p, l, xs, rfl, hp, _, hl, hx⟩, ⟨s1, s2, s3, s4⟩, q⟩ := h
  refine q_tup3 (ev_var rfl) (st_of hp) fun H1 e1 => ?_
  refine q_when (b := decide (P.n = 2)) (et_is (et_test (ev_op (ev_var rfl) ev_c (rv_eq rfl))) (nat_dec P.n 2)) (fun hb H2 e2 => ?_) fun hb H2 e2 => ?_
  · refine s_ret (ev_andV (ev_eq1 (ev_var rfl)) fun _ => ev_none (E := E) (by omega) (ev_var rfl) ((e1.trans e2) l _ hl) (pap_ps (e1.trans e2) hx)) fun H3 e3 => ?_
    have := q.go ((e1.trans e2).trans e3)
    rw [sh_2 (of_decide_eq_true hb)] at this
    exact this
  have n2 := of_decide_eq_false hb
  have E0 := sh_eq (d := d) n2
  have hx2 := pap_ps (e1.trans e2) hx
  have hl2 := (e1.trans e2) l _ hl
  have xl := hx.len
  refine q_when (b := decide (P.n < 3) || (decide (P.n % 2 = 0) || !(P.ps.all (shB d)))) (et_or (et_is (et_test (ev_op (ev_var rfl) ev_c rv_I0)) (lt_dec P.n 3)) fun _ => et_or (et_test (ev_eq0 (ev_modN (v := 2) (ev_var rfl) ev_c (by decide)))) fun _ => et_not (et_B (ev_is (ev_allN (bs := P.ps.map (shB d)) (el_mapL ((P.ps.map (shB d)).map V.bl) (ev_var rfl) (sq_of hl2) (by simp [xl]) (by omega) (fun x => rfl) fun i x y H3 e3 hi hy => ?_)) (congrArg V.bl (all_id _ _))))) (fun hb1 H3 e3 => ?_) fun hb1 H3 e3 => ?_
  · obtain ⟨pp, h1, h2⟩ := hx2.at hi
    rw [List.getElem?_map, List.getElem?_map, h1] at hy
    cases hy
    exact sub_shows hd (h2.ex e3) (s4 pp (List.mem_of_getElem? h1)) (ev_var rfl)
  · refine s_ret ev_c fun H4 e4 => ?_
    have := q.go ((e1.trans e2).trans (e3.trans e4))
    rw [E0, hb1] at this
    exact this
  rw [hb1] at E0
  have ⟨g1, g2, g3⟩ : ¬ P.n < 3 ∧ ¬ P.n % 2 = 0 ∧ P.ps.all (shB d) = true := by
    rw [Bool.or_eq_false_iff, Bool.or_eq_false_iff, Bool.not_eq_false'] at hb1
    exact ⟨of_decide_eq_false hb1.1, of_decide_eq_false hb1.2.1, hb1.2.2⟩
  have hx3 := pap_ps e3 hx2
  have hl3 := e3 l _ hl2
  have hq4 : ∀ u ∈ P.ps.map Pap.n, 2 ≤ u ∧ u ≤ 4000000000 := fun u hu => by
    obtain ⟨pp, h1, rfl⟩ := List.mem_map.mp hu
    obtain ⟨x, h2⟩ := hx.mem h1
    exact ⟨(sh_prime d pp (List.all_eq_true.mp g3 pp h1)).1, sz_n h2 (s4 pp h1)⟩
  have ql : (P.ps.map Pap.n).length = P.ps.length := List.length_map ..
  refine q_asgL (xs := natV (P.ps.map Pap.n)) (el_mapL _ (ev_var rfl) (sq_of hl3) (by rw [natV_len, ql, xl]) (by omega) (fun x => rfl) fun i x y H4 e4 hi hy => ?_) fun pl H4 _ e4 h4 => ?_
  · obtain ⟨pp, h1, h2⟩ := hx3.at hi
    obtain ⟨u, hu, rfl⟩ := natV_at hy
    rw [List.getElem?_map, h1] at hu
    cases hu
    exact pap_n (h2.ex e4) (ev_var rfl)
  generalize hqs : P.ps.map Pap.n = qs at *
  refine q_when (b := !rise qs) (et_not (et_B (ev_is (ev_allN (bs := (List.range (qs.length - 1)).map fun i => decide (qs.getD i 0 < qs.getD (i + 1) 0)) (el_eq (el_lcZ (fun _ => true) (fun i => V.bl (decide (qs.getD i 0 < qs.getD (i + 1) 0))) (qs.length - 1) (ev_var rfl) (sq_of h4) (el_from1 (ev_var rfl) (sq_of h4)) (by rw [List.length_drop, natV_len]; omega) (by omega) (fun x y => rfl) (fun _ _ _ _ _ _ _ => et_yes) fun i x y H5 e5 hi hj _ => ?_) (by rw [given_all, List.map_map]; rfl))) (congrArg V.bl (rise_zip qs))))) (fun hb2 H5 e5 => ?_) fun hb2 H5 e5 => ?_
  · obtain ⟨u, hu, rfl⟩ := natV_at hi
    rw [List.getElem?_drop] at hj
    obtain ⟨w, hw, rfl⟩ := natV_at hj
    rw [Nat.add_comm] at hw
    rw [List.getD_eq_getElem?_getD, List.getD_eq_getElem?_getD, hu, hw]
    exact ev_is (ev_op (ev_var rfl) (ev_var rfl) rv_I0) (congrArg V.bl (lt_dec u w))
  · refine s_ret ev_c fun H6 e6 => ?_
    have := q.go ((e1.trans e2).trans ((e3.trans e4).trans (e5.trans e6)))
    rw [E0, hb2] at this
    exact this
  rw [hb2] at E0
  have h5 := e5 pl _ h4
  have n3 : 1 ≤ P.n - 1 := by omega
  have lz : qs.length ≤ 40000 := by omega
  refine q_when (b := !(qs.all fun q => decide ((P.n - 1) % q = 0)) || !decide (divL (P.n - 1) qs = 1)) (et_or (et_not (et_B (ev_is (ev_allN (bs := qs.map fun q => decide ((P.n - 1) % q = 0)) (el_nat _ qs (ev_var rfl) (sq_of h5) lz (fun x => rfl) fun u hu H6 e6 => ev_eq0 (ev_modN (ev_sub1 (by omega) (ev_var rfl)) (ev_var rfl) (by have := hq4 u hu; omega)))) (congrArg V.bl (all_id _ _))))) fun _ => et_test (ev_ne1 (ev_ca2 (ev_sub1 (by omega) (ev_var rfl)) (ev_var rfl) fun H6 e6 Q' q' => ⟨P.n - 1, pl, qs, rfl, n3, by omega, rfl, sq_of (e6 pl _ h5), hq4, q'⟩))) (fun hb3 H6 e6 => ?_) fun hb3 H6 e6 => ?_
  · refine s_ret ev_c fun H7 e7 => ?_
    have := q.go ((e1.trans e2).trans ((e3.trans e4).trans (e5.trans (e6.trans e7))))
    rw [E0, hb3] at this
    exact this
  rw [hb3] at E0
  have h6 := e6 pl _ h5
  refine q_when (b := !decide (pwm P.b P.n (P.n - 1) = 1)) (et_test (ev_ne1 (ev_ca3 (ev_var rfl) (ev_sub1 (by omega) (ev_var rfl)) (ev_var rfl) fun H7 e7 Q' q' => ⟨P.b, P.n - 1, P.n, rfl, rfl, rfl, s2, by omega, by omega, s1, q'⟩))) (fun hb4 H7 e7 => ?_) fun hb4 H7 e7 => ?_
  · refine s_ret ev_c fun H8 e8 => ?_
    have := q.go ((e1.trans e2).trans ((e3.trans e4).trans (e5.trans (e6.trans (e7.trans e8)))))
    rw [E0, hb4] at this
    exact this
  rw [hb4] at E0
  refine s_ret (v := .bl (baseOk P.n P.b qs)) (ev_is (ev_allN (bs := qs.map fun q => !decide (pwm P.b P.n ((P.n - 1) / q) = 1)) (el_nat _ qs (ev_var rfl) (sq_of (e7 pl _ h6)) lz (fun x => rfl) fun u hu H8 e8 => ev_ne1 (ev_ca3 (ev_var rfl) (ev_divN (ev_sub1 (by omega) (ev_var rfl)) (ev_var rfl) (by have := hq4 u hu; omega) (hq4 u hu).2) (ev_var rfl) fun H9 e9 Q' q' => ⟨P.b, (P.n - 1) / u, P.n, rfl, rfl, rfl, s2, by have := Nat.div_le_self (P.n - 1) u; omega, by omega, s1, q'⟩))) (congrArg V.bl (all_id _ _))) fun H8 e8 => ?_
  have := q.go ((e1.trans e2).trans ((e3.trans e4).trans (e5.trans (e6.trans (e7.trans e8)))))
  rw [E0] at this
  exact this
end Sv

set_option Elab.async false
set_option linter.all false
set_option maxRecDepth 100000
set_option maxHeartbeats 4000000
namespace Sv
open PySem PySem.Spec PyProof.Rows L2 Evl HotX L2H LamX
local macro_rules | `(tactic| walk_at "ev") => `(tactic| (repeat' (first | exact ev_var rfl | exact ev_c | exact rv_I0 | exact ea_nil | exact ru_neg | exact rv_eq rfl | exact rv_ne rfl | apply ev_op | apply rv_I | apply ev_un | apply et_test | apply et_B | apply et_not | apply ea_cons | apply ev_maxI | apply ev_minI)))
theorem la_eq {d : Nat} {P : Pap} (h2 : P.n ≠ 2) : shB (d + 1) P = (!(decide (P.n < 3) || decide (P.n % 2 = 0)) && laL (shB d) P.n P.b P.ps (P.n - 1) 0) := by
  have a : decide (3 ≤ P.n) = !decide (P.n < 3) := by
    by_cases z : P.n < 3
    · rw [decide_eq_true z, decide_eq_false (by omega)]
      rfl
    · rw [decide_eq_false z, decide_eq_true (by omega)]
      rfl
  have e : laB d = shB d := funext fun P => la_sh d P
  rw [← la_sh, laB, if_neg h2, a, e]
  simp only [Bool.not_or, Bool.and_assoc]
theorem laL_no {f : Pap → Bool} {n b left a : Nat} {p : Pap} {ps : List Pap} (h : (!f p || (decide (p.n ≤ a) || !decide (left % p.n = 0))) = true) : laL f n b (p :: ps) left a = false := by
  show (f p && (decide (a < p.n) && (decide (left % p.n = 0) && _))) = false
  simp only [Bool.or_eq_true, Bool.not_eq_true', decide_eq_true_eq, decide_eq_false_iff_not] at h
  rcases h with h | h | h
  · rw [h]
    rfl
  · rw [decide_eq_false (show ¬ a < p.n by omega)]
    simp
  · rw [decide_eq_false h]
    simp
theorem laL_yes {f : Pap → Bool} {n b left a : Nat} {p : Pap} {ps : List Pap} (h : (!f p || (decide (p.n ≤ a) || !decide (left % p.n = 0))) = false) : f p = true ∧ a < p.n ∧ left % p.n = 0 ∧ laL f n b (p :: ps) left a = (!decide (pwm b n ((n - 1) / p.n) = 1) && laL f n b ps (dvo p.n left) p.n) := by
  rw [Bool.or_eq_false_iff, Bool.or_eq_false_iff, Bool.not_eq_false', Bool.not_eq_false'] at h
  obtain ⟨h1, h2, h3⟩ := h
  have h2 := of_decide_eq_false h2
  refine ⟨h1, by omega, of_decide_eq_true h3, ?_⟩
  show (f p && (decide (a < p.n) && (decide (left % p.n = 0) && _))) = _
  rw [h1, h3, decide_eq_true (show a < p.n by omega)]
  rfl
theorem pure__law_shows (G : Pm) : P__law_shows G := by
  intro d x0 H Q E h
  obtain ⟨hd, P, ⟨p, l, xs, rfl, hp, _, hl, hx⟩, ⟨s1, s2, s3, s4⟩, q⟩ := h
  refine q_tup3 (ev_var rfl) (st_of hp) fun H1 e1 => ?_
  refine q_when (b := decide (P.n = 2)) (et_is (et_test (ev_op (ev_var rfl) ev_c (rv_eq rfl))) (nat_dec P.n 2)) (fun hb H2 e2 => ?_) fun hb H2 e2 => ?_
  · refine s_ret (ev_andV (ev_eq1 (ev_var rfl)) fun _ => ev_none (E := E) (by omega) (ev_var rfl) ((e1.trans e2) l _ hl) (pap_ps (e1.trans e2) hx)) fun H3 e3 => ?_
    have := q.go ((e1.trans e2).trans e3)
    rw [sh_2 (of_decide_eq_true hb)] at this
    exact this
  have n2 := of_decide_eq_false hb
  have E0 := la_eq (d := d) n2
  refine q_when (b := decide (P.n < 3) || decide (P.n % 2 = 0)) (et_or (et_is (et_test (ev_op (ev_var rfl) ev_c rv_I0)) (lt_dec P.n 3)) fun _ => et_test (ev_eq0 (ev_modN (v := 2) (ev_var rfl) ev_c (by decide)))) (fun hb1 H3 e3 => ?_) fun hb1 H3 e3 => ?_
  · refine s_ret ev_c fun H4 e4 => ?_
    have := q.go ((e1.trans e2).trans (e3.trans e4))
    rw [E0, hb1] at this
    exact this
  rw [hb1] at E0
  have ⟨g1, g2⟩ : ¬ P.n < 3 ∧ ¬ P.n % 2 = 0 := by
    rw [Bool.or_eq_false_iff] at hb1
    exact ⟨of_decide_eq_false hb1.1, of_decide_eq_false hb1.2⟩
  have n3 : 1 ≤ P.n - 1 := by omega
  refine q_asg (v := .int ((P.n - 1 : Nat) : Int)) (ev_sub1 (by omega) (ev_var rfl)) fun H4 e4 => ?_
  refine q_asg (v := .int ((0 : Nat) : Int)) ev_c fun H5 e5 => ?_
  have e05 := (e1.trans e2).trans (e3.trans (e4.trans e5))
  refine q_forLn (ev_var rfl) (sq_of (e05 l _ hl)) (fun i σ' H' => ∃ (left ahead : Nat) (y6 : Option V), σ' = [some (.ref p), some (.int (P.n : Int)), some (.int (P.b : Int)), some (.ref l), some (.int (left : Int)), some (.int (ahead : Int)), y6] ∧ 1 ≤ left ∧ left ≤ 4000000000 ∧ Ex H H' ∧
    laL (shB d) P.n P.b (P.ps.drop i) left ahead = laL (shB d) P.n P.b P.ps (P.n - 1) 0) (fun H6 e6 => ⟨_, _, _, rfl, n3, by omega, e05.trans e6, rfl⟩) (fun i σ' H' _ pv => by
      obtain ⟨_, _, _, _, _, _, e, _⟩ := pv
      exact sq_of (e l _ hl)) ?_ ?_
  · rintro i x σ' H6 hi ⟨left, ahead, y6, rfl, l1, l4, e6, hv⟩
    obtain ⟨pp, h1, h2⟩ := (pap_ps e6 hx).at hi
    have hm := List.mem_of_getElem? h1
    have hs := s4 pp hm
    have dr : P.ps.drop i = pp :: P.ps.drop (i + 1) := by
      obtain ⟨il, e⟩ := List.getElem?_eq_some_iff.mp h1
      rw [← e]
      exact List.drop_eq_getElem_cons il
    rw [dr] at hv
    have s6 := sz_n h2 hs
    refine q_when (b := !shB d pp || (decide (pp.n ≤ ahead) || !decide (left % pp.n = 0))) (et_or (et_not (et_B (sub_law hd h2 hs (ev_var rfl)))) fun _ => et_or (et_is (et_test (ev_op (pap_n h2 (ev_var rfl)) (ev_var rfl) rv_I0)) (le_dec pp.n ahead)) fun z2 => et_test (ev_ne0 (ev_modN (ev_var rfl) (pap_n h2 (ev_var rfl)) (by have := of_decide_eq_false z2; omega)))) (fun hb2 H7 e7 => ?_) fun hb2 H7 e7 => ?_
    · refine s_ret ev_c fun H8 e8 => ?_
      have := q.go (e6.trans (e7.trans e8))
      rw [E0, ← hv, laL_no hb2] at this
      exact this
    obtain ⟨f1, f2, f3, f4⟩ := laL_yes (n := P.n) (b := P.b) (ps := P.ps.drop (i + 1)) hb2
    have pP := sh_prime d pp f1
    have h7 := h2.ex e7
    rw [f4] at hv
    refine q_when (b := decide (pwm P.b P.n ((P.n - 1) / pp.n) = 1)) (et_test (ev_eq1 (ev_ca3 (ev_var rfl) (ev_divN (ev_sub1 (by omega) (ev_var rfl)) (pap_n h7 (ev_var rfl)) (by omega) s6) (ev_var rfl) fun H8 e8 Q' q' => ⟨P.b, (P.n - 1) / pp.n, P.n, rfl, rfl, rfl, s2, by have := Nat.div_le_self (P.n - 1) pp.n; omega, Nat.lt_of_le_of_lt (Nat.div_le_self _ _) (Nat.lt_of_lt_of_le (show P.n - 1 < 4000000001 by omega) (by decide)), by omega, s1, q'⟩))) (fun hb3 H8 e8 => ?_) fun hb3 H8 e8 => ?_
    · refine s_ret ev_c fun H9 e9 => ?_
      have := q.go (e6.trans (e7.trans (e8.trans e9)))
      rw [E0, ← hv, hb3] at this
      exact this
    rw [hb3] at hv
    have dp := dvo_pos pP.1 l1
    refine q_asg (v := .int (pp.n : Int)) (pap_n (h7.ex e8) (ev_var rfl)) fun H9 e9 => ?_
    exact q_out pP.1 l1 s6 (by decide) rfl rfl fun H10 e10 => ⟨_, _, _, rfl, dp.1, by omega, e6.trans (e7.trans (e8.trans (e9.trans e10))), hv⟩
  · rintro σ' H6 ⟨left, ahead, y6, rfl, l1, l4, e6, hv⟩
    rw [hx.len, List.drop_length] at hv
    refine s_ret (ev_andV (ev_eq1 (ev_var rfl)) fun _ => ev_eq1 (ev_ca3 (ev_var rfl) (ev_sub1 (by omega) (ev_var rfl)) (ev_var rfl) fun H8 e8 Q' q' => ⟨P.b, P.n - 1, P.n, rfl, rfl, rfl, s2, by omega, Nat.lt_of_lt_of_le (show P.n - 1 < 4000000001 by omega) (by decide), by omega, s1, q'⟩)) fun H7 e7 => ?_
    have := q.go (e6.trans e7)
    rw [E0, ← hv] at this
    exact this
/-! ### new papers -/
section
variable {K : PySem.W.Frag} {G : Pm} {σ : L2.St} {H H' : Hp} {ta tb tc te tl t1 t2 : TE} {x y : V} {a l : Addr} {xs ys : List V} {d n b : Nat} {P : Pap} {ps qs : List Pap} {E : XK} {D : Ends} {tz : TS} {i j : Nat}
def EvPs (te : TE) (σ : L2.St) (H : Hp) (d : Nat) (ps : List Pap) : Prop := ∀ H1, Ex H H1 → ∀ Q : VK, (∀ l xs H2, Ex H1 H2 → H2 l = some (.lst xs) → Pr2 (PapAt H2 d) xs ps → Q (.ref l) H2) → te σ H1 Q
def EvPsN (te : TE) (σ : L2.St) (H : Hp) (d : Nat) (ps : List Pap) : Prop := ∀ H1, Ex H H1 → ∀ Q : VK, (∀ l xs H2, H1 l = none → Ex H1 H2 → H2 l = some (.lst xs) → Pr2 (PapW (fun l => H1 l = none) H2 d) xs ps → Q (.ref l) H2) → te σ H1 Q
theorem eps_L (h : EvL te σ H xs) (hp : Pr2 (PapAt H d) xs ps) : EvPs te σ H d ps := fun H1 e Q q => h H1 e _ fun p H2 _ e2 h2 => q p xs H2 e2 h2 (pap_ps (e.trans e2) hp)
theorem eps_var (hi : σ[i]? = some (some (.ref l))) (hl : H l = some (.lst xs)) (hp : Pr2 (PapAt H d) xs ps) : EvPs (tVar i) σ H d ps := fun H1 e Q q => ⟨.ref l, hi, q l xs H1 (Ex.refl H1) (e l _ hl) (pap_ps e hp)⟩
theorem eps_nil : EvPs (tLst tNil) σ H d [] := fun H1 e Q q => ⟨sz_of (Nat.zero_le _), fun r hr => q r [] _ (Ex.new hr) upd_same .nil⟩
theorem epsN_nil : EvPsN (tLst tNil) σ H d [] := fun H1 e Q q => ⟨sz_of (Nat.zero_le _), fun r hr => q r [] _ hr (Ex.new hr) upd_same .nil⟩
theorem ep_pap (ha : Ev ta σ H (.int (n : Int))) (hb : Ev tb σ H (.int (b : Int))) (hc : EvPs tc σ H d ps) : EvP (tTup (tCons ta (tCons tb (tCons tc tNil)))) σ H (fun v H => PapAt H (d + 1) v (.mk n b ps)) := fun H1 e Q q =>
  ha H1 e _ fun H2 e2 => hb H2 (e.trans e2) _ fun H3 e3 => hc H3 (e.trans (e2.trans e3)) _ fun l xs H4 e4 h4 hp => ⟨sz_of (by show 3 ≤ 100000; decide), fun r hr => q (.ref r) _ ((e2.trans (e3.trans e4)).trans (Ex.new hr)) ⟨r, l, xs, rfl, upd_same, trivial, Ex.new hr l _ h4, pap_ps (Ex.new hr) hp⟩⟩
theorem eps_one (h : EvP te σ H (fun v H => PapAt H d v P)) : EvPs (tLst (tCons te tNil)) σ H d [P] := fun H1 e Q q =>
  h H1 e _ fun v H2 e2 hv => ⟨sz_of (by show 1 ≤ 100000; decide), fun r hr => q r [v] _ (e2.trans (Ex.new hr)) upd_same (.cons (hv.ex (Ex.new hr)) .nil)⟩
theorem eps_cat (ha : EvPs ta σ H d ps) (hb : EvPs tb σ H d qs) (hz : ps.length + qs.length ≤ 100000) : EvPs (tOp rCat ta tb) σ H d (ps ++ qs) := fun H1 e Q q =>
  ha H1 e _ fun l xs H2 e2 hl hx => hb H2 (e.trans e2) _ fun r ys H3 e3 hr hy => ⟨l, r, xs, ys, rfl, rfl, e3 l _ hl, hr, sz_of (by rw [hx.len, hy.len]; exact hz), fun s hs => q s _ _ ((e2.trans e3).trans (Ex.new hs)) upd_same ((pap_ps (e3.trans (Ex.new hs)) hx).app (pap_ps (Ex.new hs) hy))⟩
theorem ret_pap (ha : Ev ta σ H (.int (n : Int))) (hb : Ev tb σ H (.int (b : Int))) (hc : EvPsN tc σ H d ps) (k : ∀ v H2, Ex H H2 → PapW (fun l => H l = none) H2 (d + 1) v (.mk n b ps) → D.rt v H2) : tRet (tTup (tCons ta (tCons tb (tCons tc tNil)))) D σ H :=
  ha H (Ex.refl H) _ fun H2 e2 => hb H2 e2 _ fun H3 e3 => hc H3 (e2.trans e3) _ fun l xs H4 l0 e4 h4 hp => ⟨sz_of (by show 3 ≤ 100000; decide), fun r hr => k (.ref r) _ ((e2.trans (e3.trans e4)).trans (Ex.new hr)) ⟨r, l, xs, rfl, upd_same, fresh_back (e2.trans e3) l0, Ex.new hr l _ h4, hp.imp fun v P z => (z.ex (Ex.new hr)).imp fun l h => fresh_back (e2.trans e3) h⟩⟩
theorem ev_pls {E : XK} (K : PySem.W.Frag) : True := trivial
/-- a new list of pairs -/
def EvRw (K : PySem.W.Frag) (te : TE) (σ : L2.St) (H : Hp) (L : List (Nat × Nat)) : Prop := ∀ H1, Ex H H1 → ∀ Q : VK, (∀ p xs H2, H1 p = none → Ex H1 H2 → H2 p = some (.lst xs) → Rows K H2 xs L → Q (.ref p) H2) → te σ H1 Q
theorem el_map2 {j1 j2 : Nat} {vs : List Nat} {L : List (Nat × Nat)} (z : Nat × Nat → V) (h : EvRw K tl σ H L) (hz : L.length ≤ 40000) (hw : ∀ x y, wipe (((wipe σ vs).set j1 (some x)).set j2 (some y)) vs = wipe σ vs)
    (he : ∀ r H1, Ex H H1 → r ∈ L → Ev te (((wipe σ vs).set j1 (some (.int (r.1 : Int)))).set j2 (some (.int (r.2 : Int)))) H1 (z r)) :
    EvL (tLc (iList K tl) (gTup K 2 (gCons (gName j1) (gCons (gName j2) gNil))) tYes te vs) σ H (L.map z) := fun H0 e Q q => h H0 e _ fun a xs H1 h0 e1 h1 hR => by
  have hl := hR.len
  have gv : given xs.length (fun _ => true) (fun i => z (L.getD i (0, 0))) = L.map z := by
    rw [given_all, hl]
    apply List.ext_getElem
    · simp
    · intro i h1 h2
      simp only [List.getElem_map, List.getElem_range]
      rw [List.getD_eq_getElem?_getD, List.getElem?_eq_getElem (by simpa using h2)]
      rfl
  rw [← gv] at q
  exact ⟨a, rfl, ⟨xs, sq_of h1⟩, fun Dl hD =>
    lc_list (xs := xs) (Cw H1 (fun _ => true) (fun i => z (L.getD i (0, 0))) Dl) ⟨hD, Ex.new hD, upd_same⟩ (fun i H' _ p => sq_of (p.2.1 a _ h1)) (fun i x H' hi p => by
      have il := (List.getElem?_eq_some_iff.mp hi).1
      obtain ⟨t, r, rfl, h2, h3⟩ := (hR.ex p.2.1).at hi
      exact g_tup2 h3 ⟨hw _ _, cw_turn p (by omega) et_yes (fun _ => by
        rw [show L.getD i (0, 0) = r by rw [List.getD_eq_getElem?_getD, h2]; rfl]
        exact he r H1 (e.trans e1) (List.mem_of_getElem? h2))⟩)
      (fun H' p => q Dl H' (fresh_back e1 p.1) (e1.trans p.2.1) p.2.2)⟩
theorem erw_apart {m : Nat} {L : List (Nat × Nat)} (h : Ev te σ H (.int (m : Int))) (h1 : 1 ≤ m) (h9 : m ≤ 1000000000) (hF : Fac m L) : EvRw G.K (tCall (sp_apart G) [] E (tCons te tNil)) σ H L := fun H1 e Q q =>
  h H1 e _ fun H2 e2 => ⟨m, ⟨rfl, h1, h9⟩, fun ps' hF' => by
    have := fac_uniq hF hF'
    subst this
    exact fun r xs H3 r0 e3 h3 hR => q r xs H3 (fresh_back e2 r0) (e2.trans e3) h3 hR⟩
theorem eps_map {vs : List Nat} (ns : List Nat) (F : Nat → Pap) (h : Ev tl σ H (.ref a)) (hx : SqL K H a (natV ns)) (hz : ns.length ≤ 1000) (hw : ∀ x, wipe ((wipe σ vs).set j (some x)) vs = wipe σ vs)
    (he : ∀ u ∈ ns, ∀ H1, Ex H H1 → ∀ Q : VK, (∀ v H2, Ex H1 H2 → PapW (fun l => H1 l = none) H2 d v (F u) → Q v H2) → te ((wipe σ vs).set j (some (.int (u : Int)))) H1 Q) : EvPsN (tLc (iList K tl) (gName j) tYes te vs) σ H d (ns.map F) := fun H0 e Q q => h H0 e _ fun H1 e1 => ⟨a, rfl, ⟨natV ns, ex_l (e.trans e1) hx⟩, fun Dl hD =>
  lc_list (xs := natV ns) (fun i H' => Ex H1 H' ∧ ∃ ws, H' Dl = some (.lst ws) ∧ Pr2 (PapW (fun l => l ≠ Dl ∧ H0 l = none) H' d) ws ((ns.take i).map F)) ⟨Ex.new hD, [], upd_same, .nil⟩ (fun i H' _ p => ex_l ((e.trans e1).trans p.1) hx) (fun i x H' hi p => by
    obtain ⟨u, hu, rfl⟩ := natV_at hi
    have il := (List.getElem?_eq_some_iff.mp hu).1
    obtain ⟨p1, ws, p2, p3⟩ := p
    refine ⟨hw _, et_yes _ (Ex.refl _) _ fun H3 e3 => ?_⟩
    refine iteT ?_
    refine he u (List.mem_of_getElem? hu) H3 (((e.trans e1).trans p1).trans e3) _ fun v H4 e4 hv => ?_
    have d4 := (e3.trans e4) Dl _ p2
    have dn : H3 Dl ≠ none := by
      rw [e3 Dl _ p2]
      intro z
      cases z
    refine ⟨ws, d4, sz_lt (by rw [p3.len, List.length_map, List.length_take]; omega), Ex.mut (p1.trans (e3.trans e4)) hD, ws ++ [v], upd_same, ?_⟩
    have tk : (ns.take (i + 1)).map F = (ns.take i).map F ++ [F u] := by
      rw [List.take_add_one, hu, List.map_append]
      rfl
    rw [tk]
    refine Pr2.app (p3.imp fun v P z => (z.ex (e3.trans e4)).mut d4 fun l hl => hl.1) (.cons ((hv.imp fun l hl => ⟨fun z => dn (z ▸ hl), fresh_back ((e1.trans p1).trans e3) hl⟩).mut d4 fun l hl => hl.1) .nil))
    (fun H' p => by
      obtain ⟨p1, ws, p2, p3⟩ := p
      rw [natV_len, List.take_length] at p3
      exact q Dl ws H' (fresh_back e1 hD) (e1.trans p1) p2 (p3.imp fun v P z => z.imp fun l hl => hl.2))⟩
theorem sub_paper {u : Nat} (hu : IsP u) (h9 : u ≤ 1000000000) (h2 : u ≤ 2 ^ d) (ha : Ev ta σ H (.int (u : Int))) {Q : VK} (k : ∀ v H2, Ex H H2 → PapW (fun l => H l = none) H2 d v (paper d u) → Q v H2) : tCall (sp_paper_of G d) [] E (tCons ta tNil) σ H Q := by
  cases d with
  | zero =>
    have := hu.1
    omega
  | succ d => exact ha H (Ex.refl H) _ fun H1 e1 => ⟨u, rfl, hu, h9, h2, fun v H2 e2 hv => k v H2 (e1.trans e2) (hv.imp fun l hl => fresh_back e1 hl)⟩
end
theorem pure_paper_of (G : Pm) : P_paper_of G := by
  intro d x0 H Q E h
  obtain ⟨p, rfl, hp, h9, hd, q⟩ := h
  have p2 := hp.1
  refine q_when (b := decide (p = 2)) (et_is (et_test (ev_op (ev_var rfl) ev_c (rv_eq rfl))) (nat_dec p 2)) (fun hb H1 e1 => ?_) fun hb H1 e1 => ?_
  · have z := of_decide_eq_true hb
    refine ret_pap (n := 2) (b := 1) (d := d) ev_c ev_c epsN_nil fun v H2 e2 hv => q v H2 (e1.trans e2) ?_
    rw [paper, if_pos z]
    exact hv.imp fun l hl => fresh_back e1 hl
  have z := of_decide_eq_false hb
  have n1 : 1 ≤ p - 1 := by omega
  obtain ⟨L, hF⟩ := fac_ex n1
  have hpl := pls_of hF
  have len := pls_len n1 (by omega)
  have lL : L.length < 30 := by
    rw [hpl, List.length_map] at len
    exact len
  refine q_asgL (xs := natV (pls (p - 1))) (el_eq (el_map2 (fun r => V.int (r.1 : Int)) (erw_apart (ev_sub1 (by omega) (ev_var rfl)) n1 (by omega) hF) (by omega) (fun x y => rfl) fun r H2 e2 hr => ev_var rfl) (by rw [hpl]; unfold natV; rw [List.map_map]; rfl)) fun a H2 _ e2 h2 => ?_
  refine q_asg (v := .int ((1 : Nat) : Int)) ev_c fun H3 e3 => ?_
  have lb := lbs_of hp
  have ll := lbs_lt hp
  refine q_whl (fun m σ' H' => ∃ b : Nat, σ' = [some (.int (p : Int)), some (.ref a), some (.int (b : Int)), none, none] ∧ m = lbs p - b ∧ 1 ≤ b ∧ b ≤ lbs p ∧ Ex H H' ∧ H' a = some (.lst (natV (pls (p - 1))))) (lbs p - 1) ⟨1, rfl, rfl, Nat.le_refl 1, lb.1, e1.trans (e2.trans e3), e3 a _ h2⟩ ?_
  rintro m σ' H4 ⟨b, rfl, rfl, b1, b2, e4, h4⟩
  refine ⟨!baseOk p b (pls (p - 1)), et_not (et_B (ev_is (ev_allN (bs := (pls (p - 1)).map fun q => !decide (pwm b p ((p - 1) / q) = 1)) (el_nat _ (pls (p - 1)) (ev_var rfl) (sq_of h4) (by omega) (fun x => rfl) fun u hu H5 e5 => ev_ne1 (ev_ca3 (ev_var rfl) (ev_divN (ev_sub1 (by omega) (ev_var rfl)) (ev_var rfl) ?_ ?_) (ev_var rfl) fun H6 e6 Q' q' => ⟨b, (p - 1) / u, p, rfl, rfl, rfl, by omega, by have := Nat.div_le_self (p - 1) u; omega, by omega, by omega, q'⟩))) (congrArg V.bl (all_id _ _)))), fun hb1 H5 e5 => ?_, fun hb1 H5 e5 => ?_⟩
  · have := ((pls_mem n1).mp hu).1.1
    omega
  · have := Nat.le_of_dvd (by omega) ((pls_mem n1).mp hu).2
    omega
  · have bn : b ≠ lbs p := fun y => by
      rw [y, lb.2.1] at hb1
      cases hb1
    exact s_asg (v := .int ((b + 1 : Nat) : Int)) (ev_op (ev_var rfl) ev_c rv_I0) fun H6 e6 => ⟨lbs p - (b + 1), by omega, b + 1, rfl, rfl, by omega, by omega, e4.trans (e5.trans e6), (e5.trans e6) a _ h4⟩
  · rw [Bool.not_eq_false'] at hb1
    have := lbs_le hp b1 hb1
    have be : b = lbs p := by omega
    subst be
    refine ret_pap (n := p) (b := lbs p) (d := d) (ev_var rfl) (ev_var rfl) (eps_map (d := d) (pls (p - 1)) (paper d) (ev_var rfl) (sq_of (e5 a _ h4)) (by omega) (fun x => rfl) fun u hu H6 e6 Q' q' => ?_) fun v H6 e6 hv => q v H6 (e4.trans (e5.trans e6)) ?_
    · obtain ⟨u1, u2⟩ := (pls_mem n1).mp hu
      have := Nat.le_of_dvd (by omega) u2
      exact sub_paper u1 (by omega) (less_p hp z hd u1 u2) (ev_var rfl) q'
    · rw [paper, if_neg z]
      exact hv.imp fun l hl => fresh_back (e4.trans e5) hl
theorem fac_least {n : Nat} {s : Nat × Nat} {L : List (Nat × Nat)} (h : Fac n (s :: L)) : LeastD n s.1 ∧ IsP s.1 := by
  obtain ⟨f1, f2, f3, f4, f5, f6⟩ := fac_head h
  refine ⟨⟨f2.1, ?_, fun e e2 en => ?_⟩, f2⟩
  · rw [f4]
    exact Nat.dvd_trans (dvd_pow_self' _ (by omega)) (Nat.dvd_mul_right _ _)
  · obtain ⟨r, hr, rd⟩ := prime_div e2
    have rn := Nat.dvd_trans rd en
    rw [h.1] at rn
    obtain ⟨t, ht, e⟩ := hr.in_prodF h.2.1 rn
    have := Nat.le_of_dvd (by omega) rd
    rcases List.mem_cons.mp ht with rfl | ht
    · omega
    · have := (List.pairwise_cons.mp h.2.2).1 t ht
      omega
theorem s_ret2P {σ : L2.St} {H : Hp} {ta tb : TE} {x : V} {D : Ends} {P : V → Hp → Prop} (st : ∀ v H H', Ex H H' → P v H → P v H') (ha : Ev ta σ H x) (hb : EvP tb σ H P) (k : ∀ v p H2, Ex H H2 → P v H2 → H2 p = some (.tup [x, v]) → D.rt (.ref p) H2) : tRet (tTup (tCons ta (tCons tb tNil))) D σ H :=
  ha H (Ex.refl H) _ fun H1 e1 => hb H1 e1 _ fun v H2 e2 hv => ⟨sz_of (by show 2 ≤ 100000; decide), fun r hr => k v r _ ((e1.trans e2).trans (Ex.new hr)) (st _ _ _ (Ex.new hr) hv) upd_same⟩
theorem pure_prime_or_parts (G : Pm) : P_prime_or_parts G := by
  intro x0 H Q E h
  rcases h with ⟨n, rfl, n2, n9, hparts, hprime⟩ | ⟨hb, no⟩
  · refine q_num (ev_var rfl) ev_c ev_c (.inl ⟨⟨n, rfl, by omega, by omega⟩, fun H1 e1 => ?_⟩)
    obtain ⟨L, hF⟩ := fac_ex (show 1 ≤ n by omega)
    refine (erw_apart (G := G) (E := E) (te := tVar 0) (σ := [some (.int (n : Int)), none]) (H := H1) (ev_var rfl) (by omega) n9 hF) H1 (Ex.refl H1) _ fun a xs H2 _ e2 h2 hR => ?_
    cases hR with
    | nil =>
      have : n = 1 := hF.1
      omega
    | cons hT hR' =>
      rename_i t s xs' L'
      obtain ⟨hL, sP⟩ := fac_least hF
      have fst : ∀ {σ : L2.St} {H3 : Hp}, Ex H2 H3 → σ[1]? = some (some (.ref a)) → Ev (tOp (rIxT G.K) (tOp (rIxL G.K) (tVar 1) (tC (.int 0))) (tC (.int 0))) σ H3 (.int (s.1 : Int)) := fun e hs =>
        ev_op (ev_op (ev_var hs) ev_c (rv_ixL (sq_of (e a _ h2)) (atI_nat (j := 0) rfl))) ev_c (rv_ixT (ex_t e hT) (atI_nat (j := 0) rfl))
      refine q_when (b := decide (s.1 < n)) (et_is (et_test (ev_op (fst (Ex.refl H2) rfl) (ev_var rfl) rv_I0)) (lt_dec s.1 n)) (fun hb H3 e3 => ?_) fun hb H3 e3 => ?_
      · exact s_retU (eu_tup (ea_cons ev_c (ea_cons (fst e3 rfl) ea_nil)) (by show 2 ≤ 100000; decide)) fun p H4 p0 e4 h4 => (hparts s.1 hL (of_decide_eq_true hb)).go (e1.trans (e2.trans e3)) p0 e4 h4
      · have := of_decide_eq_false hb
        have := Nat.le_of_dvd (by omega) hL.2.1
        have e : s.1 = n := by omega
        rw [e] at sP
        refine s_ret2P (P := fun v H => PapAt H 30 v (paper 30 n)) (fun v H H' e h => h.ex e) ev_c (fun H4 e4 Q' q' => sub_paper sP n9 (by omega) ((ev_var rfl : Ev (tVar 0) _ H3 _).mono e4) fun v H5 e5 hv => q' v H5 e5 (hv.imp fun _ _ => trivial)) fun v p H4 e4 hv h4 => hprime sP v p H4 (e1.trans (e2.trans (e3.trans e4))) hv h4
  · exact q_num (ev_var rfl) ev_c ev_c (.inr ⟨hb, no⟩)
/-! ### papers bent -/
section
variable {K : PySem.W.Frag} {G : Pm} {σ : L2.St} {H H' : Hp} {ta tb tc te : TE} {a : Addr} {xs : List V} {n b : Nat} {ps : List Pap}
theorem cut_from {s : Nat} : cutV xs (some (s : Int)) none = xs.drop s := by
  unfold cutV
  have h : HT.sIx xs.length 0 (some (s : Int)) = min s xs.length := by
    simp [HT.sIx]
    omega
  have h2 : HT.sIx xs.length xs.length none = xs.length := rfl
  rw [h, h2]
  rcases Nat.le_total s xs.length with z | z
  · rw [Nat.min_eq_left z, List.take_of_length_le (by simp)]
  · rw [Nat.min_eq_right z, List.drop_eq_nil_of_le z, List.drop_eq_nil_of_le (Nat.le_refl _), List.take_nil]
theorem el_frm {s : Nat} (h : Ev te σ H (.ref a)) (hs : SqL K H a xs) (hi : Ev tb σ H (.int (s : Int))) : EvL (tSl (rSlL K) te (tPart tb) tNoPart) σ H (xs.drop s) := by
  rw [← cut_from]
  exact el_sl h (eo_some hi) eo_none hs
def PB (v : V) (H : Hp) : Prop := ∃ P, PapAt H 30 v P ∧ szP 30 P
theorem PB.st : ∀ v H H', Ex H H' → PB v H → PB v H' := fun v H H' e ⟨P, h1, h2⟩ => ⟨P, h1.ex e, h2⟩
theorem ep_imp {P P' : V → Hp → Prop} (h : EvP te σ H P) (k : ∀ v H, P v H → P' v H) : EvP te σ H P' := fun H1 e Q q => h H1 e Q fun v H2 e2 hv => q v H2 e2 (k v H2 hv)
theorem itm (ha : Ev ta σ H (.int (n : Int))) (hb : Ev tb σ H (.int (b : Int))) (hc : EvPs tc σ H 29 ps) (h1 : n ≤ 4000000000) (h2 : b ≤ 4000000000) (h3 : ps.length ≤ 1000) (h4 : ∀ p ∈ ps, szP 29 p) : EvP (tTup (tCons ta (tCons tb (tCons tc tNil)))) σ H PB :=
  ep_imp (ep_pap (d := 29) ha hb hc) fun v H h => ⟨_, h, h1, h2, h3, h4⟩
theorem EvPs.mono {d : Nat} (e : Ex H H') (h : EvPs te σ H d ps) : EvPs te σ H' d ps := fun H1 e1 Q q => h H1 (e.trans e1) Q q
theorem q_asgLQ {D : Ends} {tz : TS} {i n : Nat} {P : V → Hp → Prop} (h : EvLP te σ H n P) (k : ∀ p vs H1, Ex H H1 → H1 p = some (.lst vs) → vs.length = n → (∀ v ∈ vs, P v H1) → tz D (σ.set i (some (.ref p))) H1) : tSeq (tAsg te (gName i)) tz D σ H := q_asgLP h k
end
def P21 : Pap := .mk 2 1 []
def P32 : Pap := .mk 3 2 [P21]
def P43 : Pap := .mk 4 3 [P32]
theorem sz21 (d : Nat) : szP d P21 := by
  cases d with
  | zero => trivial
  | succ d => exact ⟨by decide, by decide, by decide, fun p h => by cases h⟩
theorem sz32 (d : Nat) : szP d P32 := by
  cases d with
  | zero => trivial
  | succ d => exact ⟨by decide, by decide, by decide, fun p h => by
      rw [List.mem_singleton.mp h]
      exact sz21 d⟩
theorem sz43 (d : Nat) : szP d P43 := by
  cases d with
  | zero => trivial
  | succ d => exact ⟨by decide, by decide, by decide, fun p h => by
      rw [List.mem_singleton.mp h]
      exact sz32 d⟩
theorem pure__law_bent (G : Pm) : P__law_bent G := by
  intro x0 x1 H Q E h
  obtain ⟨P, m, rfl, m0, hP, hs, hn, hb, hlen, q⟩ := h
  obtain ⟨p, l, xs, rfl, hp, _, hl, hx⟩ := (show PapW (fun _ => True) H (29 + 1) x0 P from hP)
  have s4 : ∀ p ∈ P.ps, szP 29 p := hs.2.2.2
  have xl := hx.len
  refine q_tup3 (ev_var rfl) (st_of hp) fun H1 e1 => ?_
  have hl1 := e1 l _ hl
  have hx1 := pap_ps e1 hx
  obtain ⟨c, hc⟩ : ∃ c : Nat, m % (if ((xs.length : Nat) : Int) > 1 then ((xs.length : Nat) : Int) else 1) = (c : Int) := nat_of (Int.emod_nonneg _ (by split <;> omega))
  refine q_asg (v := .int (c : Int)) (ev_is (ev_op (ev_var rfl) (ev_maxI ev_c (ev_lenL (ev_var rfl) (sq_of hl1))) (rv_I (by split <;> omega))) (by rw [hc])) fun H2 e2 => ?_
  have some_ : ∀ {σ : L2.St} {H3 : Hp}, Ex H1 H3 → σ[4]? = some (some (.ref l)) → EvPs (tVar 4) σ H3 29 P.ps := fun e hs => eps_var hs (e l _ hl1) (pap_ps e hx1)
  have take_ : ∀ {σ : L2.St} {H3 : Hp} {tb : TE} {i : Nat}, Ex H1 H3 → σ[4]? = some (some (.ref l)) → Ev tb σ H3 (.int (i : Int)) → EvPs (tSl (rSlL G.K) (tVar 4) tNoPart (tPart tb)) σ H3 29 (P.ps.take i) := fun e hs h => eps_L (el_to (ev_var hs) (sq_of (e l _ hl1)) h) ((pap_ps e hx1).take _)
  have drop_ : ∀ {σ : L2.St} {H3 : Hp}, Ex H1 H3 → σ[4]? = some (some (.ref l)) → σ[5]? = some (some (.int (c : Int))) → EvPs (tSl (rSlL G.K) (tVar 4) (tPart (tOp oAdd (tVar 5) (tC (.int 1)))) tNoPart) σ H3 29 (P.ps.drop (c + 1)) := fun e hs h => eps_L (el_frm (s := c + 1) (ev_var hs) (sq_of (e l _ hl1)) (ev_op (ev_var h) ev_c rv_I0)) ((pap_ps e hx1).drop _)
  have mt : ∀ i, ∀ p ∈ P.ps.take i, szP 29 p := fun i p h => s4 p (List.mem_of_mem_take h)
  have md : ∀ i, ∀ p ∈ P.ps.drop i, szP 29 p := fun i p h => s4 p (List.mem_of_mem_drop h)
  have lt : ∀ i, (P.ps.take i).length ≤ 100 := fun i => by rw [List.length_take]; omega
  have ld : ∀ i, (P.ps.drop i).length ≤ 100 := fun i => by rw [List.length_drop]; omega
  have mapp : ∀ (as bs : List Pap), (∀ p ∈ as, szP 29 p) → (∀ p ∈ bs, szP 29 p) → ∀ p ∈ as ++ bs, szP 29 p := fun as bs h1 h2 p h => by
    rcases List.mem_append.mp h with h | h
    · exact h1 p h
    · exact h2 p h
  have mone : ∀ {P' : Pap}, szP 29 P' → ∀ p ∈ [P'], szP 29 p := fun h p hp => by rw [List.mem_singleton.mp hp]; exact h
  obtain ⟨k3, hk3⟩ : ∃ k : Nat, m / 8 % 3 = (k : Int) := nat_of (by omega)
  have k3l : k3 < 3 := by omega
  have t21 : ∀ {σ : L2.St} {H3 : Hp} (d : Nat), EvP (tTup (tCons (tC (.int 2)) (tCons (tC (.int 1)) (tCons (tLst tNil) tNil)))) σ H3 (fun v H => PapAt H (d + 1) v P21) := fun d => ep_pap (n := 2) (b := 1) (d := d) ev_c ev_c eps_nil
  refine q_asgLQ (n := 1) (elp_lst PB.st (eall_cons PB.st (itm (n := P.n) (b := P.b + 1 + k3) (ps := P.ps) (ev_var rfl) ?_ (some_ e2 rfl) (by omega) (by omega) (by omega) s4) eall_nil) (by decide)) fun r3 v3 H3 e3 h3 l3 a3 => ?_
  · refine ev_is (ev_op (ev_op (ev_var rfl) ev_c rv_I0) (ev_op (ev_op (ev_var rfl) ev_c (rv_I (cdiv_w (by decide) (by decide)))) ev_c (rv_I (by decide))) rv_I0) ?_
    rw [hk3]
    congr 1
  have e13 := e2.trans e3
  refine q_asgLQ (n := 1 + 2) (elp_cat PB.st (elp_var PB.st rfl h3 l3 a3) (elp_lst PB.st
    (eall_cons PB.st (itm (n := P.n) (b := P.b) (ps := P.ps.take c ++ P.ps.drop (c + 1)) (ev_var rfl) (ev_var rfl) (eps_cat (take_ e13 rfl (ev_var rfl)) (drop_ e13 rfl rfl) (by have := lt c; have := ld (c + 1); omega)) (by omega) (by omega) (by rw [List.length_append]; have := lt c; have := ld (c + 1); omega) (mapp _ _ (mt _) (md _)))
    (eall_cons PB.st (itm (n := P.n) (b := P.b) (ps := P.ps ++ P.ps.take 1) (ev_var rfl) (ev_var rfl) (eps_cat (some_ e13 rfl) (take_ (i := 1) e13 rfl ev_c) (by have := lt 1; omega)) (by omega) (by omega) (by rw [List.length_append]; have := lt 1; omega) (mapp _ _ s4 (mt _))) eall_nil)) (by decide)) (by decide)) fun r4 v4 H4 e4 h4 l4 a4 => ?_
  have e14 := e13.trans e4
  refine q_asgLQ (n := 1 + 2 + 3) (elp_cat PB.st (elp_var PB.st rfl h4 l4 a4) (elp_lst PB.st
    (eall_cons PB.st (itm (n := P.n + 2) (b := P.b) (ps := P.ps) (ev_op (ev_var rfl) ev_c rv_I0) (ev_var rfl) (some_ e14 rfl) (by omega) (by omega) (by omega) s4)
    (eall_cons PB.st (itm (n := P.n) (b := 1) (ps := P.ps) (ev_var rfl) ev_c (some_ e14 rfl) (by omega) (by omega) (by omega) s4)
    (eall_cons PB.st (itm (n := P.n) (b := P.b) (ps := P.ps.reverse) (ev_var rfl) (ev_var rfl) (eps_L (el_rev (ev_var rfl) (sq_of (e14 l _ hl1))) (pap_ps e14 hx1).rev) (by omega) (by omega) (by rw [List.length_reverse]; omega) (fun p h => s4 p (List.mem_reverse.mp h))) eall_nil))) (by decide)) (by decide)) fun r5 v5 H5 e5 h5 l5 a5 => ?_
  have e15 := e14.trans e5
  refine q_asgLQ (n := 1 + 2 + 3 + 2) (elp_cat PB.st (elp_var PB.st rfl h5 l5 a5) (elp_lst PB.st
    (eall_cons PB.st (itm (n := 9) (b := 2) (ps := [P21]) ev_c ev_c (eps_one (t21 28)) (by decide) (by decide) (by decide) (mone (sz21 29)))
    (eall_cons PB.st (itm (n := 2) (b := 1) (ps := P.ps) ev_c ev_c (some_ e15 rfl) (by decide) (by decide) (by omega) s4) eall_nil)) (by decide)) (by decide)) fun r6 v6 H6 e6 h6 l6 a6 => ?_
  have e16 := e15.trans e6
  refine q_asgLQ (n := 1 + 2 + 3 + 2 + 2) (elp_cat PB.st (elp_var PB.st rfl h6 l6 a6) (elp_lst PB.st
    (eall_cons PB.st (itm (n := P.n * 3) (b := P.b) (ps := P.ps) (ev_is (ev_op (ev_var rfl) ev_c (rv_I (cm_r (by decide) (by decide)))) (by rw [Int.natCast_mul]; rfl)) (ev_var rfl) (some_ e16 rfl) (by omega) (by omega) (by omega) s4)
    (eall_cons PB.st (itm (n := 1) (b := 1) (ps := []) ev_c ev_c eps_nil (by decide) (by decide) (by decide) (fun p h => by cases h)) eall_nil)) (by decide)) (by decide)) fun r7 v7 H7 e7 h7 l7 a7 => ?_
  have e17 := e16.trans e7
  refine q_asgLQ (n := 1 + 2 + 3 + 2 + 2 + 1) (elp_cat PB.st (elp_var PB.st rfl h7 l7 a7) (elp_lst PB.st
    (eall_cons PB.st (itm (n := P.n) (b := P.b) (ps := P.ps.take c ++ [P43] ++ P.ps.drop (c + 1)) (ev_var rfl) (ev_var rfl) (eps_cat (eps_cat (take_ e17 rfl (ev_var rfl)) (eps_one (ep_pap (n := 4) (b := 3) (d := 28) ev_c ev_c (eps_one (ep_pap (n := 3) (b := 2) (d := 27) ev_c ev_c (eps_one (t21 26)))))) (by have := lt c; show _ + 1 ≤ _; omega)) (drop_ e17 rfl rfl) (by rw [List.length_append]; have := lt c; have := ld (c + 1); show _ + 1 + _ ≤ _; omega)) (by omega) (by omega) (by rw [List.length_append, List.length_append]; have := lt c; have := ld (c + 1); show _ + 1 + _ ≤ _; omega) (mapp _ _ (mapp _ _ (mt _) (mone (sz43 29))) (md _))) eall_nil) (by decide)) (by decide)) fun r8 v8 H8 e8 h8 l8 a8 => ?_
  obtain ⟨j, hj⟩ : ∃ j : Nat, m / 64 % 11 = (j : Int) := nat_of (by omega)
  have jl : j < v8.length := by omega
  refine s_ret (v := v8[j]) (ev_op (ev_var rfl) (ev_is (w := .int (j : Int)) (ev_op (ev_op (ev_var rfl) ev_c (rv_I (cdiv_w (by decide) (by decide)))) ev_c (rv_I (by decide))) (by rw [hj])) (rv_ixL (sq_of h8) (atI_nat (List.getElem?_eq_getElem jl)))) fun H9 e9 => ?_
  obtain ⟨P', h1, h2⟩ := a8 _ (List.getElem_mem jl)
  exact q _ P' H9 (e1.trans (e17.trans (e8.trans e9))) (h1.ex e9) h2
end Sv

set_option Elab.async false
set_option linter.all false
set_option maxRecDepth 100000
set_option maxHeartbeats 4000000
namespace Sv
open PySem PySem.Spec PyProof.Rows L2 Evl HotX L2H LamX
local macro_rules | `(tactic| walk_at "ev") => `(tactic| (repeat' (first | exact ev_var rfl | exact ev_c | exact rv_I0 | exact ea_nil | exact ru_neg | exact rv_eq rfl | exact rv_ne rfl | apply ev_op | apply rv_I | apply ev_un | apply et_test | apply et_B | apply et_not | apply ea_cons | apply ev_maxI | apply ev_minI)))
def errsL (G : Pm) : List (Addr × Str) := [(G.BadTable, "BadTable"), (G.Unlike, "Unlike"), (G.NoWay, "NoWay"), (G.BadName, "BadName"), (G.BadNumber, "BadNumber"), (G.BadSums, "BadSums")]
def WE (G : Pm) (C : Addr) (nm : Str) : Prop := (C, nm) ∈ errsL G
abbrev n__law_word : List Str := ["_law_e", "_law_flags", "_law_flag"]
abbrev p__law_word : List Str := ["_law_e"]
def t__law_word (G : Pm) (e C : Addr) : TS :=
  (tSeq (tAsg (tLst (tCons (tCB (rIsE G.K C e) (tCons (tVar 0) (tCons (tC (.ref G.BadTable)) tNil))) (tCons (tCB (rIsE G.K C e) (tCons (tVar 0) (tCons (tC (.ref G.Unlike)) tNil))) (tCons (tCB (rIsE G.K C e) (tCons (tVar 0) (tCons (tC (.ref G.NoWay)) tNil))) tNil)))) (gName 1))
  (tSeq (tAsg (tOp rCat (tVar 1) (tLst (tCons (tCB (rIsE G.K C e) (tCons (tVar 0) (tCons (tC (.ref G.BadName)) tNil))) tNil))) (gName 1))
  (tSeq (tAsg (tOp rCat (tVar 1) (tLst (tCons (tCB (rIsE G.K C e) (tCons (tVar 0) (tCons (tC (.ref G.BadNumber)) tNil))) (tCons (tCB (rIsE G.K C e) (tCons (tVar 0) (tCons (tC (.ref G.BadSums)) tNil))) tNil)))) (gName 1))
  (tSeq (tIfS (tOr (tTest (tOp rNe (tCB (rSum G.K) (tCons (tIntsH G.K (tVar 1)) tNil)) (tC (.int 1)))) (tNot (tB (tCB (rIsE G.K C e) (tCons (tVar 0) (tCons (tC (.ty "ValueError")) tNil))))))
  (tRet (tC (.str "other")))
  tNext)
  (tRet (tOp (rIxL G.K) (tLst (tCons (tC (.str "BadTable")) (tCons (tC (.str "Unlike")) (tCons (tC (.str "NoWay")) (tCons (tC (.str "BadName")) (tCons (tC (.str "BadNumber")) (tCons (tC (.str "BadSums")) tNil))))))) (tBM G.K "list" (rIndex G.K) (tVar 1) (tCons (tC (.bl true)) tNil))))))))
def P__law_word (G : Pm) : Prop := ∀ (e C : Addr) (nm : Str) (H : Hp) (Q : VK), WE G C nm → (∀ H', Ex H H' → Q (.str nm) H') → t__law_word G e C (dn Q) (start n__law_word [.ref e]) H
theorem pure__law_word (G : Pm) (h : ErrsOk G.K G.SieveError ((errsL G).map (·.1))) : P__law_word G := by
  intro e C nm H Q hw q
  obtain ⟨j, hj⟩ := List.getElem?_of_mem hw
  have hC : ((errsL G).map (·.1))[j]? = some C := by
    rw [List.getElem?_map, hj]
    rfl
  have mC := List.mem_of_getElem? hC
  obtain ⟨f1, f2, f3⟩ := one_flag C _ j h.nd hC
  have kk := fun D (hD : D ∈ (errsL G).map (·.1)) => h.two C mC D hD
  refine q_asgL (xs := [V.bl (decide (C = G.BadTable)), V.bl (decide (C = G.Unlike)), V.bl (decide (C = G.NoWay))]) (el_lst (ea_cons (ev_isE rfl (kk _ (by simp [errsL]))) (ea_cons (ev_isE rfl (kk _ (by simp [errsL]))) (ea_cons (ev_isE rfl (kk _ (by simp [errsL]))) (ea_nil)))) (by show 3 ≤ 100000; decide)) fun l0 H0 _ e0 h0 => ?_
  refine q_asgL (xs := [V.bl (decide (C = G.BadTable)), V.bl (decide (C = G.Unlike)), V.bl (decide (C = G.NoWay)), V.bl (decide (C = G.BadName))]) (el_cat (ev_var rfl) h0 (el_lst (ea_cons (ev_isE rfl (kk _ (by simp [errsL]))) (ea_nil)) (by show 1 ≤ 100000; decide)) (by simp)) fun l1 H1 _ e1 h1 => ?_
  refine q_asgL (xs := [V.bl (decide (C = G.BadTable)), V.bl (decide (C = G.Unlike)), V.bl (decide (C = G.NoWay)), V.bl (decide (C = G.BadName)), V.bl (decide (C = G.BadNumber)), V.bl (decide (C = G.BadSums))]) (el_cat (ev_var rfl) h1 (el_lst (ea_cons (ev_isE rfl (kk _ (by simp [errsL]))) (ea_cons (ev_isE rfl (kk _ (by simp [errsL]))) (ea_nil))) (by show 2 ≤ 100000; decide)) (by simp)) fun l2 H2 _ e2 h2 => ?_
  have hf : SqL G.K H2 l2 (((((errsL G).map (·.1)).map fun D => decide (C = D))).map V.bl) := sq_of h2
  refine q_when (b := !decide (V.int 1 = V.int 1) || !true) (et_or (et_test (ev_op (ev_is (ev_sumB (el_intsH (ev_var rfl) hf)) (by rw [f1])) ev_c (rv_ne rfl))) fun _ => et_not (et_B (ev_isET rfl (h.one C mC).ve))) (fun hb => by cases hb) fun _ Hn en => ?_
  have hj2 : ([V.str "BadTable", V.str "Unlike", V.str "NoWay", V.str "BadName", V.str "BadNumber", V.str "BadSums"])[j]? = some (.str nm) := by
    have z : ((errsL G).map fun p => V.str p.2)[j]? = some (.str nm) := by
      rw [List.getElem?_map, hj]
      rfl
    exact z
  refine s_ret (v := .str nm) (ev_opL1 (xs := [V.str "BadTable", V.str "Unlike", V.str "NoWay", V.str "BadName", V.str "BadNumber", V.str "BadSums"]) (el_lst (ea_cons ev_c (ea_cons ev_c (ea_cons ev_c (ea_cons ev_c (ea_cons ev_c (ea_cons ev_c (ea_nil))))))) (by show 6 ≤ 100000; decide)) (fun H1 e1 => ev_idx (ev_var rfl) (ex_l (en.trans e1) hf) f2 f3) fun p H1 h1 _ => rv_ixL (sq_of h1) (atI_nat hj2)) fun Hz ez => q Hz (((e0.trans e1).trans e2).trans (en.trans ez))
section
variable {G : Pm} {T : List (Addr × Str)} {H H' : Hp}
theorem no_go {Q : VK} {C : Addr} {nm : Str} (w : WE G C nm) (n : NX T H H') (q : ∀ H2, NX T H' H2 → Q (.str nm) H2) {H1 : Hp} (e1 : Ex H' H1) : No C H1 (ET (WE G) Q) := fun H3 e3 => et_go w fun H4 e4 => q H4 (nx_of n.2 ((e1.trans e3).trans e4))
end
def R_law (G : Pm) (T : List (Addr × Str)) : R1 := LawR G T
abbrev n_law : List Str := ["_law_script", "_law_k", "_law_more", "_law_primes", "_law_some", "_law_n", "_law_least_here", "_law_found", "_law_lesser", "_law_j", "_law_bent_here", "_law_told_here", "_law_odd", "_law_b"]
abbrev p_law : List Str := ["_law_script"]
def sp_law (G : Pm) (T : List (Addr × Str)) : Sp := sp1 (R_law G T)
def t_law (G : Pm) (T : List (Addr × Str)) (E : XK) : TS :=
  (tSeq (tFor (iRng1 (tCons (tCB bMax2 (tCons (tC (.int 1)) (tCons (tCB bMin2 (tCons (tC (.int 3)) (tCons (tCB (bLenQ G.K) (tCons (tVar 0) tNil)) tNil))) tNil))) tNil)) (gName 1)
  (tSeq (tAsg (tCall (sp__law_drawn G) [] E (tCons (tCall (sp__law_cell G) [] E (tCons (tVar 0) (tCons (tVar 1) tNil))) (tCons (tVar 1) tNil))) (gName 2))
  (tSeq (tAsg (tLst (tCons (tC (.int 2)) (tCons (tC (.int 3)) (tCons (tC (.int 5)) (tCons (tC (.int 7)) (tCons (tC (.int 31)) (tCons (tC (.int 97)) (tCons (tC (.int 257)) (tCons (tC (.int 65537)) (tCons (tC (.int 31607)) (tCons (tC (.int 999999937)) (tCons (tC (.int 998244353)) (tCons (tC (.int 104729)) tNil))))))))))))) (gName 3))
  (tSeq (tAsg (tLst (tCons (tOp (rIxL G.K) (tVar 3) (tOp oMod (tOp oDiv (tVar 2) (tC (.int 8))) (tC (.int 12)))) (tCons (tOp oAdd (tC (.int 2)) (tOp oMod (tOp oDiv (tVar 2) (tC (.int 8))) (tC (.int 2000)))) (tCons (tOp oMul (tC (.int 31607)) (tC (.int 31607))) (tCons (tOp oAdd (tC (.int 2)) (tOp oMod (tOp oDiv (tVar 2) (tC (.int 8))) (tC (.int 1000000)))) tNil))))) (gName 4))
  (tSeq (tAsg (tOp (rIxL G.K) (tOp rCat (tVar 4) (tLst (tCons (tOp oMul (tC (.int 1009)) (tOp (rIxL G.K) (tVar 3) (tOp oMod (tOp oDiv (tVar 2) (tC (.int 8))) (tC (.int 8))))) tNil))) (tOp oMod (tVar 2) (tC (.int 5)))) (gName 5))
  (tSeq (tAsg (tCall (sp__law_least G) [] E (tCons (tVar 5) tNil)) (gName 6))
  (tSeq (tAsg (tTold T (WE G) fun E => (tCall (sp_prime_or_parts G) [] E (tCons (tVar 5) tNil))) (gName 7))
  (tSeq (tIfS (tTest (tOp cLt (tVar 6) (tVar 5)))
  (tIfS (tTest (tOp (rNeD G.K) (tVar 7) (tTup (tCons (tC (.str "parts")) (tCons (tVar 6) tNil)))))
  (tRet (tC (.bl false)))
  tNext)
  (tSeq (tIfS (tOr (tNot (tB (tCB (rIsi G.K) (tCons (tVar 7) (tCons (tC (.ty "tuple")) tNil))))) (tOr (tTest (tOp rNe (tOp (rIxT G.K) (tVar 7) (tC (.int 0))) (tC (.str "prime")))) (tOr (tTest (tOp rNe (tOp (rIxT G.K) (tOp (rIxT G.K) (tVar 7) (tC (.int 1))) (tC (.int 0))) (tVar 5))) (tNot (tB (tCall (sp__law_shows G 30) [] E (tCons (tOp (rIxT G.K) (tVar 7) (tC (.int 1))) tNil)))))))
  (tRet (tC (.bl false)))
  tNext)
  (tSeq (tAsg (tLc (iRng2 (tCons (tC (.int 1)) (tCons (tOp (rIxT G.K) (tOp (rIxT G.K) (tVar 7) (tC (.int 1))) (tC (.int 1))) tNil))) (gName 13) tYes (tCall (sp__law_shows G 30) [] E0 (tCons (tTup (tCons (tVar 5) (tCons (tVar 13) (tCons (tOp (rIxT G.K) (tOp (rIxT G.K) (tVar 7) (tC (.int 1))) (tC (.int 2))) tNil)))) tNil)) [13]) (gName 8))
  (tSeq (tIfS (tOr (tTest (tOp rNotBl (tCall (sp_shows G 30) [] E (tCons (tOp (rIxT G.K) (tVar 7) (tC (.int 1))) tNil)) (tC (.bl true)))) (tAnd (tTest (tOp cGt (tVar 5) (tC (.int 2)))) (tB (tCB (rAny G.K) (tCons (tVar 8) tNil)))))
  (tRet (tC (.bl false)))
  tNext)
  (tFor (iRng1 (tCons (tC (.int 5)) tNil)) (gName 9)
  (tSeq (tAsg (tCall (sp__law_bent G) [] E (tCons (tOp (rIxT G.K) (tVar 7) (tC (.int 1))) (tCons (tCall (sp__law_drawn G) [] E (tCons (tVar 2) (tCons (tOp oAdd (tC (.int 30)) (tVar 9)) tNil))) tNil))) (gName 10))
  (tSeq (tAsg (tCall (sp_shows G 30) [] E (tCons (tVar 10) tNil)) (gName 11))
  (tIfS (tOr (tNot (tB (tCB (rIsi G.K) (tCons (tVar 11) (tCons (tC (.ty "bool")) tNil))))) (tTest (tOp rNe (tVar 11) (tCall (sp__law_shows G 30) [] E (tCons (tVar 10) tNil)))))
  (tRet (tC (.bl false)))
  tNext))))))))
  (tSeq (tAsg (tOp (rIxL G.K) (tLst (tCons (tC (.int 1)) (tCons (tC (.int 0)) (tCons (tUn uNeg (tC (.int 7))) (tCons (tC (.int 1000000001)) (tCons (tC (.bl true)) (tCons (tC .non) tNil))))))) (tOp oMod (tOp oDiv (tVar 2) (tOp oPow (tC (.int 2)) (tC (.int 40)))) (tC (.int 6)))) (gName 12))
  (tIfS (tTest (tOp rNe (tTold T (WE G) fun E => (tCall (sp_prime_or_parts G) [] E (tCons (tVar 12) tNil))) (tC (.str "BadNumber"))))
  (tRet (tC (.bl false)))
  tNext))))))))))
  (tRet (tC (.bl true))))
def P_law (G : Pm) : Prop := ∀ T x0 H Q E, R_law G T x0 H Q E → t_law G T E (dn Q) (start n_law [x0]) H
section
variable {K : PySem.W.Frag} {G : Pm} {σ : L2.St} {H H' : Hp} {ta tb tc te tl : TE} {tr : TA} {x y : V} {a l : Addr} {xs : List V} {d n b : Nat} {P : Pap} {ps : List Pap} {E : XK} {D : Ends} {tz : TS} {i j : Nat} {T : List (Addr × Str)}
theorem sub_shows30 (h : PapAt H 30 x P) (s : szP 30 P) (ha : Ev ta σ H x) : Ev (tCall (sp_shows G 30) [] E (tCons ta tNil)) σ H (.bl (shB 30 P)) :=
  ev_ca1 ha fun H1 e1 Q' q' => ⟨Nat.le_refl 30, P, h.ex e1, s, q'⟩
theorem sub_law30 (h : PapAt H 30 x P) (s : szP 30 P) (ha : Ev ta σ H x) : Ev (tCall (sp__law_shows G 30) [] E (tCons ta tNil)) σ H (.bl (shB 30 P)) :=
  ev_ca1 ha fun H1 e1 Q' q' => ⟨Nat.le_refl 30, P, h.ex e1, s, q'⟩
theorem sub_law30P (s : szP 30 P) (ha : EvP ta σ H fun v H => PapAt H 30 v P) : Ev (tCall (sp__law_shows G 30) [] E (tCons ta tNil)) σ H (.bl (shB 30 P)) :=
  fun H1 e Q q => ha H1 e _ fun v H2 e2 hv => ⟨Nat.le_refl 30, P, hv, s, fun H3 e3 => q H3 (e2.trans e3)⟩
theorem eps_ev (h : Ev te σ H (.ref l)) (hl : H l = some (.lst xs)) (hx : Pr2 (PapAt H d) xs ps) : EvPs te σ H d ps := fun H1 e Q q => h H1 e _ fun H2 e2 => q l xs H2 e2 ((e.trans e2) l _ hl) (pap_ps (e.trans e2) hx)
theorem ev_anyV {bs : List Bool} (ha : Ev ta σ H (.ref a)) (h : SqL K H a (bs.map V.bl)) : Ev (tCB (rAny K) (tCons ta tNil)) σ H (.bl (bs.any id)) :=
  fun H1 e Q q => ha H1 e _ fun H2 e2 => ⟨a, bs, rfl, ex_l (e.trans e2) h, q H2 e2⟩
/-- [false, false ..] of many -/
theorem el_false {vs : List Nat} {lo m : Int} (h : EvA tr σ H [.int lo, .int m]) (hn : 0 ≤ lo ∧ lo ≤ 2000000 ∧ 0 ≤ m ∧ m ≤ 2000000) (hw : ∀ x, wipe ((wipe σ vs).set j (some x)) vs = wipe σ vs)
    (he : ∀ (i : Nat) H1, Ex H H1 → lo + (i : Int) < m → Ev te ((wipe σ vs).set j (some (.int (lo + (i : Int))))) H1 (.bl false)) : EvL (tLc (iRng2 tr) (gName j) tYes te vs) σ H ((List.replicate (m - lo).toNat false).map V.bl) := fun H0 e Q q => h H0 e _ fun H1 e1 => ⟨lo, m, rfl, ⟨by omega, by omega, by omega, by omega⟩, fun Dl hD =>
  lc_range (lo := lo) (n := (m - lo).toNat) (fun i H' => Ex H1 H' ∧ H' Dl = some (.lst ((List.replicate i false).map V.bl))) ⟨Ex.new hD, upd_same⟩ (fun i H' hi p => ⟨hw _, et_yes _ (Ex.refl _) _ fun H3 e3 => by
    refine iteT ?_
    refine he i H3 (((e.trans e1).trans p.1).trans e3) (by omega) H3 (Ex.refl _) _ fun H4 e4 => ⟨_, (e3.trans e4) Dl _ p.2, ?_, Ex.mut (p.1.trans (e3.trans e4)) hD, ?_⟩
    · rw [List.length_map, List.length_replicate]
      exact Nat.lt_of_lt_of_le (show i < 2000001 by omega) (by decide)
    · rw [upd_same, List.replicate_succ', List.map_append]
      rfl⟩) (fun H' p => q Dl H' (fresh_back e1 hD) (e1.trans p.1) p.2)⟩
theorem any_rep (k : Nat) : (List.replicate k false).any id = false := by
  induction k with
  | zero => rfl
  | succ k ih => rw [List.replicate_succ, List.any_cons, ih]; rfl
theorem law_tail {M : Int} (hM : 0 ≤ M) (h2 : σ[2]? = some (some (.int M))) (hl : 12 < σ.length) (hT : Tabs T H) (k : ∀ v H', NX T H H' → D.nx (σ.set 12 (some v)) H') :
    tSeq (tAsg (tOp (rIxL G.K) (tLst (tCons (tC (.int 1)) (tCons (tC (.int 0)) (tCons (tUn uNeg (tC (.int 7))) (tCons (tC (.int 1000000001)) (tCons (tC (.bl true)) (tCons (tC .non) tNil))))))) (tOp oMod (tOp oDiv (tVar 2) (tOp oPow (tC (.int 2)) (tC (.int 40)))) (tC (.int 6)))) (gName 12))
      (tIfS (tTest (tOp rNe (tTold T (WE G) fun E => (tCall (sp_prime_or_parts G) [] E (tCons (tVar 12) tNil))) (tC (.str "BadNumber")))) (tRet (tC (.bl false))) tNext) D σ H := by
  have stN : ∀ (v : V) (H H' : Hp), Ex H H' → NumBad v 2 1000000000 → NumBad v 2 1000000000 := fun _ _ _ _ h => h
  have nb_i : ∀ z : Int, ¬ (2 ≤ z ∧ z ≤ 1000000000) → NumBad (.int z) 2 1000000000 := fun z h => .inr (.inr (.inr ⟨z, rfl, h⟩))
  obtain ⟨j, hj⟩ : ∃ j : Nat, M / (2 ^ (40 : Int).toNat) % 6 = (j : Int) := nat_of (Int.emod_nonneg _ (by decide))
  have jl : j < 6 := by
    have := Int.emod_lt_of_pos (M / (2 ^ (40 : Int).toNat)) (show (0 : Int) < 6 by decide)
    omega
  refine q_asgP (P := fun v _ => NumBad v 2 1000000000) (ep_ix (n := 6) (j := j) stN ?_ (fun H1 _ => ev_is (ev_op (ev_op (ev_var h2) (ev_op ev_c ev_c (rv_I ⟨by decide, by decide, by decide⟩)) (rv_I (cdiv_w (by decide) (by decide)))) ev_c (rv_I (by decide))) (by rw [hj])) jl (by decide)) fun v H1 e1 hv => ?_
  · refine eall_cons stN (ep_ev ev_c fun _ _ => nb_i _ (by decide)) ?_
    refine eall_cons stN (ep_ev ev_c fun _ _ => nb_i _ (by decide)) ?_
    refine eall_cons stN (ep_ev (ev_un ev_c ru_neg) fun _ _ => nb_i _ (by decide)) ?_
    refine eall_cons stN (ep_ev ev_c fun _ _ => nb_i _ (by decide)) ?_
    refine eall_cons stN (ep_ev ev_c fun _ _ => .inr (.inl ⟨_, rfl⟩)) ?_
    exact eall_cons stN (ep_ev ev_c fun _ _ => .inl rfl) eall_nil
  · have n1 := nx_of hT e1
    have g12 : (σ.set 12 (some v))[12]? = some (some v) := List.getElem?_set_self hl
    exact sn_when (b := !decide (V.str "BadNumber" = V.str "BadNumber")) n1.2 (tlt_test (tl_op (tl_told fun H4 n4 Q' q' => call1 (ev_var g12) fun H5 e5 => .inr ⟨hv, no_go (nm := "BadNumber") (by simp [WE, errsL]) n4 q' e5⟩) tl_c fun _ _ => rv_ne rfl)) (fun hb => by simp at hb) fun _ H4 n4 => k v H4 (n1.trans n4)
end
def prsL : List Nat := [2, 3, 5, 7, 31, 97, 257, 65537, 31607, 999999937, 998244353, 104729]
def NOk (n : Nat) : Prop := 2 ≤ n ∧ n ≤ 1000000000 ∧ (IsP n → n ≤ 1000001 ∨ n = 999999937 ∨ n = 998244353)
theorem prs_ok : ∀ a ∈ prsL, 2 ≤ a ∧ a ≤ 1000000000 ∧ (a ≤ 1000001 ∨ a = 999999937 ∨ a = 998244353) := by decide
theorem prs_8 : ∀ a ∈ prsL.take 8, 2 ≤ a ∧ a ≤ 65537 := by decide
theorem nok_lbs {n : Nat} (h : NOk n) (hp : IsP n) : lbs n ≤ 1000001 := by
  have := lbs_lt hp
  rcases h.2.2 hp with z | z | z
  · omega
  · subst z
    have := lbs_b hp
    omega
  · subst z
    have := lbs_a hp
    omega
theorem paper_30 (n : Nat) (h2 : n ≠ 2) : paper 30 n = .mk n (lbs n) ((pls (n - 1)).map (paper 29)) := by
  show paper (29 + 1) n = _
  rw [paper, if_neg h2]
theorem pure_law (G : Pm) : P_law G := by
  intro T x0 H0 Q E h
  obtain ⟨a, ns, rfl, hS, hl, _, hT0, q⟩ := h
  have hlN : (ns.map V.int).length ≤ 63 := by
    rw [List.length_map]
    exact hl
  refine q_forR1 (n := if (if ((ns.map V.int).length : Int) < 3 then ((ns.map V.int).length : Int) else 3) > 1 then (if ((ns.map V.int).length : Int) < 3 then ((ns.map V.int).length : Int) else 3) else 1)
    (ea_cons (ev_maxI ev_c (ev_minI ev_c (ev_lenL (ev_var rfl) hS))) ea_nil) (by omega)
    (fun i σ' H' => ∃ y1 y2 y3 y4 y5 y6 y7 y8 y9 y10 y11 y12 y13 : Option V, σ' = [some (.ref a), y1, y2, y3, y4, y5, y6, y7, y8, y9, y10, y11, y12, y13] ∧ NX T H0 H') (fun H1 e1 => ⟨_, _, _, _, _, _, _, _, _, _, _, _, _, rfl, nx_of hT0 e1⟩) ?_ ?_
  · rintro i σ' H hi ⟨y1, y2, y3, y4, y5, y6, y7, y8, y9, y10, y11, y12, y13, rfl, nH⟩
    have hi4 : i ≤ 4 := by omega
    have hSH := nH.l hS
    have dn := drawn_nn (cellS ns i) (i : Int)
    refine q_asg (v := .int (drawn (cellS ns i) (i : Int))) (ev_ca2 (ev_ca2 (ev_var rfl) (ev_var rfl) fun H1 e1 Q' q' => ⟨a, ns, i, rfl, rfl, ex_l e1 hSH, hl, by omega, q'⟩) (ev_var rfl) fun H1 e1 Q' q' => ⟨_, _, rfl, rfl, by omega, by omega, q'⟩) fun H1 e1 => ?_
    generalize drawn (cellS ns i) (i : Int) = M at *
    refine q_asgL (xs := natV prsL) (el_lst (ea_cons ev_c (ea_cons ev_c (ea_cons ev_c (ea_cons ev_c (ea_cons ev_c (ea_cons ev_c (ea_cons ev_c (ea_cons ev_c (ea_cons ev_c (ea_cons ev_c (ea_cons ev_c (ea_cons ev_c ea_nil)))))))))))) (by show 12 ≤ 100000; decide)) fun pr H2 _ e2 h2 => ?_
    obtain ⟨i12, hi12⟩ : ∃ k : Nat, M / 8 % 12 = (k : Int) := nat_of (by omega)
    obtain ⟨i8, hi8⟩ : ∃ k : Nat, M / 8 % 8 = (k : Int) := nat_of (by omega)
    obtain ⟨b2, hb2⟩ : ∃ k : Nat, 2 + M / 8 % 2000 = (k : Int) := nat_of (by omega)
    obtain ⟨d2, hd2⟩ : ∃ k : Nat, 2 + M / 8 % 1000000 = (k : Int) := nat_of (by omega)
    obtain ⟨i5, hi5⟩ : ∃ k : Nat, M % 5 = (k : Int) := nat_of (by omega)
    have l12 : i12 < prsL.length := by show i12 < 12; omega
    have l8 : i8 < (prsL.take 8).length := by show i8 < 8; omega
    have l8' : i8 < prsL.length := by show i8 < 12; have : i8 < 8 := l8; omega
    have ga : prsL[i12]? = some prsL[i12] := List.getElem?_eq_getElem l12
    have ge : prsL[i8]? = some prsL[i8] := List.getElem?_eq_getElem l8'
    have oa := prs_ok _ (List.getElem_mem l12)
    have oe : 2 ≤ prsL[i8] ∧ prsL[i8] ≤ 65537 := by
      have := prs_8 _ (List.getElem_mem l8)
      rwa [List.getElem_take] at this
    generalize prsL[i12] = pa at *
    generalize prsL[i8] = pe at *
    refine q_asgL (xs := natV [pa, b2, 999002449, d2]) (el_lst (ea_cons (ev_op (ev_var rfl) (ev_is (w := .int (i12 : Int)) (ev_op (ev_op (ev_var rfl) ev_c (rv_I (cdiv_w (by decide) (by decide)))) ev_c (rv_I (by decide))) (by rw [hi12])) (rv_ixL (sq_of h2) (atI_nat (natV_at' ga))))
      (ea_cons (ev_is (w := .int (b2 : Int)) (ev_op ev_c (ev_op (ev_op (ev_var rfl) ev_c (rv_I (cdiv_w (by decide) (by decide)))) ev_c (rv_I (by decide))) rv_I0) (by rw [hb2]))
      (ea_cons (ev_is (w := .int ((999002449 : Nat) : Int)) (ev_op ev_c ev_c (rv_I (cm_r (by decide) (by decide)))) (by rfl))
      (ea_cons (ev_is (w := .int (d2 : Int)) (ev_op ev_c (ev_op (ev_op (ev_var rfl) ev_c (rv_I (cdiv_w (by decide) (by decide)))) ev_c (rv_I (by decide))) rv_I0) (by rw [hd2])) ea_nil)))) (by show 4 ≤ 100000; decide)) fun so H3 _ e3 h3 => ?_
    obtain ⟨n, hn, gn⟩ : ∃ n : Nat, NOk n ∧ ([pa, b2, 999002449, d2] ++ [1009 * pe])[i5]? = some n := by
      have l5 : i5 < 5 := by omega
      match i5, l5 with
      | 0, _ => exact ⟨pa, ⟨oa.1, oa.2.1, fun _ => oa.2.2⟩, rfl⟩
      | 1, _ => exact ⟨b2, ⟨by omega, by omega, fun _ => .inl (by omega)⟩, rfl⟩
      | 2, _ => exact ⟨999002449, ⟨by decide, by decide, fun hP => by
          have := hP.2 31607 (by decide) ⟨31607, by decide⟩
          omega⟩, rfl⟩
      | 3, _ => exact ⟨d2, ⟨by omega, by omega, fun _ => .inl (by omega)⟩, rfl⟩
      | 4, _ => exact ⟨1009 * pe, ⟨by omega, by omega, fun hP => by
          have := hP.2 1009 (by decide) ⟨pe, rfl⟩
          omega⟩, rfl⟩
    refine q_asg (v := .int (n : Int)) (ev_opL1 (xs := natV ([pa, b2, 999002449, d2] ++ [1009 * pe])) (el_eq (el_cat (ev_var rfl) h3 (el_lst (ea_cons (ev_is (w := .int ((1009 * pe : Nat) : Int)) (ev_op ev_c (ev_op (ev_var rfl) (ev_is (w := .int (i8 : Int)) (ev_op (ev_op (ev_var rfl) ev_c (rv_I (cdiv_w (by decide) (by decide)))) ev_c (rv_I (by decide))) (by rw [hi8])) (rv_ixL (sq_of (e3 pr _ h2)) (atI_nat (natV_at' ge)))) (rv_I (cm_l (by decide) (by decide)))) (by rw [Int.natCast_mul]; rfl)) ea_nil) (by show 1 ≤ 100000; decide)) (by show 5 ≤ 100000; decide)) (by rfl)) (fun H4 _ => ev_is (w := .int (i5 : Int)) (ev_op (ev_var rfl) ev_c (rv_I (by decide))) (by rw [hi5])) fun p H4 h4 _ => rv_ixL (sq_of h4) (atI_nat (natV_at' gn))) fun H4 e4 => ?_
    obtain ⟨n2, n9, _⟩ := id hn
    obtain ⟨dd, hd⟩ : ∃ d, LeastD n d := least_div n2
    refine q_asg (v := .int (dd : Int)) (ev_ca1 (ev_var rfl) fun H5 e5 Q' q' => ⟨n, rfl, n2, n9, fun d' hd' => by rw [hd'.uniq hd]; exact q'⟩) fun H5 e5 => ?_
    have n5 : NX T H0 H5 := nH.ex (e1.trans (e2.trans (e3.trans (e4.trans e5))))
    have dn' := Nat.le_of_dvd (by omega) hd.2.1
    refine q_told n5.2 fun H6 n6 => call1 (ev_var rfl) fun H7 e7 => .inl ⟨n, rfl, n2, n9, fun d' hd' lt => ?_, fun hP v p H8 e8 hv h8 => ?_⟩
    · -- parts
      intro p H8 p0 e8 h8
      have := hd'.uniq hd
      subst this
      have n8 : NX T H0 H8 := (n5.trans n6).ex (e7.trans e8)
      have sh : SeqAt.shaped (.tuple [.str "parts", .int (d' : Int)]) = true := by
        simp [SeqAt.shaped, PyData.canLay0, PyData.canLayAll0, PyData.depth, PyData.depthAll]
        decide +kernel
      refine q_if (b := decide (d' < n)) (et_is (et_test (ev_op (ev_var rfl) (ev_var rfl) rv_I0)) (lt_dec d' n)) (fun _ H9 e9 => ?_) fun hb => ?_
      · refine s_when (b := !PyData.eqv (.tuple [.str "parts", .int (d' : Int)]) (.tuple [.str "parts", .int (d' : Int)])) (et_test (ev_neD (ed_var rfl (.tup (st_of (e9 p _ h8)) (.cons (.str _) (.cons (.int _) .nil)))) (ed_tup (eda_cons (ed_s ev_c) (eda_cons (ed_i (ev_var rfl)) eda_nil)) (by show 2 ≤ 100000; decide)) sh sh)) (fun hb => ?_) fun _ H10 e10 => ?_
        · rw [SeqAt.eqv_refl _ (SeqAt.canLay_of_shaped sh)] at hb
          cases hb
        · have n10 := n8.ex (e9.trans e10)
          exact law_tail dn rfl (by show 12 < 14; decide) n10.2 fun v H' n' => ⟨_, _, _, _, _, _, _, _, _, _, _, _, _, rfl, n10.trans n'⟩
      · rw [decide_eq_true lt] at hb
        cases hb
    · -- a prime
      have hdn : dd = n := hP.2 dd hd.1 hd.2.1
      subst hdn
      have n8 : NX T H0 H8 := (n5.trans n6).ex (e7.trans e8)
      have sz := paper_sz 30 dd hP n9 (by omega)
      have shw := paper_sh 30 dd hP (by omega)
      have pn := paper_n 30 dd
      have bb : (paper 30 dd).b ≤ 1000001 ∧ 1 ≤ (paper 30 dd).b ∧ (paper 30 dd).ps.length ≤ 100 := by
        by_cases z : dd = 2
        · subst z
          exact ⟨by decide, by decide, by decide⟩
        · rw [paper_30 dd z]
          have := nok_lbs hn hP
          have := (lbs_of hP).1
          have := pls_len (show 1 ≤ dd - 1 by omega) (by omega)
          refine ⟨by show lbs dd ≤ _; omega, by show 1 ≤ lbs dd; omega, ?_⟩
          show ((pls (dd - 1)).map (paper 29)).length ≤ 100
          rw [List.length_map]
          omega
      have lesser : ∀ j : Nat, 1 ≤ j → j < (paper 30 dd).b → shB 30 (.mk dd j (paper 30 dd).ps) = false := fun j j1 j2 => by
        by_cases z : dd = 2
        · subst z
          have : (paper 30 2).b = 1 := rfl
          omega
        · rw [paper_30 dd z] at j2 ⊢
          exact paper_less hP z j1 j2 30 rfl rfl (map_n 29 _)
      generalize paper 30 dd = P at *
      obtain ⟨s1, s2, s3, s4⟩ := (show szP (29 + 1) P from sz)
      obtain ⟨p2, l, xs, rfl, hp2, _, hl2, hx2⟩ := (show PapW (fun _ => True) H8 (29 + 1) v P from hv)
      refine q_if (b := decide (dd < dd)) (et_is (et_test (ev_op (ev_var rfl) (ev_var rfl) rv_I0)) (lt_dec dd dd)) (fun hb => by simp at hb) fun _ H9 e9 => ?_
      have f1 : ∀ {σ : L2.St} {H10 : Hp}, Ex H8 H10 → σ[7]? = some (some (.ref p)) → Ev (tOp (rIxT G.K) (tVar 7) (tC (.int 1))) σ H10 (.ref p2) := fun e hs => ev_op (ev_var hs) ev_c (rv_ixT (st_of (e p _ h8)) (atI_nat (j := 1) rfl))
      refine q_when (b := !true || (!decide (V.str "prime" = V.str "prime") || (!decide (V.int (P.n : Int) = V.int (dd : Int)) || !shB 30 P))) (et_or (et_not (et_B (ev_isi (ev_var rfl) (fun H10 e10 => ty_t (st_of ((e9.trans e10) p _ h8))) (by decide +kernel)))) fun _ => et_or (et_test (ev_op (ev_op (ev_var rfl) ev_c (rv_ixT (st_of (e9 p _ h8)) (atI_nat (j := 0) rfl))) ev_c (rv_ne rfl))) fun _ => et_or (et_test (ev_op (pap_n (hv.ex e9) (f1 e9 rfl)) (ev_var rfl) (rv_ne rfl))) fun _ => et_not (et_B (sub_law30 (hv.ex e9) sz (f1 e9 rfl)))) (fun hb => by rw [shw, pn] at hb; simp at hb) fun _ H10 e10 => ?_
      have e8a := e9.trans e10
      refine q_asgL (xs := (List.replicate ((P.b : Int) - 1).toNat false).map V.bl) (el_false (ea_cons ev_c (ea_cons (ev_op (f1 e8a rfl) ev_c (rv_ixT (st_of (e8a p2 _ hp2)) (atI_nat (j := 1) rfl))) ea_nil)) (by omega) (fun x => rfl) fun i H11 e11 hi => ?_) fun le H11 _ e11 h11 => ?_
      · have ej : (1 : Int) + (i : Int) = ((1 + i : Nat) : Int) := by omega
        rw [ej]
        refine ev_is (sub_law30P (P := .mk dd (1 + i) P.ps) ⟨by show dd ≤ _; omega, by show 1 + i ≤ _; omega, s3, s4⟩ (ep_pap (d := 29) (ev_var rfl) (ev_var rfl) (eps_ev (ev_op (f1 (e8a.trans e11) rfl) ev_c (rv_ixT (st_of ((e8a.trans e11) p2 _ hp2)) (atI_nat (j := 2) rfl))) ((e8a.trans e11) l _ hl2) (pap_ps (e8a.trans e11) hx2)))) (congrArg V.bl (lesser (1 + i) (by omega) (by omega)))
      have e8b := e8a.trans e11
      refine q_when (b := !decide (shB 30 P = true) || (decide (2 < dd) && (List.replicate ((P.b : Int) - 1).toNat false).any id)) (et_or (et_test (ev_op (sub_shows30 (hv.ex e8b) sz (f1 e8b rfl)) ev_c rv_notB)) fun _ => et_and (et_is (et_test (ev_op (ev_var rfl) ev_c rv_I0)) (lt_dec 2 dd)) fun _ => et_B (ev_anyV (ev_var rfl) (sq_of h11))) (fun hb => by rw [shw, any_rep] at hb; simp at hb) fun _ H12 e12 => ?_
      have e8c := e8b.trans e12
      refine s_forR1 (n := 5) (ea_cons ev_c ea_nil) (by decide) (fun i' σ' H' => ∃ y9 y10 y11 : Option V, σ' = [some (.ref a), some (.int (i : Int)), some (.int M), some (.ref pr), some (.ref so), some (.int (dd : Int)), some (.int (dd : Int)), some (.ref p), some (.ref le), y9, y10, y11, y12, y13] ∧ Ex H8 H') (fun H13 e13 => ⟨_, _, _, rfl, e8c.trans e13⟩) ?_ ?_
      · rintro j σ' H13 hj ⟨y9, y10, y11, rfl, e13⟩
        refine q_asgC2 (f1 e13 rfl) (ev_ca2 (ev_var rfl) (ev_is (w := .int ((30 + j : Nat) : Int)) (ev_op ev_c (ev_var rfl) rv_I0) (by congr 1)) fun H14 e14 Q' q' => ⟨M, ((30 + j : Nat) : Int), rfl, rfl, by omega, by omega, q'⟩) fun H14 e14 => ⟨P, drawn M ((30 + j : Nat) : Int), rfl, drawn_nn _ _, hv.ex (e13.trans e14), sz, by omega, by omega, bb.2.2, fun v' P' H15 e15 hv' sz' => ?_⟩
        refine q_asg (v := .bl (shB 30 P')) (sub_shows30 hv' sz' (ev_var rfl)) fun H16 e16 => ?_
        exact s_when (b := !true || !decide (V.bl (shB 30 P') = V.bl (shB 30 P'))) (et_or (et_not (et_B (ev_isi (ev_var rfl) (fun _ _ => .base (.bl _)) (by decide +kernel)))) fun _ => et_test (ev_op (ev_var rfl) (sub_law30 (hv'.ex e16) sz' (ev_var rfl)) (rv_ne rfl))) (fun hb => by simp at hb) fun _ H17 e17 => ⟨_, _, _, rfl, e13.trans (e14.trans (e15.trans (e16.trans e17)))⟩
      · rintro σ' H13 ⟨y9, y10, y11, rfl, e13⟩
        have n13 := n8.ex e13
        exact law_tail dn rfl (by show 12 < 14; decide) n13.2 fun v H' n' => ⟨_, _, _, _, _, _, _, _, _, _, _, _, _, rfl, n13.trans n'⟩
  · rintro σ' H1 ⟨y1, y2, y3, y4, y5, y6, y7, y8, y9, y10, y11, y12, y13, rfl, n1⟩
    exact s_ret ev_c fun H2 e2 => q H2
end Sv

set_option Elab.async false
set_option linter.all false
set_option maxRecDepth 100000
set_option maxHeartbeats 4000000
namespace Sv
open PySem PySem.Spec PyProof.Rows L2 Evl HotX L2H LamX
def topS (i : Nat) : Stmt := PySem.Challenge.pw_sievewright_k50_whole_papers.main.body.getD i (.Pass ⟨0, 0, 0, 0⟩)
section
variable {P : Program} {w : World} {G : Pm} {mg : Str → Option Value} {base : Heap}
abbrev s__law_told : Stmt := topS 22
theorem sc__law_told : FnScope ["_law_deed", "_law_e"] ["_law_deed"] (defScope s__law_told) := ⟨rfl, rfl, rfl, by decide +kernel, rfl, by decide +kernel, by decide +kernel⟩
abbrev s_need_number : Stmt := topS 10
theorem sc_need_number : FnScope n_need_number p_need_number (defScope s_need_number) := ⟨rfl, rfl, rfl, by decide +kernel, rfl, by decide +kernel, by decide +kernel⟩
theorem ok_need_number (D_need_number : DefAt G.K mg "need_number" s_need_number) (m_int : mg "int" = none) (m_isinstance : mg "isinstance" = none) (m_bool : mg "bool" = none) (x_BadNumber : ErrAt G.K mg "BadNumber" G.BadNumber) (HP : P_need_number G) : Ok P w G.K mg base (CXN P w) 1 "need_number" p_need_number (sp_need_number G) :=
  mk_ok D_need_number sc_need_number (fun _ _ _ _ _ _ us hl => match us, hl with | [_, _, _], _ => rfl) sp3_len (t_need_number G)
    (fun vs H Q E h => match vs, h with | [x0, x1, x2], h => HP x0 x1 x2 H Q E h)
    (fun f cdv A outer s H E hr =>
  (pss_one (ps_if (PW.pt (pw_or (pt_not (pt_val (pe_callB call_isi (by rfl) m_isinstance (by decide +kernel) (pa_cons (pv 0) (pa_cons (pe_bltn (v := .ty "int") (by rfl) m_int (by decide +kernel) rfl) pa_nil))))) (pw_or (pt_val (pe_callB call_isi (by rfl) m_isinstance (by decide +kernel) (pa_cons (pv 0) (pa_cons (pe_bltn (v := .ty "bool") (by rfl) m_bool (by decide +kernel) rfl) pa_nil)))) (pw_or1 (pt_not (pt_chain op_le op_le (pv 1) (pv 0) (pv 2)))))))
  (pss_one (ps_raiseN x_BadNumber (by rfl) rfl rfl rfl rfl rfl))
  pss_nil)))
abbrev s_apart : Stmt := topS 11
theorem sc_apart : FnScope n_apart p_apart (defScope s_apart) := ⟨rfl, rfl, rfl, by decide +kernel, rfl, by decide +kernel, by decide +kernel⟩
theorem ok_apart (D_apart : DefAt G.K mg "apart" s_apart) (HP : P_apart G) : Ok P w G.K mg base (CXN P w) 1 "apart" p_apart (sp_apart G) :=
  mk_ok D_apart sc_apart (fun _ _ _ _ _ _ us hl => match us, hl with | [_], _ => rfl) sp1_len (t_apart G)
    (fun vs H Q E h => match vs, h with | [x0], h => HP x0 H Q E h)
    (fun f cdv A outer s H E hr =>
  (pss_cons (ps_set (i := 1) sc_apart.nd rfl (Or.inl rfl) (pe_lst pa_nil))
  (pss_cons (ps_set (i := 2) sc_apart.nd rfl (Or.inl rfl) pe_int)
  (pss_cons (ps_while (L2.passes_of rfl) (pt_cmpR op_le (pe_op op_mulA (pv 2) (pv 2)) (pv 0) (nomark _))
  (pss_cons (ps_set (i := 3) sc_apart.nd rfl (Or.inl rfl) pe_int)
  (pss_cons (ps_while (L2.passes_of rfl) (pt_cmpR op_eq (pe_op op_mod (pv 0) (pv 2)) pe_int (nomark _))
  (pss_cons (ps_set (i := 0) sc_apart.nd rfl (Or.inl rfl) (pe_op op_fdivW (pv 0) (pv 2)))
  (pss_one (ps_set (i := 3) sc_apart.nd rfl (Or.inl rfl) (pe_op op_add (pv 3) pe_int)))))
  (pss_cons (ps_if (pt_cmpR op_gt (pv 3) pe_int (nomark _))
  (pss_one (ps_expr (pe_bm PySem.F.plainAttrs_list PySem.F.slot_list_append PySem.F.type_list_append mt_append (pv 1) (pa_cons (pe_tup (pa_cons (pv 2) (pa_cons (pv 3) pa_nil))) pa_nil))))
  pss_nil)
  (pss_one (ps_set (i := 2) sc_apart.nd rfl (Or.inl rfl) (pe_op op_add (pv 2) pe_int)))))))
  (pss_cons (ps_if (pt_cmpR op_gt (pv 0) pe_int (nomark _))
  (pss_one (ps_expr (pe_bm PySem.F.plainAttrs_list PySem.F.slot_list_append PySem.F.type_list_append mt_append (pv 1) (pa_cons (pe_tup (pa_cons (pv 0) (pa_cons pe_int pa_nil))) pa_nil))))
  pss_nil)
  (pss_one (ps_ret (pv 1))))))))
abbrev s_rest_of : Stmt := topS 13
theorem sc_rest_of : FnScope n_rest_of p_rest_of (defScope s_rest_of) := ⟨rfl, rfl, rfl, by decide +kernel, rfl, by decide +kernel, by decide +kernel⟩
theorem ok_rest_of (D_rest_of : DefAt G.K mg "rest_of" s_rest_of) (HP : P_rest_of G) : Ok P w G.K mg base (CXN P w) 1 "rest_of" p_rest_of (sp_rest_of G) :=
  mk_ok D_rest_of sc_rest_of (fun _ _ _ _ _ _ us hl => match us, hl with | [_, _, _], _ => rfl) sp3_len (t_rest_of G)
    (fun vs H Q E h => match vs, h with | [x0, x1, x2], h => HP x0 x1 x2 H Q E h)
    (fun f cdv A outer s H E hr =>
  (pss_cons (ps_set (i := 3) sc_rest_of.nd rfl (Or.inl rfl) (pe_op op_mod pe_int (pv 2)))
  (pss_cons (ps_set (i := 0) sc_rest_of.nd rfl (Or.inl rfl) (pe_op op_mod (pv 0) (pv 2)))
  (pss_cons (ps_while (L2.passes_of rfl) (pt_cmpR op_gt (pv 1) pe_int (nomark _))
  (pss_cons (ps_if (pt_cmpR op_eq (pe_op op_mod (pv 1) pe_int) pe_int (nomark _))
  (pss_one (ps_set (i := 3) sc_rest_of.nd rfl (Or.inl rfl) (pe_op op_mod (pe_op op_mulA (pv 3) (pv 0)) (pv 2))))
  pss_nil)
  (pss_cons (ps_set (i := 0) sc_rest_of.nd rfl (Or.inl rfl) (pe_op op_mod (pe_op op_mulA (pv 0) (pv 0)) (pv 2)))
  (pss_one (ps_set (i := 1) sc_rest_of.nd rfl (Or.inl rfl) (pe_op op_fdivW (pv 1) pe_int))))))
  (pss_one (ps_ret (pv 3)))))))
abbrev s_divided_by : Stmt := topS 14
theorem sc_divided_by : FnScope n_divided_by p_divided_by (defScope s_divided_by) := ⟨rfl, rfl, rfl, by decide +kernel, rfl, by decide +kernel, by decide +kernel⟩
theorem ok_divided_by (D_divided_by : DefAt G.K mg "divided_by" s_divided_by) (HP : P_divided_by G) : Ok P w G.K mg base (CXN P w) 1 "divided_by" p_divided_by (sp_divided_by G) :=
  mk_ok D_divided_by sc_divided_by (fun _ _ _ _ _ _ us hl => match us, hl with | [_, _], _ => rfl) sp2_len (t_divided_by G)
    (fun vs H Q E h => match vs, h with | [x0, x1], h => HP x0 x1 H Q E h)
    (fun f cdv A outer s H E hr =>
  (pss_cons (ps_for (L2.passes_of rfl) rfl (pi_list (pv 1)) (pg_name (i := 2) sc_divided_by.nd rfl (Or.inl rfl))
  (pss_one (ps_while (L2.passes_of rfl) (pt_cmpR op_eq (pe_op op_mod (pv 0) (pv 2)) pe_int (nomark _))
  (pss_one (ps_set (i := 0) sc_divided_by.nd rfl (Or.inl rfl) (pe_op op_fdivW (pv 0) (pv 2)))))))
  (pss_one (ps_ret (pv 0)))))
abbrev s_shows : Stmt := topS 15
theorem sc_shows : FnScope n_shows p_shows (defScope s_shows) := ⟨rfl, rfl, rfl, by decide +kernel, rfl, by decide +kernel, by decide +kernel⟩
theorem ok_shows (D_shows : DefAt G.K mg "shows" s_shows) (C_divided_by : Ok P w G.K mg base (CXN P w) 1 "divided_by" p_divided_by (sp_divided_by G)) (C_rest_of : Ok P w G.K mg base (CXN P w) 1 "rest_of" p_rest_of (sp_rest_of G)) (m_all : mg "all" = none) (m_zip : mg "zip" = none) (HP : P_shows G) {d : Nat} (C_shows : Ok P w G.K mg base (CXN P w) (1 + d) "shows" p_shows (sp_shows G d)) : Ok P w G.K mg base (CXN P w) (1 + d + 1) "shows" p_shows (sp_shows G (d + 1)) :=
  mk_ok D_shows sc_shows (fun _ _ _ _ _ _ us hl => match us, hl with | [_], _ => rfl) sp1_len (t_shows G d)
    (fun vs H Q E h => match vs, h with | [x0], h => HP d x0 H Q E h)
    (fun f cdv A outer s H E hr =>
  (pss_cons (ps_asg (pv 0) (pg_tup rfl (pgs_cons (pg_name (i := 1) sc_shows.nd rfl (Or.inr rfl)) (pgs_cons (pg_name (i := 2) sc_shows.nd rfl (Or.inr rfl)) (pgs_cons (pg_name (i := 3) sc_shows.nd rfl (Or.inl rfl)) pgs_nil)))))
  (pss_cons (ps_if (pt_cmpR op_eq (pv 1) pe_int (nomark _))
  (pss_one (ps_ret (pe_and (pe_cmpR op_eq (pv 2) pe_int (nomark _)) (pe_one (pe_cmpR (op_eqD hr.units) (pv 3) (pe_lst pa_nil) (nomark _))))))
  pss_nil)
  (pss_cons (ps_if (PW.pt (pw_or (pt_cmpR op_lt (pv 1) pe_int (nomark _)) (pw_or (pt_cmpR op_eq (pe_op op_mod (pv 1) pe_int) pe_int (nomark _)) (pw_or1 (pt_not (pt_val (pe_callB (cr_all rfl) (by rfl) m_all (by decide +kernel) (pa_cons (pe_lc (own := [("one", 5)]) rfl sc_shows.nd (pi_list (pv 3)) (blkOk_by (N := n_shows) (sc := defScope s_shows) (by decide +kernel)) (fun _ _ _ _ _ => (pg_name (i := 5) sc_shows.nd rfl (Or.inl rfl))) (fun _ _ _ _ _ => pts_nil) (fun _ _ _ _ _ => (pe_ok C_shows hr (by omega) (by rfl) psn (pa_cons (pv 5) pa_nil)))) pa_nil))))))))
  (pss_one (ps_ret pe_bl))
  pss_nil)
  (pss_cons (ps_setLc (i := 4) (own := [("one", 5)]) rfl sc_shows.nd rfl rfl (sw_true rfl rfl rfl (by decide +kernel)) (pi_list (pv 3)) (blkOk_by (N := n_shows) (sc := defScope s_shows) (by decide +kernel)) (fun _ _ _ _ _ => (pg_name (i := 5) sc_shows.nd rfl (Or.inl rfl))) (fun _ _ _ _ _ => pts_nil) (fun _ _ _ _ _ => (pe_ix ix_tup (pv 5) pe_int (fun _ _ => rfl))))
  (pss_cons (ps_if (pt_not (pt_val (pe_callB (cr_all rfl) (by rfl) m_all (by decide +kernel) (pa_cons (pe_lc (own := [("one", 5), ("other", 6)]) rfl sc_shows.nd (pi_zip (by rfl) m_zip (pa_cons (pv 4) (pa_cons (pe_slice sl_list (pv 4) (po_some pe_int) po_none) pa_nil))) (blkOk_by (N := n_shows) (sc := defScope s_shows) (by decide +kernel)) (fun _ _ _ _ _ => (pg_tup rfl (pgs_cons (pg_name (i := 5) sc_shows.nd rfl (Or.inl rfl)) (pgs_cons (pg_name (i := 6) sc_shows.nd rfl (Or.inl rfl)) pgs_nil)))) (fun _ _ _ _ _ => pts_nil) (fun _ _ _ _ _ => (pe_cmpR op_lt (pv 5) (pv 6) (nomark _)))) pa_nil))))
  (pss_one (ps_ret pe_bl))
  pss_nil)
  (pss_cons (ps_if (PW.pt (pw_or (pt_not (pt_val (pe_callB (cr_all rfl) (by rfl) m_all (by decide +kernel) (pa_cons (pe_lc (own := [("prime", 7)]) rfl sc_shows.nd (pi_list (pv 4)) (blkOk_by (N := n_shows) (sc := defScope s_shows) (by decide +kernel)) (fun _ _ _ _ _ => (pg_name (i := 7) sc_shows.nd rfl (Or.inl rfl))) (fun _ _ _ _ _ => pts_nil) (fun _ _ _ _ _ => (pe_cmpR op_eq (pe_op op_mod (pe_op op_sub (pv 1) pe_int) (pv 7)) pe_int (nomark _)))) pa_nil)))) (pw_or1 (pt_cmpR op_ne (pe_ok C_divided_by hr (by omega) (by rfl) (psx rfl rfl rfl rfl) (pa_cons (pe_op op_sub (pv 1) pe_int) (pa_cons (pv 4) pa_nil))) pe_int (nomark _)))))
  (pss_one (ps_ret pe_bl))
  pss_nil)
  (pss_cons (ps_if (pt_cmpR op_ne (pe_ok C_rest_of hr (by omega) (by rfl) (psx rfl rfl rfl rfl) (pa_cons (pv 2) (pa_cons (pe_op op_sub (pv 1) pe_int) (pa_cons (pv 1) pa_nil)))) pe_int (nomark _))
  (pss_one (ps_ret pe_bl))
  pss_nil)
  (pss_one (ps_ret (pe_callB (cr_all rfl) (by rfl) m_all (by decide +kernel) (pa_cons (pe_lc (own := [("prime", 7)]) rfl sc_shows.nd (pi_list (pv 4)) (blkOk_by (N := n_shows) (sc := defScope s_shows) (by decide +kernel)) (fun _ _ _ _ _ => (pg_name (i := 7) sc_shows.nd rfl (Or.inl rfl))) (fun _ _ _ _ _ => pts_nil) (fun _ _ _ _ _ => (pe_cmpR op_ne (pe_ok C_rest_of hr (by omega) (by rfl) psn (pa_cons (pv 2) (pa_cons (pe_op op_fdivW (pe_op op_sub (pv 1) pe_int) (pv 7)) (pa_cons (pv 1) pa_nil)))) pe_int (nomark _)))) pa_nil))))))))))))
theorem okn_shows (D_shows : DefAt G.K mg "shows" s_shows) (C_divided_by : Ok P w G.K mg base (CXN P w) 1 "divided_by" p_divided_by (sp_divided_by G)) (C_rest_of : Ok P w G.K mg base (CXN P w) 1 "rest_of" p_rest_of (sp_rest_of G)) (m_all : mg "all" = none) (m_zip : mg "zip" = none) (HP : P_shows G) : ∀ d, Ok P w G.K mg base (CXN P w) (1 + d) "shows" p_shows (sp_shows G d)
  | 0 => (ok_none D_shows (fun _ _ _ _ _ _ us hl => match us, hl with | [_], _ => rfl) (fun vs H Q E h => match vs, h with | [_], h => h)).mono (Nat.zero_le _)
  | d + 1 => ok_shows D_shows C_divided_by C_rest_of m_all m_zip HP (okn_shows D_shows C_divided_by C_rest_of m_all m_zip HP d)
abbrev s_paper_of : Stmt := topS 16
theorem sc_paper_of : FnScope n_paper_of p_paper_of (defScope s_paper_of) := ⟨rfl, rfl, rfl, by decide +kernel, rfl, by decide +kernel, by decide +kernel⟩
theorem ok_paper_of (D_paper_of : DefAt G.K mg "paper_of" s_paper_of) (C_apart : Ok P w G.K mg base (CXN P w) 1 "apart" p_apart (sp_apart G)) (C_rest_of : Ok P w G.K mg base (CXN P w) 1 "rest_of" p_rest_of (sp_rest_of G)) (m_all : mg "all" = none) (HP : P_paper_of G) {d : Nat} (C_paper_of : Ok P w G.K mg base (CXN P w) (1 + d) "paper_of" p_paper_of (sp_paper_of G d)) : Ok P w G.K mg base (CXN P w) (1 + d + 1) "paper_of" p_paper_of (sp_paper_of G (d + 1)) :=
  mk_ok D_paper_of sc_paper_of (fun _ _ _ _ _ _ us hl => match us, hl with | [_], _ => rfl) sp1_len (t_paper_of G d)
    (fun vs H Q E h => match vs, h with | [x0], h => HP d x0 H Q E h)
    (fun f cdv A outer s H E hr =>
  (pss_cons (ps_if (pt_cmpR op_eq (pv 0) pe_int (nomark _))
  (pss_one (ps_ret (pe_tup (pa_cons pe_int (pa_cons pe_int (pa_cons (pe_lst pa_nil) pa_nil))))))
  pss_nil)
  (pss_cons (ps_setLc (i := 1) (own := [("prime", 3), ("often", 4)]) rfl sc_paper_of.nd rfl rfl (sw_true rfl rfl rfl (by decide +kernel)) (pi_list (pe_ok C_apart hr (by omega) (by rfl) (psx rfl rfl rfl rfl) (pa_cons (pe_op op_sub (pv 0) pe_int) pa_nil))) (blkOk_by (N := n_paper_of) (sc := defScope s_paper_of) (by decide +kernel)) (fun _ _ _ _ _ => (pg_tup rfl (pgs_cons (pg_name (i := 3) sc_paper_of.nd rfl (Or.inl rfl)) (pgs_cons (pg_name (i := 4) sc_paper_of.nd rfl (Or.inl rfl)) pgs_nil)))) (fun _ _ _ _ _ => pts_nil) (fun _ _ _ _ _ => (pv 3)))
  (pss_cons (ps_set (i := 2) sc_paper_of.nd rfl (Or.inr rfl) pe_int)
  (pss_cons (ps_while (L2.passes_of rfl) (pt_not (pt_val (pe_callB (cr_all rfl) (by rfl) m_all (by decide +kernel) (pa_cons (pe_lc (own := [("prime", 3)]) rfl sc_paper_of.nd (pi_list (pv 1)) (blkOk_by (N := n_paper_of) (sc := defScope s_paper_of) (by decide +kernel)) (fun _ _ _ _ _ => (pg_name (i := 3) sc_paper_of.nd rfl (Or.inl rfl))) (fun _ _ _ _ _ => pts_nil) (fun _ _ _ _ _ => (pe_cmpR op_ne (pe_ok C_rest_of hr (by omega) (by rfl) psn (pa_cons (pv 2) (pa_cons (pe_op op_fdivW (pe_op op_sub (pv 0) pe_int) (pv 3)) (pa_cons (pv 0) pa_nil)))) pe_int (nomark _)))) pa_nil))))
  (pss_one (ps_set (i := 2) sc_paper_of.nd rfl (Or.inr rfl) (pe_op op_add (pv 2) pe_int))))
  (pss_one (ps_ret (pe_tup (pa_cons (pv 0) (pa_cons (pv 2) (pa_cons (pe_lc (own := [("prime", 3)]) rfl sc_paper_of.nd (pi_list (pv 1)) (blkOk_by (N := n_paper_of) (sc := defScope s_paper_of) (by decide +kernel)) (fun _ _ _ _ _ => (pg_name (i := 3) sc_paper_of.nd rfl (Or.inl rfl))) (fun _ _ _ _ _ => pts_nil) (fun _ _ _ _ _ => (pe_ok C_paper_of hr (by omega) (by rfl) psn (pa_cons (pv 3) pa_nil)))) pa_nil)))))))))))
theorem okn_paper_of (D_paper_of : DefAt G.K mg "paper_of" s_paper_of) (C_apart : Ok P w G.K mg base (CXN P w) 1 "apart" p_apart (sp_apart G)) (C_rest_of : Ok P w G.K mg base (CXN P w) 1 "rest_of" p_rest_of (sp_rest_of G)) (m_all : mg "all" = none) (HP : P_paper_of G) : ∀ d, Ok P w G.K mg base (CXN P w) (1 + d) "paper_of" p_paper_of (sp_paper_of G d)
  | 0 => (ok_none D_paper_of (fun _ _ _ _ _ _ us hl => match us, hl with | [_], _ => rfl) (fun vs H Q E h => match vs, h with | [_], h => h)).mono (Nat.zero_le _)
  | d + 1 => ok_paper_of D_paper_of C_apart C_rest_of m_all HP (okn_paper_of D_paper_of C_apart C_rest_of m_all HP d)
abbrev s_prime_or_parts : Stmt := topS 17
theorem sc_prime_or_parts : FnScope n_prime_or_parts p_prime_or_parts (defScope s_prime_or_parts) := ⟨rfl, rfl, rfl, by decide +kernel, rfl, by decide +kernel, by decide +kernel⟩
theorem ok_prime_or_parts (D_prime_or_parts : DefAt G.K mg "prime_or_parts" s_prime_or_parts) (C_need_number : Ok P w G.K mg base (CXN P w) 1 "need_number" p_need_number (sp_need_number G)) (C_apart : Ok P w G.K mg base (CXN P w) 1 "apart" p_apart (sp_apart G)) (C_paper_of : Ok P w G.K mg base (CXN P w) 31 "paper_of" p_paper_of (sp_paper_of G 30)) (c_MOST_NUMBER : ∃ t, mg "MOST_NUMBER" = some (.int 1000000000 t)) (HP : P_prime_or_parts G) : Ok P w G.K mg base (CXN P w) 32 "prime_or_parts" p_prime_or_parts (sp_prime_or_parts G) :=
  mk_ok D_prime_or_parts sc_prime_or_parts (fun _ _ _ _ _ _ us hl => match us, hl with | [_], _ => rfl) sp1_len (t_prime_or_parts G)
    (fun vs H Q E h => match vs, h with | [x0], h => HP x0 H Q E h)
    (fun f cdv A outer s H E hr =>
  (pss_cons (ps_expr (pe_ok C_need_number hr (by decide) (by rfl) (psx rfl rfl rfl rfl) (pa_cons (pv 0) (pa_cons pe_int (pa_cons (pe_glob (by rfl) c_MOST_NUMBER.choose_spec ⟨_, rfl⟩) pa_nil)))))
  (pss_cons (ps_set (i := 1) sc_prime_or_parts.nd rfl (Or.inl rfl) (pe_ok C_apart hr (by decide) (by rfl) (psx rfl rfl rfl rfl) (pa_cons (pv 0) pa_nil)))
  (pss_cons (ps_if (pt_cmpR op_lt (pe_ix ix_tup (pe_ix ix_list (pv 1) pe_int (fun _ _ => rfl)) pe_int (fun _ _ => rfl)) (pv 0) (nomark _))
  (pss_one (ps_ret (pe_tup (pa_cons pe_str (pa_cons (pe_ix ix_tup (pe_ix ix_list (pv 1) pe_int (fun _ _ => rfl)) pe_int (fun _ _ => rfl)) pa_nil)))))
  pss_nil)
  (pss_one (ps_ret (pe_tup (pa_cons pe_str (pa_cons (pe_ok C_paper_of hr (by decide) (by rfl) (psx rfl rfl rfl rfl) (pa_cons (pv 0) pa_nil)) pa_nil)))))))))
abbrev s__law_cell : Stmt := topS 19
theorem sc__law_cell : FnScope n__law_cell p__law_cell (defScope s__law_cell) := ⟨rfl, rfl, rfl, by decide +kernel, rfl, by decide +kernel, by decide +kernel⟩
theorem ok__law_cell (D__law_cell : DefAt G.K mg "_law_cell" s__law_cell) (m_len : mg "len" = none) (HP : P__law_cell G) : Ok P w G.K mg base (CXN P w) 1 "_law_cell" p__law_cell (sp__law_cell G) :=
  mk_ok D__law_cell sc__law_cell (fun _ _ _ _ _ _ us hl => match us, hl with | [_, _], _ => rfl) sp2_len (t__law_cell G)
    (fun vs H Q E h => match vs, h with | [x0, x1], h => HP x0 x1 H Q E h)
    (fun f cdv A outer s H E hr =>
  (pss_cons (ps_if (pt_cmpR (op_eqD hr.units) (pv 0) (pe_lst pa_nil) (nomark _))
  (pss_one (ps_ret (pe_op op_mulA (pv 1) pe_int)))
  pss_nil)
  (pss_one (ps_ret (pe_op op_add (pe_ix ix_list (pv 0) (pe_op op_mod (pv 1) (pe_callB call_len_seq (by rfl) m_len (by decide +kernel) (pa_cons (pv 0) pa_nil))) (fun _ _ => rfl)) (pe_op op_mulA (pe_op op_fdivW (pv 1) (pe_callB call_len_seq (by rfl) m_len (by decide +kernel) (pa_cons (pv 0) pa_nil))) pe_int))))))
abbrev s__law_drawn : Stmt := topS 20
theorem sc__law_drawn : FnScope n__law_drawn p__law_drawn (defScope s__law_drawn) := ⟨rfl, rfl, rfl, by decide +kernel, rfl, by decide +kernel, by decide +kernel⟩
theorem ok__law_drawn (D__law_drawn : DefAt G.K mg "_law_drawn" s__law_drawn) (HP : P__law_drawn G) : Ok P w G.K mg base (CXN P w) 1 "_law_drawn" p__law_drawn (sp__law_drawn G) :=
  mk_ok D__law_drawn sc__law_drawn (fun _ _ _ _ _ _ us hl => match us, hl with | [_, _], _ => rfl) sp2_len (t__law_drawn G)
    (fun vs H Q E h => match vs, h with | [x0, x1], h => HP x0 x1 H Q E h)
    (fun f cdv A outer s H E hr =>
  (pss_cons (ps_set (i := 2) sc__law_drawn.nd rfl (Or.inl rfl) (pe_op op_mod (pe_op op_add (pe_op op_mulA (pv 0) pe_int) (pe_op op_mulA (pe_op op_add (pv 1) pe_int) pe_int)) pe_int))
  (pss_cons (ps_set (i := 2) sc__law_drawn.nd rfl (Or.inl rfl) (pe_op op_mod (pe_op op_mulA (pv 2) (pv 2)) pe_int))
  (pss_cons (ps_set (i := 2) sc__law_drawn.nd rfl (Or.inl rfl) (pe_op op_mulA (pe_op op_mulA (pe_op op_add (pe_op op_mod (pv 2) pe_int) pe_int) (pe_op op_add (pe_op op_fdivW (pv 2) pe_int) pe_int)) (pv 2)))
  (pss_one (ps_ret (pe_op op_mod (pv 2) pe_int)))))))
abbrev s__law_word : Stmt := topS 21
theorem sc__law_word : FnScope n__law_word p__law_word (defScope s__law_word) := ⟨rfl, rfl, rfl, by decide +kernel, rfl, by decide +kernel, by decide +kernel⟩
theorem ok__law_word (D__law_word : DefAt G.K mg "_law_word" s__law_word) (m_isinstance : mg "isinstance" = none) (m_int : mg "int" = none) (m_sum : mg "sum" = none) (m_ValueError : mg "ValueError" = none) (x_NoWay : ErrAt G.K mg "NoWay" G.NoWay) (x_Unlike : ErrAt G.K mg "Unlike" G.Unlike) (x_BadTable : ErrAt G.K mg "BadTable" G.BadTable) (x_BadName : ErrAt G.K mg "BadName" G.BadName) (x_BadSums : ErrAt G.K mg "BadSums" G.BadSums) (x_BadNumber : ErrAt G.K mg "BadNumber" G.BadNumber) (TX : ∀ C nm, WE G C nm → ExcC G.K C) (HP : P__law_word G) : WordOk P w G.K mg base 1 "_law_word" "_law_e" (WE G) :=
  mk_word D__law_word sc__law_word (fun _ _ _ _ _ _ us hl => match us, hl with | [_], _ => rfl) (t__law_word G) HP
    (fun g cdv A outer s H p C hw hot hr hz => by
      obtain ⟨nm, hw⟩ := hw
      have TE := TX C nm hw
      obtain ⟨ws, dws, _⟩ := id hot.2
      have hf : ∃ vs, p.2.data = .fields vs := ⟨ws, dws⟩
      have hpn : (p.1, p.2) ∈ (cxH (CXN P w) P w G.K mg base n__law_word "_law_word" (defScope s__law_word) g cdv A outer s H E0 p).pn := List.mem_singleton.mpr rfl
      have hc : HotC (cxH (CXN P w) P w G.K mg base n__law_word "_law_word" (defScope s__law_word) g cdv A outer s H E0 p) := ⟨p, hot, hpn⟩
      exact
  (pss_cons (ps_set (i := 1) sc__law_word.nd rfl (Or.inl rfl) (pe_lst (pa_cons (pe_callB (call_isP hpn TE hz hf) (by rfl) m_isinstance (by decide +kernel) (pa_cons (pv 0) (pa_cons (pe_glob (v := .ref G.BadTable) (by rfl) x_BadTable.gC rfl) pa_nil))) (pa_cons (pe_callB (call_isP hpn TE hz hf) (by rfl) m_isinstance (by decide +kernel) (pa_cons (pv 0) (pa_cons (pe_glob (v := .ref G.Unlike) (by rfl) x_Unlike.gC rfl) pa_nil))) (pa_cons (pe_callB (call_isP hpn TE hz hf) (by rfl) m_isinstance (by decide +kernel) (pa_cons (pv 0) (pa_cons (pe_glob (v := .ref G.NoWay) (by rfl) x_NoWay.gC rfl) pa_nil))) pa_nil)))))
  (pss_cons (ps_set (i := 1) sc__law_word.nd rfl (Or.inl rfl) (pe_op op_cat (pv 1) (pe_lst (pa_cons (pe_callB (call_isP hpn TE hz hf) (by rfl) m_isinstance (by decide +kernel) (pa_cons (pv 0) (pa_cons (pe_glob (v := .ref G.BadName) (by rfl) x_BadName.gC rfl) pa_nil))) pa_nil))))
  (pss_cons (ps_set (i := 1) sc__law_word.nd rfl (Or.inl rfl) (pe_op op_cat (pv 1) (pe_lst (pa_cons (pe_callB (call_isP hpn TE hz hf) (by rfl) m_isinstance (by decide +kernel) (pa_cons (pv 0) (pa_cons (pe_glob (v := .ref G.BadNumber) (by rfl) x_BadNumber.gC rfl) pa_nil))) (pa_cons (pe_callB (call_isP hpn TE hz hf) (by rfl) m_isinstance (by decide +kernel) (pa_cons (pv 0) (pa_cons (pe_glob (v := .ref G.BadSums) (by rfl) x_BadSums.gC rfl) pa_nil))) pa_nil)))))
  (pss_cons (ps_if (PW.pt (pw_or (pt_cmpR op_ne (pe_callB (cr_sumH hc) (by rfl) m_sum (by decide +kernel) (pa_cons (pe_intsH hc (pv 1) (by rfl) (by decide +kernel) rfl (by decide +kernel) (by decide +kernel) (fun _ => by rfl) m_int (by decide)) pa_nil)) pe_int (nomark _)) (pw_or1 (pt_not (pt_val (pe_callB (call_isP hpn TE hz hf) (by rfl) m_isinstance (by decide +kernel) (pa_cons (pv 0) (pa_cons (pe_bltn (v := .ty "ValueError") (by rfl) m_ValueError (by decide +kernel) rfl) pa_nil))))))))
  (pss_one (ps_ret pe_str))
  pss_nil)
  (pss_one (ps_ret (pe_ix ix_list (pe_lst (pa_cons pe_str (pa_cons pe_str (pa_cons pe_str (pa_cons pe_str (pa_cons pe_str (pa_cons pe_str pa_nil))))))) (pe_bm PySem.F.plainAttrs_list PySem.F.slot_list_index PySem.F.type_list_index mt_index (pv 1) (pa_cons pe_bl pa_nil)) (fun _ _ => rfl)))))))))
abbrev s__law_least : Stmt := topS 23
theorem sc__law_least : FnScope n__law_least p__law_least (defScope s__law_least) := ⟨rfl, rfl, rfl, by decide +kernel, rfl, by decide +kernel, by decide +kernel⟩
theorem ok__law_least (D__law_least : DefAt G.K mg "_law_least" s__law_least) (HP : P__law_least G) : Ok P w G.K mg base (CXN P w) 1 "_law_least" p__law_least (sp__law_least G) :=
  mk_ok D__law_least sc__law_least (fun _ _ _ _ _ _ us hl => match us, hl with | [_], _ => rfl) sp1_len (t__law_least G)
    (fun vs H Q E h => match vs, h with | [x0], h => HP x0 H Q E h)
    (fun f cdv A outer s H E hr =>
  (pss_cons (ps_set (i := 1) sc__law_least.nd rfl (Or.inl rfl) pe_int)
  (pss_cons (ps_while (L2.passes_of rfl) (pt_cmpR op_le (pe_op op_mulA (pv 1) (pv 1)) (pv 0) (nomark _))
  (pss_cons (ps_if (pt_cmpR op_eq (pe_op op_mod (pv 0) (pv 1)) pe_int (nomark _))
  (pss_one (ps_ret (pv 1)))
  pss_nil)
  (pss_one (ps_set (i := 1) sc__law_least.nd rfl (Or.inl rfl) (pe_op op_add (pv 1) pe_int)))))
  (pss_one (ps_ret (pv 0))))))
abbrev s__law_power : Stmt := topS 24
theorem sc__law_power : FnScope n__law_power p__law_power (defScope s__law_power) := ⟨rfl, rfl, rfl, by decide +kernel, rfl, by decide +kernel, by decide +kernel⟩
theorem ok__law_power (D__law_power : DefAt G.K mg "_law_power" s__law_power) (HP : P__law_power G) {d : Nat} (C__law_power : Ok P w G.K mg base (CXN P w) (0 + d) "_law_power" p__law_power (sp__law_power G d)) : Ok P w G.K mg base (CXN P w) (0 + d + 1) "_law_power" p__law_power (sp__law_power G (d + 1)) :=
  mk_ok D__law_power sc__law_power (fun _ _ _ _ _ _ us hl => match us, hl with | [_, _, _], _ => rfl) sp3_len (t__law_power G d)
    (fun vs H Q E h => match vs, h with | [x0, x1, x2], h => HP d x0 x1 x2 H Q E h)
    (fun f cdv A outer s H E hr =>
  (pss_cons (ps_if (pt_cmpR op_eq (pv 1) pe_int (nomark _))
  (pss_one (ps_ret (pe_op op_mod pe_int (pv 2))))
  pss_nil)
  (pss_cons (ps_set (i := 3) sc__law_power.nd rfl (Or.inl rfl) (pe_ok C__law_power hr (by omega) (by rfl) (psx rfl rfl rfl rfl) (pa_cons (pv 0) (pa_cons (pe_op op_fdivW (pv 1) pe_int) (pa_cons (pv 2) pa_nil)))))
  (pss_one (ps_ret (pe_op op_mod (pe_op op_mulA (pe_op op_mulA (pv 3) (pv 3)) (pe_ix ix_list (pe_lst (pa_cons pe_int (pa_cons (pv 0) pa_nil))) (pe_op op_mod (pv 1) pe_int) (fun _ _ => rfl))) (pv 2)))))))
theorem okn__law_power (D__law_power : DefAt G.K mg "_law_power" s__law_power) (HP : P__law_power G) : ∀ d, Ok P w G.K mg base (CXN P w) (0 + d) "_law_power" p__law_power (sp__law_power G d)
  | 0 => (ok_none D__law_power (fun _ _ _ _ _ _ us hl => match us, hl with | [_, _, _], _ => rfl) (fun vs H Q E h => match vs, h with | [_, _, _], h => h)).mono (Nat.zero_le _)
  | d + 1 => ok__law_power D__law_power  HP (okn__law_power D__law_power  HP d)
abbrev s__law_shows : Stmt := topS 25
theorem sc__law_shows : FnScope n__law_shows p__law_shows (defScope s__law_shows) := ⟨rfl, rfl, rfl, by decide +kernel, rfl, by decide +kernel, by decide +kernel⟩
theorem ok__law_shows (D__law_shows : DefAt G.K mg "_law_shows" s__law_shows) (C__law_power : Ok P w G.K mg base (CXN P w) 40 "_law_power" p__law_power (sp__law_power G 40)) (HP : P__law_shows G) {d : Nat} (C__law_shows : Ok P w G.K mg base (CXN P w) (40 + d) "_law_shows" p__law_shows (sp__law_shows G d)) : Ok P w G.K mg base (CXN P w) (40 + d + 1) "_law_shows" p__law_shows (sp__law_shows G (d + 1)) :=
  mk_ok D__law_shows sc__law_shows (fun _ _ _ _ _ _ us hl => match us, hl with | [_], _ => rfl) sp1_len (t__law_shows G d)
    (fun vs H Q E h => match vs, h with | [x0], h => HP d x0 H Q E h)
    (fun f cdv A outer s H E hr =>
  (pss_cons (ps_asg (pv 0) (pg_tup rfl (pgs_cons (pg_name (i := 1) sc__law_shows.nd rfl (Or.inl rfl)) (pgs_cons (pg_name (i := 2) sc__law_shows.nd rfl (Or.inl rfl)) (pgs_cons (pg_name (i := 3) sc__law_shows.nd rfl (Or.inl rfl)) pgs_nil)))))
  (pss_cons (ps_if (pt_cmpR op_eq (pv 1) pe_int (nomark _))
  (pss_one (ps_ret (pe_and (pe_cmpR op_eq (pv 2) pe_int (nomark _)) (pe_one (pe_cmpR (op_eqD hr.units) (pv 3) (pe_lst pa_nil) (nomark _))))))
  pss_nil)
  (pss_cons (ps_if (PW.pt (pw_or (pt_cmpR op_lt (pv 1) pe_int (nomark _)) (pw_or1 (pt_cmpR op_eq (pe_op op_mod (pv 1) pe_int) pe_int (nomark _)))))
  (pss_one (ps_ret pe_bl))
  pss_nil)
  (pss_cons (ps_set (i := 4) sc__law_shows.nd rfl (Or.inl rfl) (pe_op op_sub (pv 1) pe_int))
  (pss_cons (ps_set (i := 5) sc__law_shows.nd rfl (Or.inl rfl) pe_int)
  (pss_cons (ps_for (L2.passes_of rfl) rfl (pi_list (pv 3)) (pg_name (i := 6) sc__law_shows.nd rfl (Or.inl rfl))
  (pss_cons (ps_if (PW.pt (pw_or (pt_not (pt_val (pe_ok C__law_shows hr (by omega) (by rfl) (psx rfl rfl rfl rfl) (pa_cons (pv 6) pa_nil)))) (pw_or (pt_cmpR op_le (pe_ix ix_tup (pv 6) pe_int (fun _ _ => rfl)) (pv 5) (nomark _)) (pw_or1 (pt_cmpR op_ne (pe_op op_mod (pv 4) (pe_ix ix_tup (pv 6) pe_int (fun _ _ => rfl))) pe_int (nomark _))))))
  (pss_one (ps_ret pe_bl))
  pss_nil)
  (pss_cons (ps_if (pt_cmpR op_eq (pe_ok C__law_power hr (by omega) (by rfl) (psx rfl rfl rfl rfl) (pa_cons (pv 2) (pa_cons (pe_op op_fdivW (pe_op op_sub (pv 1) pe_int) (pe_ix ix_tup (pv 6) pe_int (fun _ _ => rfl))) (pa_cons (pv 1) pa_nil)))) pe_int (nomark _))
  (pss_one (ps_ret pe_bl))
  pss_nil)
  (pss_cons (ps_set (i := 5) sc__law_shows.nd rfl (Or.inl rfl) (pe_ix ix_tup (pv 6) pe_int (fun _ _ => rfl)))
  (pss_one (ps_while (L2.passes_of rfl) (pt_cmpR op_eq (pe_op op_mod (pv 4) (pv 5)) pe_int (nomark _))
  (pss_one (ps_set (i := 4) sc__law_shows.nd rfl (Or.inl rfl) (pe_op op_fdivW (pv 4) (pv 5))))))))))
  (pss_one (ps_ret (pe_and (pe_cmpR op_eq (pv 4) pe_int (nomark _)) (pe_one (pe_cmpR op_eq (pe_ok C__law_power hr (by omega) (by rfl) (psx rfl rfl rfl rfl) (pa_cons (pv 2) (pa_cons (pe_op op_sub (pv 1) pe_int) (pa_cons (pv 1) pa_nil)))) pe_int (nomark _)))))))))))))
theorem okn__law_shows (D__law_shows : DefAt G.K mg "_law_shows" s__law_shows) (C__law_power : Ok P w G.K mg base (CXN P w) 40 "_law_power" p__law_power (sp__law_power G 40)) (HP : P__law_shows G) : ∀ d, Ok P w G.K mg base (CXN P w) (40 + d) "_law_shows" p__law_shows (sp__law_shows G d)
  | 0 => (ok_none D__law_shows (fun _ _ _ _ _ _ us hl => match us, hl with | [_], _ => rfl) (fun vs H Q E h => match vs, h with | [_], h => h)).mono (Nat.zero_le _)
  | d + 1 => ok__law_shows D__law_shows C__law_power HP (okn__law_shows D__law_shows C__law_power HP d)
abbrev s__law_bent : Stmt := topS 26
theorem sc__law_bent : FnScope n__law_bent p__law_bent (defScope s__law_bent) := ⟨rfl, rfl, rfl, by decide +kernel, rfl, by decide +kernel, by decide +kernel⟩
theorem ok__law_bent (D__law_bent : DefAt G.K mg "_law_bent" s__law_bent) (m_len : mg "len" = none) (m_max : mg "max" = none) (HP : P__law_bent G) : Ok P w G.K mg base (CXN P w) 1 "_law_bent" p__law_bent (sp__law_bent G) :=
  mk_ok D__law_bent sc__law_bent (fun _ _ _ _ _ _ us hl => match us, hl with | [_, _], _ => rfl) sp2_len (t__law_bent G)
    (fun vs H Q E h => match vs, h with | [x0, x1], h => HP x0 x1 H Q E h)
    (fun f cdv A outer s H E hr =>
  (pss_cons (ps_asg (pv 0) (pg_tup rfl (pgs_cons (pg_name (i := 2) sc__law_bent.nd rfl (Or.inl rfl)) (pgs_cons (pg_name (i := 3) sc__law_bent.nd rfl (Or.inl rfl)) (pgs_cons (pg_name (i := 4) sc__law_bent.nd rfl (Or.inl rfl)) pgs_nil)))))
  (pss_cons (ps_set (i := 5) sc__law_bent.nd rfl (Or.inl rfl) (pe_op op_mod (pv 1) (pe_callB (call_max2 rfl) (by rfl) m_max (by decide +kernel) (pa_cons pe_int (pa_cons (pe_callB call_len_seq (by rfl) m_len (by decide +kernel) (pa_cons (pv 4) pa_nil)) pa_nil)))))
  (pss_cons (ps_set (i := 6) sc__law_bent.nd rfl (Or.inl rfl) (pe_lst (pa_cons (pe_tup (pa_cons (pv 2) (pa_cons (pe_op op_add (pe_op op_add (pv 3) pe_int) (pe_op op_mod (pe_op op_fdivW (pv 1) pe_int) pe_int)) (pa_cons (pv 4) pa_nil)))) pa_nil)))
  (pss_cons (ps_set (i := 6) sc__law_bent.nd rfl (Or.inl rfl) (pe_op op_cat (pv 6) (pe_lst (pa_cons (pe_tup (pa_cons (pv 2) (pa_cons (pv 3) (pa_cons (pe_op op_cat (pe_slice sl_list (pv 4) po_none (po_some (pv 5))) (pe_slice sl_list (pv 4) (po_some (pe_op op_add (pv 5) pe_int)) po_none)) pa_nil)))) (pa_cons (pe_tup (pa_cons (pv 2) (pa_cons (pv 3) (pa_cons (pe_op op_cat (pv 4) (pe_slice sl_list (pv 4) po_none (po_some pe_int))) pa_nil)))) pa_nil)))))
  (pss_cons (ps_set (i := 6) sc__law_bent.nd rfl (Or.inl rfl) (pe_op op_cat (pv 6) (pe_lst (pa_cons (pe_tup (pa_cons (pe_op op_add (pv 2) pe_int) (pa_cons (pv 3) (pa_cons (pv 4) pa_nil)))) (pa_cons (pe_tup (pa_cons (pv 2) (pa_cons pe_int (pa_cons (pv 4) pa_nil)))) (pa_cons (pe_tup (pa_cons (pv 2) (pa_cons (pv 3) (pa_cons (pe_revl (pv 4)) pa_nil)))) pa_nil))))))
  (pss_cons (ps_set (i := 6) sc__law_bent.nd rfl (Or.inl rfl) (pe_op op_cat (pv 6) (pe_lst (pa_cons (pe_tup (pa_cons pe_int (pa_cons pe_int (pa_cons (pe_lst (pa_cons (pe_tup (pa_cons pe_int (pa_cons pe_int (pa_cons (pe_lst pa_nil) pa_nil)))) pa_nil)) pa_nil)))) (pa_cons (pe_tup (pa_cons pe_int (pa_cons pe_int (pa_cons (pv 4) pa_nil)))) pa_nil)))))
  (pss_cons (ps_set (i := 6) sc__law_bent.nd rfl (Or.inl rfl) (pe_op op_cat (pv 6) (pe_lst (pa_cons (pe_tup (pa_cons (pe_op op_mulA (pv 2) pe_int) (pa_cons (pv 3) (pa_cons (pv 4) pa_nil)))) (pa_cons (pe_tup (pa_cons pe_int (pa_cons pe_int (pa_cons (pe_lst pa_nil) pa_nil)))) pa_nil)))))
  (pss_cons (ps_set (i := 6) sc__law_bent.nd rfl (Or.inl rfl) (pe_op op_cat (pv 6) (pe_lst (pa_cons (pe_tup (pa_cons (pv 2) (pa_cons (pv 3) (pa_cons (pe_op op_cat (pe_op op_cat (pe_slice sl_list (pv 4) po_none (po_some (pv 5))) (pe_lst (pa_cons (pe_tup (pa_cons pe_int (pa_cons pe_int (pa_cons (pe_lst (pa_cons (pe_tup (pa_cons pe_int (pa_cons pe_int (pa_cons (pe_lst (pa_cons (pe_tup (pa_cons pe_int (pa_cons pe_int (pa_cons (pe_lst pa_nil) pa_nil)))) pa_nil)) pa_nil)))) pa_nil)) pa_nil)))) pa_nil))) (pe_slice sl_list (pv 4) (po_some (pe_op op_add (pv 5) pe_int)) po_none)) pa_nil)))) pa_nil))))
  (pss_one (ps_ret (pe_ix ix_list (pv 6) (pe_op op_mod (pe_op op_fdivW (pv 1) pe_int) pe_int) (fun _ _ => rfl)))))))))))))
abbrev s_law : Stmt := topS 27
theorem sc_law : FnScope n_law p_law (defScope s_law) := ⟨rfl, rfl, rfl, by decide +kernel, rfl, by decide +kernel, by decide +kernel⟩
theorem ok_law {f : Addr} {fd : FuncData} {T : List (Addr × Str)} {c Pt : Addr} (F_law : FunC G.K "law" "law" s_law f fd c) (TD : ToldAt P w G.K mg base G.SieveError 1 (WE G) s__law_told) (TB : TabB base mg c Pt) (hmT : (Pt, ("law" ++ ".<locals>." : Str) ++ "<lambda>") ∈ T) (hu : ∀ p ∈ T, p.1 = Pt → p.2 = ("law" ++ ".<locals>." : Str) ++ "<lambda>") (C__law_drawn : Ok P w G.K mg base (CXN P w) 1 "_law_drawn" p__law_drawn (sp__law_drawn G)) (C__law_cell : Ok P w G.K mg base (CXN P w) 1 "_law_cell" p__law_cell (sp__law_cell G)) (C__law_least : Ok P w G.K mg base (CXN P w) 1 "_law_least" p__law_least (sp__law_least G)) (C_prime_or_parts : Ok P w G.K mg base (CXN P w) 32 "prime_or_parts" p_prime_or_parts (sp_prime_or_parts G)) (C__law_shows : Ok P w G.K mg base (CXN P w) 70 "_law_shows" p__law_shows (sp__law_shows G 30)) (C_shows : Ok P w G.K mg base (CXN P w) 31 "shows" p_shows (sp_shows G 30)) (C__law_bent : Ok P w G.K mg base (CXN P w) 1 "_law_bent" p__law_bent (sp__law_bent G)) (m_len : mg "len" = none) (m_min : mg "min" = none) (m_max : mg "max" = none) (m_range : mg "range" = none) (m_tuple : mg "tuple" = none) (m_isinstance : mg "isinstance" = none) (m_any : mg "any" = none) (m_bool : mg "bool" = none) (HP : P_law G) : FnOk P w G.K mg base (CXN P w) 73 f fd p_law (sp_law G T) :=
  mk_fnC F_law sc_law sp1_len (t_law G T)
    (fun vs H Q E h => match vs, h with | [x0], h => HP T x0 H Q E h)
    (fun A outer s H E hr =>
  (pss_cons (ps_for (L2.passes_of rfl) rfl (pi_range1 (by rfl) m_range (pa_cons (pe_callB (call_max2 rfl) (by rfl) m_max (by decide +kernel) (pa_cons pe_int (pa_cons (pe_callB (call_min2 rfl) (by rfl) m_min (by decide +kernel) (pa_cons pe_int (pa_cons (pe_callB call_len_seq (by rfl) m_len (by decide +kernel) (pa_cons (pv 0) pa_nil)) pa_nil))) pa_nil))) pa_nil)) (pg_name (i := 1) sc_law.nd rfl (Or.inl rfl))
  (pss_cons (ps_set (i := 2) sc_law.nd rfl (Or.inl rfl) (pe_ok C__law_drawn hr (by decide) (by rfl) (psx rfl rfl rfl rfl) (pa_cons (pe_ok C__law_cell hr (by decide) (by rfl) (psx rfl rfl rfl rfl) (pa_cons (pv 0) (pa_cons (pv 1) pa_nil))) (pa_cons (pv 1) pa_nil))))
  (pss_cons (ps_set (i := 3) sc_law.nd rfl (Or.inl rfl) (pe_lst (pa_cons pe_int (pa_cons pe_int (pa_cons pe_int (pa_cons pe_int (pa_cons pe_int (pa_cons pe_int (pa_cons pe_int (pa_cons pe_int (pa_cons pe_int (pa_cons pe_int (pa_cons pe_int (pa_cons pe_int pa_nil))))))))))))))
  (pss_cons (ps_set (i := 4) sc_law.nd rfl (Or.inl rfl) (pe_lst (pa_cons (pe_ix ix_list (pv 3) (pe_op op_mod (pe_op op_fdivW (pv 2) pe_int) pe_int) (fun _ _ => rfl)) (pa_cons (pe_op op_add pe_int (pe_op op_mod (pe_op op_fdivW (pv 2) pe_int) pe_int)) (pa_cons (pe_op op_mulA pe_int pe_int) (pa_cons (pe_op op_add pe_int (pe_op op_mod (pe_op op_fdivW (pv 2) pe_int) pe_int)) pa_nil))))))
  (pss_cons (ps_set (i := 5) sc_law.nd rfl (Or.inr rfl) (pe_ix ix_list (pe_op op_cat (pv 4) (pe_lst (pa_cons (pe_op op_mulA pe_int (pe_ix ix_list (pv 3) (pe_op op_mod (pe_op op_fdivW (pv 2) pe_int) pe_int) (fun _ _ => rfl))) pa_nil))) (pe_op op_mod (pv 2) pe_int) (fun _ _ => rfl)))
  (pss_cons (ps_set (i := 6) sc_law.nd rfl (Or.inl rfl) (pe_ok C__law_least hr (by decide) (by rfl) (psx rfl rfl rfl rfl) (pa_cons (pv 5) pa_nil)))
  (pss_cons (ps_set (i := 7) sc_law.nd rfl (Or.inr rfl) (pe_told (T := T) (t := fun E => (tCall (sp_prime_or_parts G) [] E (tCons (tVar 5) tNil))) TD (by rfl) TB rfl hmT hu hr (by decide) (lamS_by (sc := defScope s_law) (by decide +kernel)) rfl (fun _ _ _ _ _ => rfl) (fun A outer s H E f c' hr => (pe_ok C_prime_or_parts hr (by decide) (by rfl) (psx rfl rfl rfl rfl) (pa_cons (pv 5) pa_nil)))))
  (pss_cons (ps_if (pt_cmpR op_lt (pv 6) (pv 5) (nomark _))
  (pss_one (ps_if (pt_cmpR (op_neD hr.units) (pv 7) (pe_tup (pa_cons pe_str (pa_cons (pv 6) pa_nil))) (nomark _))
  (pss_one (ps_ret pe_bl))
  pss_nil))
  (pss_cons (ps_if (PW.pt (pw_or (pt_not (pt_val (pe_callB call_isi (by rfl) m_isinstance (by decide +kernel) (pa_cons (pv 7) (pa_cons (pe_bltn (v := .ty "tuple") (by rfl) m_tuple (by decide +kernel) rfl) pa_nil))))) (pw_or (pt_cmpR op_ne (pe_ix ix_tup (pv 7) pe_int (fun _ _ => rfl)) pe_str (nomark _)) (pw_or (pt_cmpR op_ne (pe_ix ix_tup (pe_ix ix_tup (pv 7) pe_int (fun _ _ => rfl)) pe_int (fun _ _ => rfl)) (pv 5) (nomark _)) (pw_or1 (pt_not (pt_val (pe_ok C__law_shows hr (by decide) (by rfl) (psx rfl rfl rfl rfl) (pa_cons (pe_ix ix_tup (pv 7) pe_int (fun _ _ => rfl)) pa_nil)))))))))
  (pss_one (ps_ret pe_bl))
  pss_nil)
  (pss_cons (ps_setLc (i := 8) (own := [("_law_b", 13)]) rfl sc_law.nd rfl rfl (sw_true rfl rfl rfl (by decide +kernel)) (pi_range2 (by rfl) m_range (pa_cons pe_int (pa_cons (pe_ix ix_tup (pe_ix ix_tup (pv 7) pe_int (fun _ _ => rfl)) pe_int (fun _ _ => rfl)) pa_nil))) (blkOk_by (N := n_law) (sc := defScope s_law) (by decide +kernel)) (fun _ _ _ _ _ => (pg_name (i := 13) sc_law.nd rfl (Or.inl rfl))) (fun _ _ _ _ _ => pts_nil) (fun _ _ _ _ _ => (pe_ok C__law_shows hr (by decide) (by rfl) psn (pa_cons (pe_tup (pa_cons (pv 5) (pa_cons (pv 13) (pa_cons (pe_ix ix_tup (pe_ix ix_tup (pv 7) pe_int (fun _ _ => rfl)) pe_int (fun _ _ => rfl)) pa_nil)))) pa_nil))))
  (pss_cons (ps_if (PW.pt (pw_or (pt_cmpR op_isnot_bl (pe_ok C_shows hr (by decide) (by rfl) (psx rfl rfl rfl rfl) (pa_cons (pe_ix ix_tup (pv 7) pe_int (fun _ _ => rfl)) pa_nil)) pe_bl (nomark _)) (pw_or1 (PW.pt (pw_and (pt_cmpR op_gt (pv 5) pe_int (nomark _)) (pw_and1 (pt_val (pe_callB (cr_any rfl) (by rfl) m_any (by decide +kernel) (pa_cons (pv 8) pa_nil)))))))))
  (pss_one (ps_ret pe_bl))
  pss_nil)
  (pss_one (ps_for (L2.passes_of rfl) rfl (pi_range1 (by rfl) m_range (pa_cons pe_int pa_nil)) (pg_name (i := 9) sc_law.nd rfl (Or.inl rfl))
  (pss_cons (ps_set (i := 10) sc_law.nd rfl (Or.inl rfl) (pe_ok C__law_bent hr (by decide) (by rfl) (psx rfl rfl rfl rfl) (pa_cons (pe_ix ix_tup (pv 7) pe_int (fun _ _ => rfl)) (pa_cons (pe_ok C__law_drawn hr (by decide) (by rfl) (psx rfl rfl rfl rfl) (pa_cons (pv 2) (pa_cons (pe_op op_add pe_int (pv 9)) pa_nil))) pa_nil))))
  (pss_cons (ps_set (i := 11) sc_law.nd rfl (Or.inl rfl) (pe_ok C_shows hr (by decide) (by rfl) (psx rfl rfl rfl rfl) (pa_cons (pv 10) pa_nil)))
  (pss_one (ps_if (PW.pt (pw_or (pt_not (pt_val (pe_callB call_isi (by rfl) m_isinstance (by decide +kernel) (pa_cons (pv 11) (pa_cons (pe_bltn (v := .ty "bool") (by rfl) m_bool (by decide +kernel) rfl) pa_nil))))) (pw_or1 (pt_cmpR op_ne (pv 11) (pe_ok C__law_shows hr (by decide) (by rfl) (psx rfl rfl rfl rfl) (pa_cons (pv 10) pa_nil)) (nomark _)))))
  (pss_one (ps_ret pe_bl))
  pss_nil))))))))))
  (pss_cons (ps_set (i := 12) sc_law.nd rfl (Or.inr rfl) (pe_ix ix_list (pe_lst (pa_cons pe_int (pa_cons pe_int (pa_cons (pe_un un_neg pe_int) (pa_cons pe_int (pa_cons pe_bl (pa_cons pe_non pa_nil))))))) (pe_op op_mod (pe_op op_fdivW (pv 2) (pe_op op_pow pe_int pe_int)) pe_int) (fun _ _ => rfl)))
  (pss_one (ps_if (pt_cmpR op_ne (pe_told (T := T) (t := fun E => (tCall (sp_prime_or_parts G) [] E (tCons (tVar 12) tNil))) TD (by rfl) TB rfl hmT hu hr (by decide) (lamS_by (sc := defScope s_law) (by decide +kernel)) rfl (fun _ _ _ _ _ => rfl) (fun A outer s H E f c' hr => (pe_ok C_prime_or_parts hr (by decide) (by rfl) (psx rfl rfl rfl rfl) (pa_cons (pv 12) pa_nil)))) pe_str (nomark _))
  (pss_one (ps_ret pe_bl))
  pss_nil)))))))))))
  (pss_one (ps_ret pe_bl))))
end
theorem all_mk {P : Program} {w : World} {K : PySem.W.Frag} {h : Heap} {mg : Str → Option Value} {fa : Addr} (X : K.In h) (GX : h.Ns mainGlobals mg) (hfa : mg "law" = some (.ref fa))
    {f0 : Addr} {od0 an0 : Option Addr} {sl0 : Array (Option Value)} {oc0 kV0 dc0 pm0 ct0 : Value} {cd0 : Value}
    (a0 : PySem.W.nsIn K mainGlobals "need_number" = some (some (.ref f0))) (l0 : K.lookup f0 = some ⟨oc0, od0, .func (PySem.W.fnOf "need_number" "need_number" (defArgs s_need_number) (defBody s_need_number) (defScope s_need_number) .none kV0 dc0 pm0 an0 cd0 ct0), sl0⟩) (c0 : PySem.W.codeIn K cd0 "need_number" = true) (k0 : PySem.W.keepIn K (.ref f0) = true)
    {f1 : Addr} {od1 an1 : Option Addr} {sl1 : Array (Option Value)} {oc1 kV1 dc1 pm1 ct1 : Value} {cd1 : Value}
    (a1 : PySem.W.nsIn K mainGlobals "apart" = some (some (.ref f1))) (l1 : K.lookup f1 = some ⟨oc1, od1, .func (PySem.W.fnOf "apart" "apart" (defArgs s_apart) (defBody s_apart) (defScope s_apart) .none kV1 dc1 pm1 an1 cd1 ct1), sl1⟩) (c1 : PySem.W.codeIn K cd1 "apart" = true) (k1 : PySem.W.keepIn K (.ref f1) = true)
    {f2 : Addr} {od2 an2 : Option Addr} {sl2 : Array (Option Value)} {oc2 kV2 dc2 pm2 ct2 : Value} {cd2 : Value}
    (a2 : PySem.W.nsIn K mainGlobals "rest_of" = some (some (.ref f2))) (l2 : K.lookup f2 = some ⟨oc2, od2, .func (PySem.W.fnOf "rest_of" "rest_of" (defArgs s_rest_of) (defBody s_rest_of) (defScope s_rest_of) .none kV2 dc2 pm2 an2 cd2 ct2), sl2⟩) (c2 : PySem.W.codeIn K cd2 "rest_of" = true) (k2 : PySem.W.keepIn K (.ref f2) = true)
    {f3 : Addr} {od3 an3 : Option Addr} {sl3 : Array (Option Value)} {oc3 kV3 dc3 pm3 ct3 : Value} {cd3 : Value}
    (a3 : PySem.W.nsIn K mainGlobals "divided_by" = some (some (.ref f3))) (l3 : K.lookup f3 = some ⟨oc3, od3, .func (PySem.W.fnOf "divided_by" "divided_by" (defArgs s_divided_by) (defBody s_divided_by) (defScope s_divided_by) .none kV3 dc3 pm3 an3 cd3 ct3), sl3⟩) (c3 : PySem.W.codeIn K cd3 "divided_by" = true) (k3 : PySem.W.keepIn K (.ref f3) = true)
    {f4 : Addr} {od4 an4 : Option Addr} {sl4 : Array (Option Value)} {oc4 kV4 dc4 pm4 ct4 : Value} {cd4 : Value}
    (a4 : PySem.W.nsIn K mainGlobals "shows" = some (some (.ref f4))) (l4 : K.lookup f4 = some ⟨oc4, od4, .func (PySem.W.fnOf "shows" "shows" (defArgs s_shows) (defBody s_shows) (defScope s_shows) .none kV4 dc4 pm4 an4 cd4 ct4), sl4⟩) (c4 : PySem.W.codeIn K cd4 "shows" = true) (k4 : PySem.W.keepIn K (.ref f4) = true)
    {f5 : Addr} {od5 an5 : Option Addr} {sl5 : Array (Option Value)} {oc5 kV5 dc5 pm5 ct5 : Value} {cd5 : Value}
    (a5 : PySem.W.nsIn K mainGlobals "paper_of" = some (some (.ref f5))) (l5 : K.lookup f5 = some ⟨oc5, od5, .func (PySem.W.fnOf "paper_of" "paper_of" (defArgs s_paper_of) (defBody s_paper_of) (defScope s_paper_of) .none kV5 dc5 pm5 an5 cd5 ct5), sl5⟩) (c5 : PySem.W.codeIn K cd5 "paper_of" = true) (k5 : PySem.W.keepIn K (.ref f5) = true)
    {f6 : Addr} {od6 an6 : Option Addr} {sl6 : Array (Option Value)} {oc6 kV6 dc6 pm6 ct6 : Value} {cd6 : Value}
    (a6 : PySem.W.nsIn K mainGlobals "prime_or_parts" = some (some (.ref f6))) (l6 : K.lookup f6 = some ⟨oc6, od6, .func (PySem.W.fnOf "prime_or_parts" "prime_or_parts" (defArgs s_prime_or_parts) (defBody s_prime_or_parts) (defScope s_prime_or_parts) .none kV6 dc6 pm6 an6 cd6 ct6), sl6⟩) (c6 : PySem.W.codeIn K cd6 "prime_or_parts" = true) (k6 : PySem.W.keepIn K (.ref f6) = true)
    {f7 : Addr} {od7 an7 : Option Addr} {sl7 : Array (Option Value)} {oc7 kV7 dc7 pm7 ct7 : Value} {cd7 : Value}
    (a7 : PySem.W.nsIn K mainGlobals "_law_cell" = some (some (.ref f7))) (l7 : K.lookup f7 = some ⟨oc7, od7, .func (PySem.W.fnOf "_law_cell" "_law_cell" (defArgs s__law_cell) (defBody s__law_cell) (defScope s__law_cell) .none kV7 dc7 pm7 an7 cd7 ct7), sl7⟩) (c7 : PySem.W.codeIn K cd7 "_law_cell" = true) (k7 : PySem.W.keepIn K (.ref f7) = true)
    {f8 : Addr} {od8 an8 : Option Addr} {sl8 : Array (Option Value)} {oc8 kV8 dc8 pm8 ct8 : Value} {cd8 : Value}
    (a8 : PySem.W.nsIn K mainGlobals "_law_drawn" = some (some (.ref f8))) (l8 : K.lookup f8 = some ⟨oc8, od8, .func (PySem.W.fnOf "_law_drawn" "_law_drawn" (defArgs s__law_drawn) (defBody s__law_drawn) (defScope s__law_drawn) .none kV8 dc8 pm8 an8 cd8 ct8), sl8⟩) (c8 : PySem.W.codeIn K cd8 "_law_drawn" = true) (k8 : PySem.W.keepIn K (.ref f8) = true)
    {f9 : Addr} {od9 an9 : Option Addr} {sl9 : Array (Option Value)} {oc9 kV9 dc9 pm9 ct9 : Value} {cd9 : Value}
    (a9 : PySem.W.nsIn K mainGlobals "_law_word" = some (some (.ref f9))) (l9 : K.lookup f9 = some ⟨oc9, od9, .func (PySem.W.fnOf "_law_word" "_law_word" (defArgs s__law_word) (defBody s__law_word) (defScope s__law_word) .none kV9 dc9 pm9 an9 cd9 ct9), sl9⟩) (c9 : PySem.W.codeIn K cd9 "_law_word" = true) (k9 : PySem.W.keepIn K (.ref f9) = true)
    {f10 : Addr} {od10 an10 : Option Addr} {sl10 : Array (Option Value)} {oc10 kV10 dc10 pm10 ct10 : Value} {cd10 : Value}
    (a10 : PySem.W.nsIn K mainGlobals "_law_least" = some (some (.ref f10))) (l10 : K.lookup f10 = some ⟨oc10, od10, .func (PySem.W.fnOf "_law_least" "_law_least" (defArgs s__law_least) (defBody s__law_least) (defScope s__law_least) .none kV10 dc10 pm10 an10 cd10 ct10), sl10⟩) (c10 : PySem.W.codeIn K cd10 "_law_least" = true) (k10 : PySem.W.keepIn K (.ref f10) = true)
    {f11 : Addr} {od11 an11 : Option Addr} {sl11 : Array (Option Value)} {oc11 kV11 dc11 pm11 ct11 : Value} {cd11 : Value}
    (a11 : PySem.W.nsIn K mainGlobals "_law_power" = some (some (.ref f11))) (l11 : K.lookup f11 = some ⟨oc11, od11, .func (PySem.W.fnOf "_law_power" "_law_power" (defArgs s__law_power) (defBody s__law_power) (defScope s__law_power) .none kV11 dc11 pm11 an11 cd11 ct11), sl11⟩) (c11 : PySem.W.codeIn K cd11 "_law_power" = true) (k11 : PySem.W.keepIn K (.ref f11) = true)
    {f12 : Addr} {od12 an12 : Option Addr} {sl12 : Array (Option Value)} {oc12 kV12 dc12 pm12 ct12 : Value} {cd12 : Value}
    (a12 : PySem.W.nsIn K mainGlobals "_law_shows" = some (some (.ref f12))) (l12 : K.lookup f12 = some ⟨oc12, od12, .func (PySem.W.fnOf "_law_shows" "_law_shows" (defArgs s__law_shows) (defBody s__law_shows) (defScope s__law_shows) .none kV12 dc12 pm12 an12 cd12 ct12), sl12⟩) (c12 : PySem.W.codeIn K cd12 "_law_shows" = true) (k12 : PySem.W.keepIn K (.ref f12) = true)
    {f13 : Addr} {od13 an13 : Option Addr} {sl13 : Array (Option Value)} {oc13 kV13 dc13 pm13 ct13 : Value} {cd13 : Value}
    (a13 : PySem.W.nsIn K mainGlobals "_law_bent" = some (some (.ref f13))) (l13 : K.lookup f13 = some ⟨oc13, od13, .func (PySem.W.fnOf "_law_bent" "_law_bent" (defArgs s__law_bent) (defBody s__law_bent) (defScope s__law_bent) .none kV13 dc13 pm13 an13 cd13 ct13), sl13⟩) (c13 : PySem.W.codeIn K cd13 "_law_bent" = true) (k13 : PySem.W.keepIn K (.ref f13) = true)
    {f14 : Addr} {od14 an14 : Option Addr} {sl14 : Array (Option Value)} {oc14 kV14 dc14 pm14 ct14 : Value} {cA14 : Addr}
    (a14 : PySem.W.nsIn K mainGlobals "law" = some (some (.ref f14))) (l14 : K.lookup f14 = some ⟨oc14, od14, .func (PySem.W.fnOf "law" "law" (defArgs s_law) (defBody s_law) (defScope s_law) .none kV14 dc14 pm14 an14 (.ref cA14) ct14), sl14⟩) (c14 : PySem.W.codeIn K (.ref cA14) "law" = true) (k14 : PySem.W.keepIn K (.ref f14) = true)
    {te14 : Value} {td14 : Option Addr} {tv14 : Array Value} {ts14 : Array (Option Value)} {tP14 : Addr} (tl14 : K.lookup cA14 = some ⟨te14, td14, .fields tv14, ts14⟩) (tp14 : tv14[11]? = some (.ref tP14)) (tn14 : K.lookup tP14 = none) (th14 : PySem.W.codeHdIn K cA14 tP14 = true) (tt14 : TabOf K mg h "law")
    {f15 : Addr} {od15 an15 : Option Addr} {sl15 : Array (Option Value)} {oc15 kV15 dc15 pm15 ct15 : Value} {cd15 : Value}
    (a15 : PySem.W.nsIn K mainGlobals "_law_told" = some (some (.ref f15))) (l15 : K.lookup f15 = some ⟨oc15, od15, .func (PySem.W.fnOf "_law_told" "_law_told" (defArgs s__law_told) (defBody s__law_told) (defScope s__law_told) .none kV15 dc15 pm15 an15 cd15 ct15), sl15⟩) (c15 : PySem.W.codeIn K cd15 "_law_told" = true) (k15 : PySem.W.keepIn K (.ref f15) = true)
    {eSieveError : Addr} (gSieveError : PySem.W.nsIn K mainGlobals "SieveError" = some (some (.ref eSieveError)))    {eBadNumber : Addr} (gBadNumber : PySem.W.nsIn K mainGlobals "BadNumber" = some (some (.ref eBadNumber)))    {eNoWay : Addr} (gNoWay : PySem.W.nsIn K mainGlobals "NoWay" = some (some (.ref eNoWay)))    {eUnlike : Addr} (gUnlike : PySem.W.nsIn K mainGlobals "Unlike" = some (some (.ref eUnlike)))    {eBadTable : Addr} (gBadTable : PySem.W.nsIn K mainGlobals "BadTable" = some (some (.ref eBadTable)))    {eBadName : Addr} (gBadName : PySem.W.nsIn K mainGlobals "BadName" = some (some (.ref eBadName)))    {eBadSums : Addr} (gBadSums : PySem.W.nsIn K mainGlobals "BadSums" = some (some (.ref eBadSums)))
    (eB : errsB K eSieveError [eBadTable, eUnlike, eNoWay, eBadName, eBadNumber, eBadSums] = true)
    (z_int : PySem.W.nsIn K mainGlobals "int" = some none)    (z_isinstance : PySem.W.nsIn K mainGlobals "isinstance" = some none)    (z_bool : PySem.W.nsIn K mainGlobals "bool" = some none)    (z_all : PySem.W.nsIn K mainGlobals "all" = some none)    (z_zip : PySem.W.nsIn K mainGlobals "zip" = some none)    (z_len : PySem.W.nsIn K mainGlobals "len" = some none)    (z_sum : PySem.W.nsIn K mainGlobals "sum" = some none)    (z_ValueError : PySem.W.nsIn K mainGlobals "ValueError" = some none)    (z_max : PySem.W.nsIn K mainGlobals "max" = some none)    (z_min : PySem.W.nsIn K mainGlobals "min" = some none)    (z_range : PySem.W.nsIn K mainGlobals "range" = some none)    (z_tuple : PySem.W.nsIn K mainGlobals "tuple" = some none)    (z_any : PySem.W.nsIn K mainGlobals "any" = some none) {tkMOST_NUMBER : Tok} (vMOST_NUMBER : PySem.W.nsIn K mainGlobals "MOST_NUMBER" = some (some (.int 1000000000 tkMOST_NUMBER))) :
    ∃ (G : Pm) (fd : FuncData) (cs : List (Addr × Addr × Str)), G.K = K ∧ (∀ p ∈ cs, h.get? p.2.1 = some { cls := .none, data := .fields #[] }) ∧ (∀ p ∈ cs, G.K.lookup p.2.1 = none) ∧ (∀ p ∈ cs, PySem.W.CodeHd h p.1 p.2.1) ∧
      (∀ (s : Shared) (u : Value), BindsTo s fd ⟨[u], []⟩ [("_law_script", u)]) ∧
      ∀ base : Heap, G.K.In base → base.Ns mainGlobals mg → (∀ p ∈ cs, TabB base mg p.1 p.2.1) → FnOk P w G.K mg base (CXN P w) 73 fa fd ["_law_script"] (sp1 (LawR G (cs.map fun p => p.2))) := by
  have e := hfa.symm.trans (PySem.W.mg_of X GX a14)
  cases e
  refine ⟨{ K := K, SieveError := eSieveError, BadNumber := eBadNumber, NoWay := eNoWay, Unlike := eUnlike, BadTable := eBadTable, BadName := eBadName, BadSums := eBadSums }, PySem.W.fnOf "law" "law" (defArgs s_law) (defBody s_law) (defScope s_law) .none kV14 dc14 pm14 an14 (.ref cA14) ct14, [(cA14, tP14, ("law" ++ ".<locals>." : Str) ++ "<lambda>")], rfl, ?_, ?_, ?_, fun s u => .of_eq rfl, fun base _ _ TBA => ?_⟩
  · intro p hp
    simp only [List.mem_cons, List.not_mem_nil, or_false] at hp
    subst hp
    · exact tt14 _ _ _ _ _ _ _ _ _ (PySem.W.mg_of X GX a14) l14 rfl rfl tl14 tp14
  · intro p hp
    simp only [List.mem_cons, List.not_mem_nil, or_false] at hp
    subst hp
    · exact tn14
  · intro p hp
    simp only [List.mem_cons, List.not_mem_nil, or_false] at hp
    subst hp
    · exact PySem.W.codeHd_of_K X th14
  have F_law := funC_mk (st := s_law) l14 c14 k14
  have errs := errsOk_of eB
  have m_int : mg "int" = none := PySem.W.mg_none_of X GX z_int
  have m_isinstance : mg "isinstance" = none := PySem.W.mg_none_of X GX z_isinstance
  have m_bool : mg "bool" = none := PySem.W.mg_none_of X GX z_bool
  have m_all : mg "all" = none := PySem.W.mg_none_of X GX z_all
  have m_zip : mg "zip" = none := PySem.W.mg_none_of X GX z_zip
  have m_len : mg "len" = none := PySem.W.mg_none_of X GX z_len
  have m_sum : mg "sum" = none := PySem.W.mg_none_of X GX z_sum
  have m_ValueError : mg "ValueError" = none := PySem.W.mg_none_of X GX z_ValueError
  have m_max : mg "max" = none := PySem.W.mg_none_of X GX z_max
  have m_min : mg "min" = none := PySem.W.mg_none_of X GX z_min
  have m_range : mg "range" = none := PySem.W.mg_none_of X GX z_range
  have m_tuple : mg "tuple" = none := PySem.W.mg_none_of X GX z_tuple
  have m_any : mg "any" = none := PySem.W.mg_none_of X GX z_any
  have x_BadNumber : ErrAt K mg "BadNumber" eBadNumber := (errs.one eBadNumber (by simp)).at (PySem.W.mg_of X GX gBadNumber)
  have x_NoWay : ErrAt K mg "NoWay" eNoWay := (errs.one eNoWay (by simp)).at (PySem.W.mg_of X GX gNoWay)
  have x_Unlike : ErrAt K mg "Unlike" eUnlike := (errs.one eUnlike (by simp)).at (PySem.W.mg_of X GX gUnlike)
  have x_BadTable : ErrAt K mg "BadTable" eBadTable := (errs.one eBadTable (by simp)).at (PySem.W.mg_of X GX gBadTable)
  have x_BadName : ErrAt K mg "BadName" eBadName := (errs.one eBadName (by simp)).at (PySem.W.mg_of X GX gBadName)
  have x_BadSums : ErrAt K mg "BadSums" eBadSums := (errs.one eBadSums (by simp)).at (PySem.W.mg_of X GX gBadSums)
  have c_MOST_NUMBER := (⟨_, PySem.W.mg_of X GX vMOST_NUMBER⟩ : ∃ t, mg "MOST_NUMBER" = some (.int 1000000000 t))
  have memW : ∀ C nm, WE { K := K, SieveError := eSieveError, BadNumber := eBadNumber, NoWay := eNoWay, Unlike := eUnlike, BadTable := eBadTable, BadName := eBadName, BadSums := eBadSums } C nm → C ∈ [eBadTable, eUnlike, eNoWay, eBadName, eBadNumber, eBadSums] := fun C nm h => by
    have z : C ∈ (errsL { K := K, SieveError := eSieveError, BadNumber := eBadNumber, NoWay := eNoWay, Unlike := eUnlike, BadTable := eBadTable, BadName := eBadName, BadSums := eBadSums }).map (·.1) := List.mem_map.mpr ⟨(C, nm), h, rfl⟩
    exact z
  have W_ := ok__law_word (P := P) (w := w) (G := { K := K, SieveError := eSieveError, BadNumber := eBadNumber, NoWay := eNoWay, Unlike := eUnlike, BadTable := eBadTable, BadName := eBadName, BadSums := eBadSums }) (base := base) (defAt_mk X GX a9 l9 c9 k9) m_isinstance m_int m_sum m_ValueError x_NoWay x_Unlike x_BadTable x_BadName x_BadSums x_BadNumber (fun C nm h => (errs.one C (memW C nm h)).ex) (pure__law_word _ errs)
  have TD : ToldAt P w K mg base eSieveError 1 (WE { K := K, SieveError := eSieveError, BadNumber := eBadNumber, NoWay := eNoWay, Unlike := eUnlike, BadTable := eBadTable, BadName := eBadName, BadSums := eBadSums }) s__law_told := { dat := defAt_mk X GX a15 l15 c15 k15, sco := sc__law_told, loc := by decide +kernel, loc0 := by decide +kernel, gS := by decide +kernel, gW := by decide +kernel, bdy := ⟨_, _, _, _, _, _, _, _, _, _, rfl⟩, bnd := fun _ _ _ _ _ _ us hl => match us, hl with | [_], _ => rfl, wrd := W_, mS := PySem.W.mg_of X GX gSieveError, exm := fun C nm h => (errs.one C (memW C nm h)).ma }
  have TB14 : TabB base mg cA14 tP14 := TBA (cA14, tP14, ("law" ++ ".<locals>." : Str) ++ "<lambda>") (by simp)
  have hmT14 : (tP14, ("law" ++ ".<locals>." : Str) ++ "<lambda>") ∈ ([(cA14, tP14, ("law" ++ ".<locals>." : Str) ++ "<lambda>")].map fun p => p.2) := by simp
  have hu14 : ∀ p ∈ ([(cA14, tP14, ("law" ++ ".<locals>." : Str) ++ "<lambda>")].map fun p => p.2), p.1 = tP14 → p.2 = ("law" ++ ".<locals>." : Str) ++ "<lambda>" := fun p hp _ => by
    simp only [List.map_cons, List.map_nil, List.mem_cons, List.not_mem_nil, or_false] at hp
    rw [hp]
  have C_need_number := ok_need_number (P := P) (w := w) (G := { K := K, SieveError := eSieveError, BadNumber := eBadNumber, NoWay := eNoWay, Unlike := eUnlike, BadTable := eBadTable, BadName := eBadName, BadSums := eBadSums }) (base := base) (defAt_mk X GX a0 l0 c0 k0) m_int m_isinstance m_bool x_BadNumber (pure_need_number _)
  have C_apart := ok_apart (P := P) (w := w) (G := { K := K, SieveError := eSieveError, BadNumber := eBadNumber, NoWay := eNoWay, Unlike := eUnlike, BadTable := eBadTable, BadName := eBadName, BadSums := eBadSums }) (base := base) (defAt_mk X GX a1 l1 c1 k1)  (pure_apart _)
  have C_rest_of := ok_rest_of (P := P) (w := w) (G := { K := K, SieveError := eSieveError, BadNumber := eBadNumber, NoWay := eNoWay, Unlike := eUnlike, BadTable := eBadTable, BadName := eBadName, BadSums := eBadSums }) (base := base) (defAt_mk X GX a2 l2 c2 k2)  (pure_rest_of _)
  have C_divided_by := ok_divided_by (P := P) (w := w) (G := { K := K, SieveError := eSieveError, BadNumber := eBadNumber, NoWay := eNoWay, Unlike := eUnlike, BadTable := eBadTable, BadName := eBadName, BadSums := eBadSums }) (base := base) (defAt_mk X GX a3 l3 c3 k3)  (pure_divided_by _)
  have C_shows := okn_shows (P := P) (w := w) (G := { K := K, SieveError := eSieveError, BadNumber := eBadNumber, NoWay := eNoWay, Unlike := eUnlike, BadTable := eBadTable, BadName := eBadName, BadSums := eBadSums }) (base := base) (defAt_mk X GX a4 l4 c4 k4) C_divided_by C_rest_of m_all m_zip (pure_shows _) 30
  have C_paper_of := okn_paper_of (P := P) (w := w) (G := { K := K, SieveError := eSieveError, BadNumber := eBadNumber, NoWay := eNoWay, Unlike := eUnlike, BadTable := eBadTable, BadName := eBadName, BadSums := eBadSums }) (base := base) (defAt_mk X GX a5 l5 c5 k5) C_apart C_rest_of m_all (pure_paper_of _) 30
  have C_prime_or_parts := ok_prime_or_parts (P := P) (w := w) (G := { K := K, SieveError := eSieveError, BadNumber := eBadNumber, NoWay := eNoWay, Unlike := eUnlike, BadTable := eBadTable, BadName := eBadName, BadSums := eBadSums }) (base := base) (defAt_mk X GX a6 l6 c6 k6) C_need_number C_apart C_paper_of c_MOST_NUMBER (pure_prime_or_parts _)
  have C__law_cell := ok__law_cell (P := P) (w := w) (G := { K := K, SieveError := eSieveError, BadNumber := eBadNumber, NoWay := eNoWay, Unlike := eUnlike, BadTable := eBadTable, BadName := eBadName, BadSums := eBadSums }) (base := base) (defAt_mk X GX a7 l7 c7 k7) m_len (pure__law_cell _)
  have C__law_drawn := ok__law_drawn (P := P) (w := w) (G := { K := K, SieveError := eSieveError, BadNumber := eBadNumber, NoWay := eNoWay, Unlike := eUnlike, BadTable := eBadTable, BadName := eBadName, BadSums := eBadSums }) (base := base) (defAt_mk X GX a8 l8 c8 k8)  (pure__law_drawn _)
  have C__law_least := ok__law_least (P := P) (w := w) (G := { K := K, SieveError := eSieveError, BadNumber := eBadNumber, NoWay := eNoWay, Unlike := eUnlike, BadTable := eBadTable, BadName := eBadName, BadSums := eBadSums }) (base := base) (defAt_mk X GX a10 l10 c10 k10)  (pure__law_least _)
  have C__law_power := okn__law_power (P := P) (w := w) (G := { K := K, SieveError := eSieveError, BadNumber := eBadNumber, NoWay := eNoWay, Unlike := eUnlike, BadTable := eBadTable, BadName := eBadName, BadSums := eBadSums }) (base := base) (defAt_mk X GX a11 l11 c11 k11)  (pure__law_power _) 40
  have C__law_shows := okn__law_shows (P := P) (w := w) (G := { K := K, SieveError := eSieveError, BadNumber := eBadNumber, NoWay := eNoWay, Unlike := eUnlike, BadTable := eBadTable, BadName := eBadName, BadSums := eBadSums }) (base := base) (defAt_mk X GX a12 l12 c12 k12) C__law_power (pure__law_shows _) 30
  have C__law_bent := ok__law_bent (P := P) (w := w) (G := { K := K, SieveError := eSieveError, BadNumber := eBadNumber, NoWay := eNoWay, Unlike := eUnlike, BadTable := eBadTable, BadName := eBadName, BadSums := eBadSums }) (base := base) (defAt_mk X GX a13 l13 c13 k13) m_len m_max (pure__law_bent _)
  exact ok_law (G := { K := K, SieveError := eSieveError, BadNumber := eBadNumber, NoWay := eNoWay, Unlike := eUnlike, BadTable := eBadTable, BadName := eBadName, BadSums := eBadSums }) (T := ([(cA14, tP14, ("law" ++ ".<locals>." : Str) ++ "<lambda>")].map fun p => p.2)) F_law TD TB14 hmT14 hu14 C__law_drawn C__law_cell C__law_least C_prime_or_parts C__law_shows C_shows C__law_bent m_len m_min m_max m_range m_tuple m_isinstance m_any m_bool (pure_law _)
end Sv
open PySem PySem.W PyProof.Rows
set_option maxHeartbeats 0 in
theorem PySem.Challenge.cw_sievewright_k50_whole_papers_holds : PySem.Challenge.rw_sievewright_k50_whole_papers.Holds := by
  w_on; o_law; k_head; (case hw => w_witness2)
  k_fill
  refine Sv.walk_told (l := PySem.Challenge.rw_sievewright_k50_whole_papers) (k := 73) (x := "_law_script") rfl rfl ⟨rfl, by decide, by decide⟩ (fun w h Y => by first | exact PySem.W.kIn_of Y | exact PySem.W.km_in_of Y) ?F
  case F =>
    intro w mg fa h KX GX hmg TBS
    refine' Sv.all_mk KX GX hmg ?a0 ?l0 ?c0 ?k0 ?a1 ?l1 ?c1 ?k1 ?a2 ?l2 ?c2 ?k2 ?a3 ?l3 ?c3 ?k3 ?a4 ?l4 ?c4 ?k4 ?a5 ?l5 ?c5 ?k5 ?a6 ?l6 ?c6 ?k6 ?a7 ?l7 ?c7 ?k7 ?a8 ?l8 ?c8 ?k8 ?a9 ?l9 ?c9 ?k9 ?a10 ?l10 ?c10 ?k10 ?a11 ?l11 ?c11 ?k11 ?a12 ?l12 ?c12 ?k12 ?a13 ?l13 ?c13 ?k13 ?a14 ?l14 ?c14 ?k14 ?tl14 ?tp14 ?tn14 ?th14 ?tt14 ?a15 ?l15 ?c15 ?k15 ?gSieveError ?gBadNumber ?gNoWay ?gUnlike ?gBadTable ?gBadName ?gBadSums ?eB ?z_int ?z_isinstance ?z_bool ?z_all ?z_zip ?z_len ?z_sum ?z_ValueError ?z_max ?z_min ?z_range ?z_tuple ?z_any ?vMOST_NUMBER
    (case a0 => k_is)
    (case l0 => k_is)
    (case c0 => k_is)
    (case k0 => k_is)
    (case a1 => k_is)
    (case l1 => k_is)
    (case c1 => k_is)
    (case k1 => k_is)
    (case a2 => k_is)
    (case l2 => k_is)
    (case c2 => k_is)
    (case k2 => k_is)
    (case a3 => k_is)
    (case l3 => k_is)
    (case c3 => k_is)
    (case k3 => k_is)
    (case a4 => k_is)
    (case l4 => k_is)
    (case c4 => k_is)
    (case k4 => k_is)
    (case a5 => k_is)
    (case l5 => k_is)
    (case c5 => k_is)
    (case k5 => k_is)
    (case a6 => k_is)
    (case l6 => k_is)
    (case c6 => k_is)
    (case k6 => k_is)
    (case a7 => k_is)
    (case l7 => k_is)
    (case c7 => k_is)
    (case k7 => k_is)
    (case a8 => k_is)
    (case l8 => k_is)
    (case c8 => k_is)
    (case k8 => k_is)
    (case a9 => k_is)
    (case l9 => k_is)
    (case c9 => k_is)
    (case k9 => k_is)
    (case a10 => k_is)
    (case l10 => k_is)
    (case c10 => k_is)
    (case k10 => k_is)
    (case a11 => k_is)
    (case l11 => k_is)
    (case c11 => k_is)
    (case k11 => k_is)
    (case a12 => k_is)
    (case l12 => k_is)
    (case c12 => k_is)
    (case k12 => k_is)
    (case a13 => k_is)
    (case l13 => k_is)
    (case c13 => k_is)
    (case k13 => k_is)
    (case a14 => k_is)
    (case l14 => k_is)
    (case c14 => k_is)
    (case k14 => k_is)
    (case tl14 => k_is)
    (case tp14 => rfl)
    (case tn14 => kernel_rfl)
    (case th14 => kernel_rfl)
    (case tt14 => exact TBS _ (by kernel_rfl))
    (case a15 => k_is)
    (case l15 => k_is)
    (case c15 => k_is)
    (case k15 => k_is)
    (case gSieveError => k_is)
    (case gBadNumber => k_is)
    (case gNoWay => k_is)
    (case gUnlike => k_is)
    (case gBadTable => k_is)
    (case gBadName => k_is)
    (case gBadSums => k_is)
    (case eB => kernel_rfl)
    (case z_int => k_is)
    (case z_isinstance => k_is)
    (case z_bool => k_is)
    (case z_all => k_is)
    (case z_zip => k_is)
    (case z_len => k_is)
    (case z_sum => k_is)
    (case z_ValueError => k_is)
    (case z_max => k_is)
    (case z_min => k_is)
    (case z_range => k_is)
    (case z_tuple => k_is)
    (case z_any => k_is)
    (case vMOST_NUMBER => k_is)
