import PyProof.Rows.All
import Wide.All
import OpenK.AllK
import Wide.FinOn
import HandS.ForMost
import HandS.Exc
import HandS.ExcOwn
import HandS.ExcCtx
import HandS.WordsExc
import HandS.Wide
import HandS.IsInst
import HandS.EndBits
import KE.KRevSl
import HandS.Evl
import KE.Datum
import HandS.HotCalls
import HandS.ExcIs
import HandS.Lambda
import KE.GoesComp
import KE.GoesMore
import HandS.TryOnly
import HandS.EndTab
import HandS.TupLe
import PySem.Challenge.RW_sievewright_k11_by_shares
set_option Elab.async false
set_option linter.all false
set_option maxRecDepth 100000
set_option maxHeartbeats 4000000
/-! SvBase: how the defs of a law's text are taken one by one: Pm, DefAt, Ok, pe_ok, mk_ok; names of readings. -/
namespace Sv
open PySem PySem.Spec PyProof.Rows L2
/-- the written part and where its named objects stand -/
structure Pm where
  K : PySem.W.Frag
  SieveError : Addr := 0
  BadTable : Addr := 0
  Unlike : Addr := 0
  NoWay : Addr := 0
  BadName : Addr := 0
  BadNumber : Addr := 0
  BadSums : Addr := 0
  BadRule : Addr := 0
  Full : Addr := 0
  Used : Addr := 0
  Nothing : Addr := 0
  BadText : Addr := 0
  NAMES : Addr := 0
  PARTS : Addr := 0
  SIZES : Addr := 0
  Sums : Addr := 0
  Sheet : Addr := 0
abbrev CXN (P : Program) (w : World) : CXT := L2N.CX P w
/-! ### promises by the arguments -/
abbrev R0 := Hp → VK → XK → Prop
abbrev R1 := V → Hp → VK → XK → Prop
abbrev R2' := V → V → Hp → VK → XK → Prop
abbrev R3 := V → V → V → Hp → VK → XK → Prop
abbrev R4 := V → V → V → V → Hp → VK → XK → Prop
def sp0 (R : R0) : Sp
  | [], H, Q, E => R H Q E
  | _, _, _, _ => False
def sp1 (R : R1) : Sp
  | [x], H, Q, E => R x H Q E
  | _, _, _, _ => False
def sp2 (R : R2') : Sp
  | [x, y], H, Q, E => R x y H Q E
  | _, _, _, _ => False
def sp3 (R : R3) : Sp
  | [x, y, z], H, Q, E => R x y z H Q E
  | _, _, _, _ => False
def sp4 (R : R4) : Sp
  | [x, y, z, u], H, Q, E => R x y z u H Q E
  | _, _, _, _ => False
theorem sp0_len {R : R0} : ∀ vs H Q E, sp0 R vs H Q E → vs.length = 0
  | [], _, _, _, _ => rfl
theorem sp1_len {R : R1} : ∀ vs H Q E, sp1 R vs H Q E → vs.length = 1
  | [_], _, _, _, _ => rfl
theorem sp2_len {R : R2'} : ∀ vs H Q E, sp2 R vs H Q E → vs.length = 2
  | [_, _], _, _, _, _ => rfl
theorem sp3_len {R : R3} : ∀ vs H Q E, sp3 R vs H Q E → vs.length = 3
  | [_, _, _], _, _, _, _ => rfl
theorem sp4_len {R : R4} : ∀ vs H Q E, sp4 R vs H Q E → vs.length = 4
  | [_, _, _, _], _, _, _, _ => rfl
/-- a body's ends: the value handed back, None at its end -/
abbrev dn (Q : VK) : Ends := { nx := fun _ H' => Q .non H', rt := Q }
/-! ### a def of the text -/
structure DefAt (K : PySem.W.Frag) (mg : Str → Option Value) (x : Str) (st : Stmt) : Prop where
  ex : ∃ (f : Addr) (fd : FuncData), Fun K x x st f fd ∧ mg x = some (.ref f)
structure Ok (P : Program) (w : World) (K : PySem.W.Frag) (mg : Str → Option Value) (base : Heap) (CX : CXT) (k : Nat) (x : Str) (ps : List Str) (sp : Sp) : Prop where
  ex : ∃ (f : Addr) (fd : FuncData), FnOk P w K mg base CX k f fd ps sp ∧ mg x = some (.ref f) ∧ PySem.W.keepIn K (.ref f) = true ∧ Binds K fd ps []
theorem defAt_mk {K : PySem.W.Frag} {h : Heap} {mg : Str → Option Value} {x : Str} {st : Stmt} {f : Addr} {od an : Option Addr} {sl : Array (Option Value)} {oc kV dc pm cd ct : Value} (X : K.In h) (G : h.Ns mainGlobals mg)
    (a : PySem.W.nsIn K mainGlobals x = some (some (.ref f))) (l : K.lookup f = some ⟨oc, od, .func (PySem.W.fnOf x x (defArgs st) (defBody st) (defScope st) .none kV dc pm an cd ct), sl⟩) (c : PySem.W.codeIn K cd x = true) (k : PySem.W.keepIn K (.ref f) = true) : DefAt K mg x st :=
  ⟨f, _, fun_mk l c k, PySem.W.mg_of X G a⟩
section
variable {P : Program} {w : World} {K : PySem.W.Frag} {mg : Str → Option Value} {base : Heap} {CX : CXT} {x : Str} {st : Stmt} {N ps : List Str} {k : Nat} {sp : Sp}
theorem mk_fn {f : Addr} {fd : FuncData} (F : Fun K x x st f fd) (S : FnScope N ps (defScope st)) (len : ∀ vs H Q E, sp vs H Q E → vs.length = ps.length) (t : XK → TS) (hp : ∀ vs H Q E, sp vs H Q E → t E (dn Q) (start N vs) H)
    (hd : ∀ (cdv : Value) (A : Around) (outer : List Env) (s : Shared) (H : Hp) (E : XK), Room k (A.deeper (envOfC x (defScope st) s.heap.objs.size f cdv)) → PSs (cxOf CX P w K mg base N x (defScope st) f cdv A outer s H E) (defBody st) (t E)) :
    FnOk P w K mg base CX (k + 1) f fd ps sp := by
  obtain ⟨oc, od, kV, doc, pm, an, cdv, ct, osl, rfl, lk, hcd⟩ := F.ex
  exact fn_of lk hcd S len fun A outer s H vs Q E hr hsp => ⟨t E, hd cdv A outer s H E hr, hp vs H Q E hsp⟩
theorem mk_ok (D : DefAt K mg x st) (S : FnScope N ps (defScope st))
    (hb : ∀ (kV doc pm : Value) (an : Option Addr) (cdv ct : Value) (us : List Value), us.length = ps.length → bindArgs (PySem.W.fnOf x x (defArgs st) (defBody st) (defScope st) .none kV doc pm an cdv ct) ⟨us, []⟩ = pure (ps.zip us))
    (len : ∀ vs H Q E, sp vs H Q E → vs.length = ps.length) (t : XK → TS) (hp : ∀ vs H Q E, sp vs H Q E → t E (dn Q) (start N vs) H)
    (hd : ∀ (f : Addr) (cdv : Value) (A : Around) (outer : List Env) (s : Shared) (H : Hp) (E : XK), Room k (A.deeper (envOfC x (defScope st) s.heap.objs.size f cdv)) → PSs (cxOf CX P w K mg base N x (defScope st) f cdv A outer s H E) (defBody st) (t E)) :
    Ok P w K mg base CX (k + 1) x ps sp := by
  obtain ⟨f, fd, F, hm⟩ := D.ex
  obtain ⟨oc, od, kV, doc, pm, an, cdv, ct, osl, rfl, lk, hcd⟩ := F.ex
  exact ⟨f, _, fn_of lk hcd S len fun A outer s H vs Q E hr hsp => ⟨t E, hd f cdv A outer s H E hr, hp vs H Q E hsp⟩, hm, F.kp, F.binds hb⟩
end
section
variable {X : Cx} {CX : CXT} {k j : Nat} {ps : List Str} {sp : Sp} {E : XK} {x : Str} {p pos : Pos} {e : Expr} {es : List Expr} {t : TA}
theorem pe_ok (F : Ok X.prog X.w X.K X.mg X.base CX k x ps sp) (hr : Room j X.A) (hk : k ≤ j) (hg : Gl X x) (hx : Passes CX X E)
    (ha : PA X (e :: es) t) (hdb : (x == ("__debug__" : Str)) = false := by decide) (he : starEach (e :: es) X.env = (false, eval e X.env) :: starEach es X.env := by rfl) (hpl : (backTo pos (starEach es X.env)).any (·.1) = false := by rfl) :
    PE X (.Call (.Name x p) (e :: es) [] pos) (tCall sp [] E t) := by
  obtain ⟨f, fd, F, hm, hkp, hb⟩ := F.ex
  exact pe_call F (hr.mono hk) hg hm hkp hb .nil hx ha hdb he hpl
theorem pe_ok0 (F : Ok X.prog X.w X.K X.mg X.base CX k x ps sp) (hr : Room j X.A) (hk : k ≤ j) (hg : Gl X x) (hx : Passes CX X E) (hdb : (x == ("__debug__" : Str)) = false := by decide) :
    PE X (.Call (.Name x p) [] [] pos) (tCall sp [] E tNil) := by
  obtain ⟨f, fd, F, hm, hkp, hb⟩ := F.ex
  exact pe_call0 F (hr.mono hk) hg hm hkp hb .nil hx hdb
/-- a body's callee's exception leaves the body -/
theorem psx (hs : X.stack = X.env :: X.outer) (hf : X.env.frame = some X.env.locals) (hex : X.ex = []) {E₁ : Value → Shared → Prop}
    (hx : X.xe = fun e s' => wpAny (model X.prog X.w) X.A (leaving X.env e) (fun _ s'' => L2N.CX X.prog X.w X.outer X.H_0 X.s_0 E e s'') E₁ s') : Passes (CXN X.prog X.w) X E :=
  L2N.passes_call (L2N.takes_of hs hf hex hx) fun _ _ _ _ h => h
/-- .. where nothing is let out -/
theorem psn : Passes (CXN X.prog X.w) X E0 := fun _ _ _ _ _ _ _ h => by
  obtain ⟨_, _, _, _, _, _, _, _, _, _, _, _, z⟩ := h
  exact z.elim
end
/-! ### readings by names -/
abbrev oAdd : R2 := rI0 fun i j => .int (i + j)
abbrev oSub : R2 := rI0 fun i j => .int (i - j)
def CM (i j : Int) : Prop := CMul i j ∨ CMulW i j
abbrev oMul : R2 := rI CM fun i j => .int (i * j)
abbrev oMod : R2 := rI (fun _ j => 0 < j) fun i j => .int (i % j)
abbrev oDiv : R2 := rI CDivW fun i j => .int (i / j)
abbrev oPow : R2 := rI CPow fun i j => .int (i ^ j.toNat)
abbrev cLt : R2 := rI0 fun i j => .bl (decide (i < j))
abbrev cLe : R2 := rI0 fun i j => .bl (decide (i ≤ j))
abbrev cGt : R2 := rI0 fun i j => .bl (decide (j < i))
abbrev cGe : R2 := rI0 fun i j => .bl (decide (j ≤ i))
abbrev oCatS : R2 := fun x y H Q => ∃ i j, x = .str i ∧ y = .str j ∧ i.length + j.length ≤ sizeLine ∧ Q (.str (i ++ j)) H
abbrev uNeg : V → Hp → VK → Prop := rU fun i => .int (-i)
section
variable {X : Cx}
theorem op_mulA : OpR X (binaryOp .Mult) oMul := fun pins s σ H x y v u Q I rx ry h => by
  obtain ⟨i, j, rfl, rfl, c, q⟩ := h
  rcases c with c | c
  · exact op_mul pins s σ H _ _ v u Q I rx ry ⟨i, j, rfl, rfl, c, q⟩
  · exact op_mulW pins s σ H _ _ v u Q I rx ry ⟨i, j, rfl, rfl, c, q⟩
end
def bLenQ (K : PySem.W.Frag) : List V → Hp → VK → Prop := fun xs H Q => ∃ p ys, xs = [.ref p] ∧ (SqL K H p ys ∨ SqT K H p ys) ∧ Q (.int ys.length) H
def bLenS : List V → Hp → VK → Prop := fun xs H Q => ∃ z, xs = [.str z] ∧ z.length ≤ sizeLine ∧ Q (.int z.length) H
def bMax2 : List V → Hp → VK → Prop := fun xs H Q => ∃ i j, xs = [.int i, .int j] ∧ Q (.int (if j > i then j else i)) H
def bMin2 : List V → Hp → VK → Prop := fun xs H Q => ∃ i j, xs = [.int i, .int j] ∧ Q (.int (if j < i then j else i)) H
def bInt1 : List V → Hp → VK → Prop := fun xs H Q => (∃ i, xs = [.int i] ∧ Q (.int i) H) ∨ ∃ k, xs = [.bl k] ∧ Q (.int (if k then 1 else 0)) H
def bListOf (K : PySem.W.Frag) : List V → Hp → VK → Prop := fun xs H Q => ∃ p ys, xs = [.ref p] ∧ (SqL K H p ys ∨ SqT K H p ys) ∧ ∀ l, H l = none → Q (.ref l) (upd H l (.lst ys))
/-- raise C('..') -/
def tRaise (C : Addr) (E : XK) : TS := fun _ _ H => E (.ref C) none H
section
variable {X : Cx} {C : Addr} {E : XK}
/-- what the class C of the program's own errors must be -/
structure ErrAt (K : PySem.W.Frag) (mg : Str → Option Value) (x : Str) (C : Addr) : Prop where
  gC : mg x = some (.ref C)
  xC : PySem.W.excIn K C [.type "ValueError", .type "Exception", .type "BaseException", .type "object"] "ValueError.__new__" = true
  kC : PySem.W.keepIn K (.ref C) = true
  bC : PySem.W.subIn K (.ref C) (.type "BaseException") = some true
  tC : PySem.W.typeIn K (.ref C) = some (.type "type")
theorem ps_raiseN {x m : Str} {j : Nat} {p p2 pos pos' : Pos} (T : ErrAt X.K X.mg x C) (hg : Gl X x) (hc : X.calm = true) (hs : X.stack = X.env :: X.outer) (hf : X.env.frame = some X.env.locals) (hex : X.ex = []) {E₁ : Value → Shared → Prop}
    (hx : X.xe = fun e s' => wpAny (model X.prog X.w) X.A (leaving X.env e) (fun _ s'' => L2N.CX X.prog X.w X.outer X.H_0 X.s_0 E e s'') E₁ s') (hdb : (x == ("__debug__" : Str)) = false := by decide) :
    PS X (.Raise (some (.Call (.Name x p) [.Constant (.str m) j p2] [] pos)) none pos') (tRaise C E) :=
  L2N.ps_raise hc (L2N.takes_of hs hf hex hx) (L2N.pmk_own PySem.F.excBase_ValueError T.xC T.gC T.kC (raises_own T.bC T.tC) hg hdb)
end
/-! ### xs[::-1] -/
def tRevL (K : PySem.W.Frag) (te : TE) : TE := fun σ H Q => te σ H fun x H1 => ∃ a xs, x = .ref a ∧ SqL K H1 a xs ∧ ∀ p, H1 p = none → Q (.ref p) (upd H1 p (.lst xs.reverse))
section
variable {X : Cx}
theorem pe_revl {e : Expr} {te : TE} {j : Nat} {p1 p2 p3 pos : Pos} (he : PE X e te) : PE X (.Subscript e (.Slice none none (some (.UnaryOp .USub (.Constant (.int 1) j p1) p3)) p2) pos) (tRevL X.K te) := by
  refine ⟨fun pins s σ H Q I h => ?_⟩
  refine Subscript_ (thn (he.run pins s σ H _ I h) fun v s1 ⟨x, H1, I1, r1, q1⟩ => ?_)
  refine wpAny_Slice ?_
  rw [evalPart_none]
  refine wpAny_pure (wpAny_pure ?_)
  have hst : PO X (some (.UnaryOp .USub (.Constant (.int 1) j p1) p3)) (tPart (tUn uNeg (tC (.int 1)))) := po_some (pe_un un_neg pe_int)
  refine thn (hst.run pins s1 σ H1 (fun o H2 => o = some (-1) ∧ H2 = H1) I1 ⟨1, rfl, -1, rfl, rfl, rfl⟩) fun vst s3 ⟨o, H3, I3, pst, eo, eH⟩ => ?_
  subst eo
  subst eH
  obtain ⟨a, xs, rfl, hx, q⟩ := q1
  cases r1
  have I4 : Inv X pins σ H3 { s3 with heap := s3.heap.push { cls := .type "slice", data := .fields #[.none, .none, vst] } } := I3.kept (t' := s3.toks) fun b ob q => Heap.get?_push_of_some _ q
  obtain ⟨its, r, ht, hz⟩ := I4.list hx
  have hlen := r.length
  show wpAny (model X.prog X.w) X.A (subscriptTail e (.Slice none none (some (.UnaryOp .USub (.Constant (.int 1) j p1) p3)) p2) (.ref a) (.ref s3.heap.objs.size)) (EP X pins σ Q) X.xe { s3 with heap := s3.heap.push { cls := .type "slice", data := .fields #[.none, .none, vst] } }
  refine tail_any (ops := [.ref a, .ref s3.heap.objs.size]) ht.isList.typeIs slot_list_getitem.lookup ?_ (by with_unfolding_all rfl)
  refine wpAny_getItem_list_slice ht.isList (Heap.IsSliceOf.new ..) .none .none pst (by simp) ?_ (by rw [List.size_toArray] <;> omega)
  rw [PySem.W.krv_pick]
  refine ⟨.ref _, _, I4.laid (t' := s3.toks) (o := .lst xs.reverse) (fun b ob q => Heap.get?_push_of_some _ q) (Nat.le_refl _) ?_, rfl, q _ (I4.hok.fresh (Nat.le_refl _))⟩
  exact ⟨by rw [List.length_reverse]; exact hz, _, 0, r.reverse, Heap.get?_push_size _ rfl⟩
end
/-! ### the end: a law's promise, with the script's bits -/
theorem walk_law {l : PySem.W.OpenLaw} {n k : Nat} {q : Program} {loose : List Str} {XP : (Str → Option Value) → Heap → Prop} {YP : World → Heap → Prop} {d : DefRec} {K : Params → PySem.W.Frag} {x : Str}
    (hn : l.most = some n) (hn2 : n ≤ sizeLine) (hdf : d.params.defaults = []) (hr : Room k callerA)
    (hY : ∀ (w : World) (h : Heap), YP w h → (K w.params).In h)
    (F : ∀ (w : World) (mg : Str → Option Value) (fa : Addr) (h : Heap), (K w.params).In h → h.Ns mainGlobals mg → mg d.name = some (.ref fa) →
      ∃ G : Pm, G.K = K w.params ∧ ∃ fd : FuncData, (∀ (s : Shared) (u : Value), BindsTo s fd ⟨[u], []⟩ [(x, u)]) ∧
        ∀ base : Heap, G.K.In base → base.Ns mainGlobals mg → FnOk l.prog w G.K mg base (CXN l.prog w) k fa fd [x] (sp1 fun v H Q _ => ∃ (a : Addr) (ns : List Int), v = .ref a ∧ SqL G.K H a (ns.map V.int) ∧ ns.length ≤ n ∧ (∀ z ∈ ns, Builtin.Int.intBits z ≤ 1048576) ∧ ∀ H', Q (.bl true) H')) :
    PySem.W.WalkO q loose XP YP l.row.toRowW d [] (fun f vs => PySem.call f vs) := by
  refine walk_ofB (l := l) (n := n) (k := k) (x := x) (K := K) (CX := fun w => CXN l.prog w) (sp := fun w => sp1 fun v H Q _ => ∃ (a : Addr) (ns : List Int), v = .ref a ∧ SqL (K w.params) H a (ns.map V.int) ∧ ns.length ≤ n ∧ (∀ z ∈ ns, Builtin.Int.intBits z ≤ 1048576) ∧ ∀ H', Q (.bl true) H') hn hn2 hdf hr hY ?_ ?_ ?_
  · intro w mg fa h KX GX hm
    obtain ⟨G, eG, fd, hb, hF⟩ := F w mg fa h KX GX hm
    rw [eG] at hF
    exact ⟨fd, hb, hF⟩
  · intro w H a ns hl hz _ hS
    exact ⟨a, ns, rfl, hS, hl, hz, fun _ => rfl⟩
  · intro w H s e s' h
    obtain ⟨_, _, _, _, _, _, _, _, _, _, _, _, z⟩ := h
    exact z
end Sv

set_option Elab.async false
set_option linter.all false
set_option maxRecDepth 100000
set_option maxHeartbeats 4000000
/-! SvEv: what readings evaluate to, further: isinstance, len, == of data, calls; the word «ev». -/
namespace Sv
open PySem PySem.Spec PyProof.Rows L2 Evl
section
variable {K : PySem.W.Frag} {σ : L2.St} {H H' : Hp} {ta tb te tc : TE} {t u : TT} {x y z v : V} {a : Addr} {xs : List V}
theorem ev_at (h : Ev te σ H v) (Q : VK) (q : ∀ H2, Ex H H2 → Q v H2) : te σ H Q := h H (Ex.refl H) Q q
/-! ### isinstance -/
theorem ty_l (h : SqL K H a xs) : TyX K H (.ref a) (.type "list") := by
  rcases h with (h | ⟨o, h⟩) | ⟨o, its, n, e, c, _⟩
  · exact .base (.lst h)
  · exact .base (.frz h)
  · exact .kList e c
theorem ty_t (h : SqT K H a xs) : TyX K H (.ref a) (.type "tuple") := by
  rcases h with (h | ⟨o, h⟩) | ⟨o, its, n, e, c, _⟩
  · exact .base (.tup h)
  · exact .fTuple h
  · exact .kTuple e c
theorem rc_isi {n m : String} {b : Bool} (hx : ∀ H1, Ex H H1 → TyX K H1 x (.type m)) (hk : kitB m n = some b) : RC (rIsi K) [x, .ty n] H (.bl b) :=
  fun H1 e Q q => ⟨x, .ty n, .type m, .type n, b, rfl, .ty n, hx H1 e, kit_ty hk, q H1 (Ex.refl H1)⟩
theorem ev_isi {n m : String} {b : Bool} (ha : Ev ta σ H x) (hx : ∀ H1, Ex H H1 → TyX K H1 x (.type m)) (hk : kitB m n = some b) : Ev (tCB (rIsi K) (tCons ta (tCons (tC (.ty n)) tNil))) σ H (.bl b) :=
  ev_cb (ea_cons ha (ea_cons ev_c ea_nil)) (rc_isi hx hk)
/-! ### len, max, min, int -/
theorem rc_lenL (h : SqL K H a xs) : RC (bLenQ K) [.ref a] H (.int (xs.length : Int)) :=
  fun H1 e Q q => ⟨a, xs, rfl, .inl (ex_l e h), q H1 (Ex.refl H1)⟩
theorem rc_lenT (h : SqT K H a xs) : RC (bLenQ K) [.ref a] H (.int (xs.length : Int)) :=
  fun H1 e Q q => ⟨a, xs, rfl, .inr (ex_t e h), q H1 (Ex.refl H1)⟩
theorem ev_lenL (ha : Ev ta σ H (.ref a)) (h : SqL K H a xs) : Ev (tCB (bLenQ K) (tCons ta tNil)) σ H (.int (xs.length : Int)) := ev_cb (ea_cons ha ea_nil) (rc_lenL h)
theorem ev_lenT (ha : Ev ta σ H (.ref a)) (h : SqT K H a xs) : Ev (tCB (bLenQ K) (tCons ta tNil)) σ H (.int (xs.length : Int)) := ev_cb (ea_cons ha ea_nil) (rc_lenT h)
theorem ev_maxI {i j : Int} (ha : Ev ta σ H (.int i)) (hb : Ev tb σ H (.int j)) : Ev (tCB bMax2 (tCons ta (tCons tb tNil))) σ H (.int (if j > i then j else i)) :=
  ev_cb (ea_cons ha (ea_cons hb ea_nil)) fun H1 _ Q q => ⟨i, j, rfl, q H1 (Ex.refl H1)⟩
theorem ev_minI {i j : Int} (ha : Ev ta σ H (.int i)) (hb : Ev tb σ H (.int j)) : Ev (tCB bMin2 (tCons ta (tCons tb tNil))) σ H (.int (if j < i then j else i)) :=
  ev_cb (ea_cons ha (ea_cons hb ea_nil)) fun H1 _ Q q => ⟨i, j, rfl, q H1 (Ex.refl H1)⟩
theorem ev_intI {i : Int} (ha : Ev ta σ H (.int i)) : Ev (tCB bInt1 (tCons ta tNil)) σ H (.int i) :=
  ev_cb (ea_cons ha ea_nil) fun H1 _ Q q => .inl ⟨i, rfl, q H1 (Ex.refl H1)⟩
theorem ev_intB {k : Bool} (ha : Ev ta σ H (.bl k)) : Ev (tCB bInt1 (tCons ta tNil)) σ H (.int (if k then 1 else 0)) :=
  ev_cb (ea_cons ha ea_nil) fun H1 _ Q q => .inr ⟨k, rfl, q H1 (Ex.refl H1)⟩
theorem el_listOf (ha : Ev ta σ H (.ref a)) (h : SqL K H a xs) : EvL (tCB (bListOf K) (tCons ta tNil)) σ H xs :=
  el_cb (ea_cons ha ea_nil) fun H1 e Q q => ⟨a, xs, rfl, .inl (ex_l e h), fun l hl => q l _ hl (Ex.new hl) upd_same⟩
theorem el_rev (ha : Ev ta σ H (.ref a)) (h : SqL K H a xs) : EvL (tRevL K ta) σ H xs.reverse :=
  fun H1 e Q q => ha H1 e _ fun H2 e2 => ⟨a, xs, rfl, ex_l (e.trans e2) h, fun p hp => q p _ (fresh_back e2 hp) (e2.trans (Ex.new hp)) upd_same⟩
theorem ev_isN (ha : Ev ta σ H x) : Ev (tIsN ta) σ H (.bl (decide (x = .non))) := fun H1 e Q q => ha H1 e _ q
theorem ev_notN (ha : Ev ta σ H x) : Ev (tNotN ta) σ H (.bl (!decide (x = .non))) := fun H1 e Q q => ha H1 e _ q
/-- a chain -/
theorem ev_chain {r r' : R2} {k b : Bool} (ha : Ev ta σ H x) (hb : Ev tb σ H y) (h1 : RV r x y H (.bl k)) (hc : k = true → Ev tc σ H z) (h2 : k = true → RV r' y z H (.bl b)) : Ev (tChain r r' ta tb tc) σ H (.bl (k && b)) := by
  intro H1 e Q q
  refine ha H1 e _ fun H2 e2 => hb H2 (e.trans e2) _ fun H3 e3 => h1 H3 (e.trans (e2.trans e3)) _ fun H4 e4 => ⟨k, rfl, ?_⟩
  cases k with
  | false => exact q H4 (e2.trans (e3.trans e4))
  | true => exact hc rfl H4 (e.trans (e2.trans (e3.trans e4))) _ fun H5 e5 => h2 rfl H5 (e.trans (e2.trans (e3.trans (e4.trans e5)))) _ fun H6 e6 => q H6 (e2.trans (e3.trans (e4.trans (e5.trans e6))))
theorem et_chain {b : Bool} (h : Ev te σ H (.bl b)) : EvT (tTest te) σ H b := et_test h
/-! ### any, all, sum of lists just made -/
theorem ev_anyN {bs : List Bool} (ha : EvL ta σ H (bs.map V.bl)) : Ev (tCB (rAny K) (tCons ta tNil)) σ H (.bl (bs.any id)) :=
  fun H1 e Q q => ha H1 e _ fun p H2 _ e2 h2 => ⟨p, bs, rfl, sq_of h2, q H2 e2⟩
theorem ev_allN {bs : List Bool} (ha : EvL ta σ H (bs.map V.bl)) : Ev (tCB (rAll K) (tCons ta tNil)) σ H (.bl (bs.all id)) :=
  fun H1 e Q q => ha H1 e _ fun p H2 _ e2 h2 => ⟨p, bs, rfl, sq_of h2, q H2 e2⟩
theorem ev_sumN {ns : List Int} (ha : EvL ta σ H (ns.map V.int)) : Ev (tCB (rSum K) (tCons ta tNil)) σ H (.int ns.sum) :=
  fun H1 e Q q => ha H1 e _ fun p H2 _ e2 h2 => ⟨p, ns, rfl, sq_of h2, q H2 e2⟩
theorem el_eq {ys : List V} (h : EvL te σ H xs) (e : xs = ys) : EvL te σ H ys := e ▸ h
/-! ### calls of the text's defs -/
theorem ev_ca1 {R : R1} {E : XK} (ha : Ev ta σ H x) (h : ∀ H1, Ex H H1 → ∀ Q : VK, (∀ H2, Ex H1 H2 → Q z H2) → R x H1 Q E) : Ev (tCall (sp1 R) [] E (tCons ta tNil)) σ H z :=
  fun H1 e Q q => ha H1 e _ fun H2 e2 => h H2 (e.trans e2) Q fun H3 e3 => q H3 (e2.trans e3)
theorem ev_ca2 {R : R2'} {E : XK} (ha : Ev ta σ H x) (hb : Ev tb σ H y) (h : ∀ H1, Ex H H1 → ∀ Q : VK, (∀ H2, Ex H1 H2 → Q z H2) → R x y H1 Q E) : Ev (tCall (sp2 R) [] E (tCons ta (tCons tb tNil))) σ H z :=
  fun H1 e Q q => ha H1 e _ fun H2 e2 => hb H2 (e.trans e2) _ fun H3 e3 => h H3 (e.trans (e2.trans e3)) Q fun H4 e4 => q H4 (e2.trans (e3.trans e4))
theorem ev_ca3 {w : V} {R : R3} {E : XK} (ha : Ev ta σ H x) (hb : Ev tb σ H y) (hc : Ev tc σ H w) (h : ∀ H1, Ex H H1 → ∀ Q : VK, (∀ H2, Ex H1 H2 → Q z H2) → R x y w H1 Q E) : Ev (tCall (sp3 R) [] E (tCons ta (tCons tb (tCons tc tNil)))) σ H z :=
  fun H1 e Q q => ha H1 e _ fun H2 e2 => hb H2 (e.trans e2) _ fun H3 e3 => hc H3 (e.trans (e2.trans e3)) _ fun H4 e4 => h H4 (e.trans (e2.trans (e3.trans e4))) Q fun H5 e5 => q H5 (e2.trans (e3.trans (e4.trans e5)))
/-! ### data -/
mutual
theorem Dp.ex (e : Ex H H') : ∀ (d : PyData) (v : V), Dp K H v d → Dp K H' v d
  | .none, _, h => by cases h; exact .non
  | .bool b, _, h => by cases h; exact .bl b
  | .int i, _, h => by cases h; exact .int i
  | .str x, _, h => by cases h; exact .str x
  | .list ds, _, h => by
    cases h with
    | lst h1 h2 => exact .lst (ex_l e h1) (DpAll.ex e ds _ h2)
  | .tuple ds, _, h => by
    cases h with
    | tup h1 h2 => exact .tup (ex_t e h1) (DpAll.ex e ds _ h2)
  | .dict _, _, h => by cases h
theorem DpAll.ex (e : Ex H H') : ∀ (ds : List PyData) (vs : List V), DpAll K H vs ds → DpAll K H' vs ds
  | [], _, h => by cases h; exact .nil
  | d :: ds, _, h => by
    cases h with
    | cons h1 h2 => exact .cons (Dp.ex e d _ h1) (DpAll.ex e ds _ h2)
end
theorem rv_eqD {d e : PyData} (hx : Dp K H x d) (hy : Dp K H y e) (s1 : SeqAt.shaped d = true) (s2 : SeqAt.shaped e = true) : RV (rEqD K) x y H (.bl (PyData.eqv d e)) :=
  fun H1 ex Q q => ⟨d, e, Dp.ex ex d _ hx, Dp.ex ex e _ hy, s1, s2, q H1 (Ex.refl H1)⟩
theorem rv_neD {d e : PyData} (hx : Dp K H x d) (hy : Dp K H y e) (s1 : SeqAt.shaped d = true) (s2 : SeqAt.shaped e = true) : RV (rNeD K) x y H (.bl (!PyData.eqv d e)) :=
  fun H1 ex Q q => ⟨d, e, Dp.ex ex d _ hx, Dp.ex ex e _ hy, s1, s2, q H1 (Ex.refl H1)⟩
theorem dp_ints : ∀ ns : List Int, DpAll K H (ns.map V.int) (ns.map PyData.int)
  | [] => .nil
  | n :: ns => .cons (.int n) (dp_ints ns)
theorem dp_il {ns : List Int} (h : SqL K H a (ns.map V.int)) : Dp K H (.ref a) (.list (ns.map PyData.int)) := .lst h (dp_ints ns)
theorem dp_it {ns : List Int} (h : SqT K H a (ns.map V.int)) : Dp K H (.ref a) (.tuple (ns.map PyData.int)) := .tup h (dp_ints ns)
theorem canL_ints : ∀ ns : List Int, PyData.canLayAll0 (ns.map PyData.int) = true
  | [] => by simp [PyData.canLayAll0]
  | n :: ns => by simp [PyData.canLayAll0, PyData.canLay0, canL_ints ns]
theorem dep_ints : ∀ ns : List Int, PyData.depthAll (ns.map PyData.int) = 0
  | [] => by simp [PyData.depthAll]
  | n :: ns => by simp [PyData.depthAll, PyData.depth, dep_ints ns]
theorem sh_il (ns : List Int) : SeqAt.shaped (.list (ns.map PyData.int)) = true := by
  simp [SeqAt.shaped, PyData.canLay0, PyData.depth, canL_ints, dep_ints]
theorem sh_it (ns : List Int) : SeqAt.shaped (.tuple (ns.map PyData.int)) = true := by
  simp [SeqAt.shaped, PyData.canLay0, PyData.depth, canL_ints, dep_ints]
theorem eqv_ints : ∀ ns ms : List Int, PyData.eqvAll (ns.map PyData.int) (ms.map PyData.int) = decide (ns = ms) := fun ns ms => PySem.W.eqvAll_map ns ms
theorem eqv_il (ns ms : List Int) : PyData.eqv (.list (ns.map PyData.int)) (.list (ms.map PyData.int)) = decide (ns = ms) := by
  rw [PyData.eqv]
  exact eqv_ints ns ms
theorem eqv_it (ns ms : List Int) : PyData.eqv (.tuple (ns.map PyData.int)) (.tuple (ms.map PyData.int)) = decide (ns = ms) := by
  rw [PyData.eqv]
  exact eqv_ints ns ms
end
/-! ### comprehensions whose element is told item by item -/
section
variable {K : PySem.W.Frag} {σ : L2.St} {H H' : Hp} {ta tb te tc : TE} {t u : TT} {x y z v : V} {a : Addr} {xs : List V} {D : Ends} {tu tz : TS} {g : TG}
theorem et_yes : EvT tYes σ H true := fun H1 _ Q q => q H1 (Ex.refl H1)
theorem given_all (n : Nat) (v : Nat → V) : given n (fun _ => true) v = (List.range n).map v := by
  unfold given
  rw [List.filter_eq_self.mpr (fun _ _ => rfl)]
theorem given_list (ys : List V) : given ys.length (fun _ => true) (fun i => ys.getD i .non) = ys := by
  rw [given_all]
  apply List.ext_getElem
  · rw [List.length_map, List.length_range]
  · intro i h1 h2
    rw [List.getElem_map, List.getElem_range, List.getD_eq_getElem?_getD, List.getElem?_eq_getElem h2]
    rfl
theorem getD_at {ys : List V} {i : Nat} (h : i < ys.length) : ys[i]? = some (ys.getD i .non) := by
  rw [List.getD_eq_getElem?_getD, List.getElem?_eq_getElem h]
  rfl
theorem el_mapL {tl : TE} {j : Nat} {vs : List Nat} (ys : List V) (h : Ev tl σ H (.ref a)) (hx : SqL K H a xs) (hl : ys.length = xs.length) (hz : xs.length ≤ 40000) (hw : ∀ x, wipe ((wipe σ vs).set j (some x)) vs = wipe σ vs)
    (he : ∀ (i : Nat) (x y : V) H1, Ex H H1 → xs[i]? = some x → ys[i]? = some y → Ev te ((wipe σ vs).set j (some x)) H1 y) : EvL (tLc (iList K tl) (gName j) tYes te vs) σ H ys := by
  have h0 := el_lcL (K := K) (te := te) (fun _ => true) (fun i => ys.getD i .non) h hx hz hw (fun _ _ _ _ _ => et_yes) (fun i x H1 e hi _ => he i x _ H1 e hi (getD_at (by rw [hl]; exact (List.getElem?_eq_some_iff.mp hi).1)))
  rw [← hl, given_list] at h0
  exact h0
theorem el_mapNL {tl : TE} {j : Nat} {vs : List Nat} (ys : List V) (h : EvL tl σ H xs) (hl : ys.length = xs.length) (hz : xs.length ≤ 40000) (hw : ∀ x, wipe ((wipe σ vs).set j (some x)) vs = wipe σ vs)
    (he : ∀ (i : Nat) (x y : V) H1, Ex H H1 → xs[i]? = some x → ys[i]? = some y → Ev te ((wipe σ vs).set j (some x)) H1 y) : EvL (tLc (iList K tl) (gName j) tYes te vs) σ H ys := by
  have h0 := el_lcNL (K := K) (te := te) (fun _ => true) (fun i => ys.getD i .non) h hz hw (fun _ _ _ _ _ => et_yes) (fun i x H1 e hi _ => he i x _ H1 e hi (getD_at (by rw [hl]; exact (List.getElem?_eq_some_iff.mp hi).1)))
  rw [← hl, given_list] at h0
  exact h0
theorem el_lcT {tl : TE} {j : Nat} {vs : List Nat} (f : Nat → Bool) (v : Nat → V) (h : Ev tl σ H (.ref a)) (hx : SqT K H a xs) (hz : xs.length ≤ 40000) (hw : ∀ x, wipe ((wipe σ vs).set j (some x)) vs = wipe σ vs)
    (ht : ∀ (i : Nat) (x : V) H1, Ex H H1 → xs[i]? = some x → EvT t ((wipe σ vs).set j (some x)) H1 (f i)) (he : ∀ (i : Nat) (x : V) H1, Ex H H1 → xs[i]? = some x → f i = true → Ev te ((wipe σ vs).set j (some x)) H1 (v i)) :
    EvL (tLc (iTup K tl) (gName j) t te vs) σ H (given xs.length f v) := fun H0 e Q q => h H0 e _ fun H1 e1 => ⟨a, rfl, ⟨xs, ex_t (e.trans e1) hx⟩, fun Dl hD =>
  lc_tup (xs := xs) (Cw H1 f v Dl) ⟨hD, Ex.new hD, upd_same⟩ (fun i H' _ p => ex_t ((e.trans e1).trans p.2.1) hx) (fun i x H' hi p => ⟨hw x, cw_turn p (by have := (List.getElem?_eq_some_iff.mp hi).1; omega) (ht i x H1 (e.trans e1) hi) (fun hf => he i x H1 (e.trans e1) hi hf)⟩)
    (fun H' p => q Dl H' (fresh_back e1 p.1) (e1.trans p.2.1) p.2.2)⟩
theorem el_mapT {tl : TE} {j : Nat} {vs : List Nat} (ys : List V) (h : Ev tl σ H (.ref a)) (hx : SqT K H a xs) (hl : ys.length = xs.length) (hz : xs.length ≤ 40000) (hw : ∀ x, wipe ((wipe σ vs).set j (some x)) vs = wipe σ vs)
    (he : ∀ (i : Nat) (x y : V) H1, Ex H H1 → xs[i]? = some x → ys[i]? = some y → Ev te ((wipe σ vs).set j (some x)) H1 y) : EvL (tLc (iTup K tl) (gName j) tYes te vs) σ H ys := by
  have h0 := el_lcT (K := K) (te := te) (fun _ => true) (fun i => ys.getD i .non) h hx hz hw (fun _ _ _ _ _ => et_yes) (fun i x H1 e hi _ => he i x _ H1 e hi (getD_at (by rw [hl]; exact (List.getElem?_eq_some_iff.mp hi).1)))
  rw [← hl, given_list] at h0
  exact h0
/-! ### while by a word and a number that falls; two names stored at once; a pair taken apart -/
theorem s_whl (W : Nat → L2.St → Hp → Prop) (m0 : Nat) (h0 : W m0 σ H)
    (hs : ∀ m σ' H', W m σ' H' → ∃ b, EvT t σ' H' b ∧ (b = true → ∀ H1, Ex H' H1 → tu { D with nx := fun σ2 H2 => ∃ m', m' < m ∧ W m' σ2 H2, ct := fun σ2 H2 => ∃ m', m' < m ∧ W m' σ2 H2, bk := D.nx } σ' H1) ∧ (b = false → ∀ H1, Ex H' H1 → D.nx σ' H1)) : tWhile t tu D σ H :=
  s_while W m0 h0 fun m σ' H' hw => by
    obtain ⟨b, hb, h1, h2⟩ := hs m σ' H' hw
    exact ⟨b, hb, fun e H1 e1 => ⟨_, fun _ _ h => h, h1 e H1 e1⟩, h2⟩
theorem q_whl (W : Nat → L2.St → Hp → Prop) (m0 : Nat) (h0 : W m0 σ H)
    (hs : ∀ m σ' H', W m σ' H' → ∃ b, EvT t σ' H' b ∧ (b = true → ∀ H1, Ex H' H1 → tu { D with nx := fun σ2 H2 => ∃ m', m' < m ∧ W m' σ2 H2, ct := fun σ2 H2 => ∃ m', m' < m ∧ W m' σ2 H2, bk := tz D } σ' H1) ∧ (b = false → ∀ H1, Ex H' H1 → tz D σ' H1)) : tSeq (tWhile t tu) tz D σ H :=
  s_whl (D := { D with nx := tz D }) W m0 h0 hs
theorem s_par {i j : Nat} {w : V} (ha : Ev ta σ H v) (hb : Ev tb σ H w) (k : ∀ H1, Ex H H1 → D.nx ((σ.set i (some v)).set j (some w)) H1) : tPar i j (tCons ta (tCons tb tNil)) D σ H :=
  ha H (Ex.refl H) _ fun H1 e1 => hb H1 e1 _ fun H2 e2 => ⟨v, w, rfl, k H2 (e1.trans e2)⟩
theorem q_par {i j : Nat} {w : V} (ha : Ev ta σ H v) (hb : Ev tb σ H w) (k : ∀ H1, Ex H H1 → tz D ((σ.set i (some v)).set j (some w)) H1) : tSeq (tPar i j (tCons ta (tCons tb tNil))) tz D σ H :=
  s_par (D := { D with nx := tz D }) ha hb k
theorem g_tup2 {i j : Nat} {w : V} {p : Addr} {Q : L2.St → Hp → Prop} (h : SqT K H p [v, w]) (q : Q ((σ.set i (some v)).set j (some w)) H) : gTup K 2 (gCons (gName i) (gCons (gName j) gNil)) (.ref p) σ H Q :=
  ⟨p, [v, w], rfl, h, rfl, v, [w], rfl, w, [], rfl, rfl, q⟩
/-- a, b = e, e a tuple that is read, or a new one -/
theorem q_tup2 {i j : Nat} {w : V} {p : Addr} (h : Ev te σ H (.ref p)) (hp : SqT K H p [v, w]) (k : ∀ H1, Ex H H1 → tz D ((σ.set i (some v)).set j (some w)) H1) : tSeq (tAsg te (gTup K 2 (gCons (gName i) (gCons (gName j) gNil)))) tz D σ H :=
  h H (Ex.refl H) _ fun H1 e => g_tup2 (ex_t e hp) (k H1 e)
theorem q_tup2N {i j : Nat} {w : V} (h : EvU te σ H [v, w]) (k : ∀ H1, Ex H H1 → tz D ((σ.set i (some v)).set j (some w)) H1) : tSeq (tAsg te (gTup K 2 (gCons (gName i) (gCons (gName j) gNil)))) tz D σ H :=
  h H (Ex.refl H) _ fun p H1 _ e h1 => g_tup2 (st_of h1) (k H1 e)
def RetU (xs : List V) (H : Hp) (Q : VK) : Prop := ∀ p H2, H p = none → Ex H H2 → H2 p = some (.tup xs) → Q (.ref p) H2
theorem RetU.go {Q : VK} (k : RetU xs H Q) (e : Ex H H') {p : Addr} {H2 : Hp} (hp : H' p = none) (e2 : Ex H' H2) (h : H2 p = some (.tup xs)) : Q (.ref p) H2 := k p H2 (fresh_back e hp) (e.trans e2) h
end
theorem small_nn {n : Nat} (h : n ≤ 100000) : n ≤ sizeLine := sz_of h
/-- a list that was new is changed: what was known ahead stays; tuples stay -/
theorem sqT_mut {K : PySem.W.Frag} {H : Hp} {l t : Addr} {xs ys : List V} {o : HO} (hl : H l = some (.lst xs)) (h : SqT K H t ys) : SqT K (upd H l o) t ys := by
  rcases h with (h | ⟨u, h⟩) | h
  · exact .inl (.inl (by rw [upd_ne (ne_of h hl (by intro z; cases z))]; exact h))
  · exact .inl (.inr ⟨u, by rw [upd_ne (ne_of h hl (by intro z; cases z))]; exact h⟩)
  · exact .inr h
theorem nat_of {z : Int} (h : 0 ≤ z) : ∃ n : Nat, z = (n : Int) := Int.eq_ofNat_of_zero_le h
end Sv

set_option Elab.async false
set_option linter.all false
set_option maxRecDepth 100000
set_option maxHeartbeats 4000000
/-! SvHot: what a def does that is called while an exception is handled: the end of a list's walk, sum, [int(x) for x in ..], isinstance of that exception. -/
namespace Sv
open PySem PySem.Spec PyProof.Rows L2 Evl HotX L2H
section
variable {prog : Program} {w : World} {A : Around} {E : Value → Shared → Prop} {s : Shared}
theorem next_end_hot {it l x1 : Addr} {i : Nat} {items : Array Value} {Q : Option Value → Shared → Prop} (hot : HotAt A x1 s.heap) (hne : x1 ≠ it) (hit : s.heap.IsListIter it l i) (hl : s.heap.IsList l items) (hx : items[i]? = none)
    (hQ : ∀ h', Heap.ExtBut it s.heap h' → Q none { s with heap := h' }) : wpAny (model prog w) A (pyNext (.ref it)) Q E s := by
  obtain ⟨o, ho, hc, hd⟩ := id hit
  obtain ⟨ol, hol, _, nl, hdl⟩ := hl
  obtain ⟨hh, o1, vs1, k1, d1, c1⟩ := hot
  unfold pyNext
  refine wpAny_bind (wpAny_attempt (wpAny_callSpecial?_slot (name := Str.ofString "__next__") hit.typeIs slot_listiter_next
    (wpAny_call_entry slot_listiter_next hit.typeIs entry_listiter_next ?g0 (args_listiter_next _))))
  show wpAny _ _ (field (.ref it) 0 >>= _) _ _ s
  refine wpAny_bind (wpAny_field ho hd (x := .ref l) rfl ?g1)
  show wpAny _ _ (if (Value.ref l == Value.none) = true then _ else _) _ _ s
  rw [if_neg (show ¬ ((Value.ref l == Value.none) = true) from Bool.false_ne_true)]
  show wpAny _ _ (field (.ref it) 1 >>= _) _ _ s
  refine wpAny_bind (wpAny_field ho hd (x := .int i 0) rfl ?g2)
  show wpAny _ _ (seqItems? (.ref l) >>= _) _ _ s
  refine wpAny_bind (wpAny_seqItems hol hdl ?g3)
  simp only [Int.toNat_natCast, hx]
  refine wpAny_bind (wpAny_rule (wpAny_bind (wpAny_setField ho hd (by simp) ?g4)))
  show wpAny _ _ (newExc (.type "StopIteration") [] >>= _) _ _ _
  refine wpAny_bind ?g5
  simp only [newExc, newTuple]
  refine wpAny_bind (wpAny_newObj_type ?g6 (by size_fits))
  refine wpAny_bind (m := firstArgMember _ _) (wpAny_of_eq (a := Value.none) (by first | rfl | (simp only [firstArgMember]; rfl)) ?g7)
  refine wpAny_newObj_type ?g8 (by size_fits)
  refine raiseNew_hot ⟨hh, o1, vs1, Heap.get?_push_of_some _ (Heap.get?_push_of_some _ ((Heap.SameBut.update ..).extBut _ _ hne k1)), d1, c1⟩ (Nat.ne_of_lt (Heap.lt_size (Heap.get?_push_of_some _ ((Heap.SameBut.update ..).extBut _ _ hne k1)))) (Heap.get?_push_size _ rfl) rfl (by first | (simp; done) | (simp; omega)) ?g9
  refine wpAny_bind (wpAny_isInstance (T := "StopIteration") (b := true) ⟨_, Heap.get?_update_self _ (Heap.get?_push_size _ rfl) rfl, rfl⟩ isSubtype_stop ?g10)
  refine wpAny_pure (hQ _ fun b ob hb e => ?g11)
  have e1 := Heap.get?_push_of_some { cls := .type "tuple", data := .seq #[] } ((Heap.SameBut.update (h := s.heap) (a := it) (f := Obj.mapFields (·.setIfInBounds 0 Value.none))).extBut b ob hb e)
  rw [Heap.get?_update_other _ _ (Nat.ne_of_gt (Heap.lt_size e1))]
  exact Heap.get?_push_of_some _ e1
theorem walks_hot {I ax x1 : Addr} {oe : Obj} {vs : Array Value} (hh : A.handled = some (.ref x1)) (d1 : oe.data = .fields vs) (c1 : vs[2]? = some .none) (hne : ax ≠ I) (hn1 : x1 ≠ I) (items : Array Value) :
    Walks prog w A I [I, ax, x1] [I] items.size (fun i v => items[i]? = some v) (fun i h => h.IsListIter I ax i ∧ h.IsList ax items ∧ h.get? x1 = some oe) where
  sub := fun b hb => by
    rw [List.mem_singleton.mp hb]
    exact List.mem_cons_self
  frame := fun i h h' st hk => ⟨st.1.at fun o e => hk I (by simp) o e, st.2.1.at fun o e => hk ax (by simp) o e, hk x1 (by simp) _ st.2.2⟩
  item := fun i s Q E hi st hQ => by
    refine wpAny_pyNext_list_item st.1 st.2.1 (x := items[i]) (by simp [hi]) fun h' hit' hs' => ?_
    refine hQ _ h' s.toks (by simp [hi]) ⟨hit', st.2.1.extBut hs'.extBut hne, hs'.extBut _ _ hn1 st.2.2⟩ fun b o hb e => ?_
    exact hs'.extBut b o (fun z => hb (by rw [z]; exact List.mem_cons_self)) e
  done := fun s Q E st hQ => next_end_hot ⟨hh, oe, vs, st.2.2, d1, c1⟩ hn1 st.1 st.2.1 (by simp) fun h' he' => hQ h' s.toks fun b o hb e => he' b o (fun z => hb (by rw [z]; exact List.mem_cons_self)) e
  self := fun _ _ _ _ st hQ => wpAny_pyIter_listiter st.1 hQ
theorem goes_hot {target : Expr} {I ax x1 : Addr} {oe : Obj} {vs : Array Value} (hh : A.handled = some (.ref x1)) (d1 : oe.data = .fields vs) (c1 : vs[2]? = some .none) (hne : ax ≠ I) (hn1 : x1 ≠ I) (items : Array Value) :
    Goes prog w A target I [I, ax, x1] [I] items.size (fun i v _ => items[i]? = some v) (fun i h => h.IsListIter I ax i ∧ h.IsList ax items ∧ h.get? x1 = some oe) :=
  Goes.ofWalks (walks_hot hh d1 c1 hne hn1 items) fun i v s Q E (st : s.heap.IsListIter I ax i ∧ s.heap.IsList ax items ∧ s.heap.get? x1 = some oe) q => by
    obtain ⟨o, ho, hc, hd⟩ := st.1
    exact letGo_of_cls ho hc hd (by decide) q
/-- sum of a list of ints, an exception handled -/
theorem sum_hot {l x1 : Addr} {xs : Array (Int × Tok)} {oe : Obj} {vs : Array Value} {Q : Value → Shared → Prop} (hh : A.handled = some (.ref x1)) (h1 : s.heap.get? x1 = some oe) (d1 : oe.data = .fields vs) (c1 : vs[2]? = some .none) (hl : s.heap.IsList l (intItems xs))
    (h : ∀ h' tk t', (∀ b o, s.heap.get? b = some o → h'.get? b = some o) → Q (.int (preSum (numAt xs) xs.size) t') { s with heap := h', toks := tk }) : wpAny (model prog w) A (call (.builtin "sum") [.ref l]) Q E s := by
  refine call_sum_walkG (iter_intList hl fun s₂ e st hfp hlI => ?_)
  subst e
  have hx1 := Heap.lt_size h1
  have k1 := Heap.get?_push_of_some { cls := .type "list_iterator", data := .fields #[.ref l, .int 0 0] } h1
  refine ⟨_, _, _, _, _, _, numAt xs, rfl, walks_hot (A := A.in1) (oe := oe) hh d1 c1 hlI (Nat.ne_of_lt hx1) (intItems xs), ⟨st.1, st.2, k1⟩, fun b hb => ?_, (fun _ _ => intItems_at), fun h' tk t' hk => ?_⟩
  · rcases List.mem_cons.mp hb with z | z
    · exact hfp b (by rw [z]; exact List.mem_cons_self)
    · rcases List.mem_cons.mp z with z | z
      · exact hfp b (by rw [z]; exact List.mem_cons_of_mem _ List.mem_cons_self)
      · rw [List.mem_singleton.mp z]
        exact Heap.lt_size k1
  · have := h h' tk t' (old_kept hk)
    simpa [intItems] using this
end
section
variable {X : Cx}
theorem hotGet {pins : List (Addr × Obj)} {σ : L2.St} {H : Hp} {s : Shared} (c : HotC X) (I : L2.Inv X pins σ H s) : ∃ (x1 : Addr) (oe : Obj) (vs : Array Value), X.A.handled = some (.ref x1) ∧ s.heap.get? x1 = some oe ∧ oe.data = .fields vs ∧ vs[2]? = some .none := by
  obtain ⟨x1, hh, oe, vs, h1, d1, c1⟩ := c.at I
  exact ⟨x1, oe, vs, hh, h1, d1, c1⟩
theorem cr_sumH (hc : HotC X) : CallR X (.builtin "sum") (rSum X.K) := by
  intro pins s σ H vs us Q I r h
  obtain ⟨a, ns, rfl, hs, q⟩ := h
  obtain ⟨its, rv, hl, _⟩ := I.list hs
  obtain ⟨x1, oe, ws, hh, h1, d1, c1⟩ := hotGet hc I
  rw [Vals.ref1 r]
  obtain ⟨xs, e⟩ := rv.ints.allInts.items
  have hn : numsOf (intItems xs).toList = ns := by
    rw [← e]
    exact rv.ints.numsOf
  rw [nums_intItems] at hn
  have hl' := hl.isList
  rw [e] at hl'
  refine sum_hot hh h1 d1 c1 hl' fun h' tk t' hk => ?_
  rw [preSum_eq, List.take_of_length_le (by simp), hn]
  exact ⟨.int _, H, I.kept hk, ⟨_, rfl⟩, q⟩
/-- isinstance(e, c), e the exception that is handled -/
theorem call_isP {a C : Addr} {oe : Obj} (hp : (a, oe) ∈ X.pn) (T : ExcC X.K C) (hz : Zc (.ref C) none oe) (hf : ∃ vs, oe.data = .fields vs) : CallR X (.builtin "isinstance") (rIsE X.K C a) := by
  intro pins s σ H xs us Q I r h
  obtain ⟨c, cv, b, rfl, hcv, e, q⟩ := h
  obtain ⟨u1, u2, rfl, r1, r2⟩ := Vals.two r
  cases r1
  rw [hcv _ r2]
  have hget := (I.pin (a, oe) (List.mem_append_left _ hp)).1
  obtain ⟨vs, hv⟩ := hf
  have J : PySem.W.InstAt s.heap a oe C none := by
    obtain ⟨oc, od, oda, osl⟩ := oe
    obtain ⟨z1, z2⟩ := hz
    dsimp only at z1 z2 hv
    subst z1 z2 hv
    exact ⟨hget, rfl, rfl, trivial⟩
  exact PySem.W.kia_one (PySem.W.handS_kitx_exc T.hg T.hk T.hs T.hd T.ha T.hn T.ht T.hm) I.kIn J e (fun z => nomatch z) fun tk => ⟨.bl b, H, I.kept (t' := tk) fun _ _ z => z, rfl, q⟩
/-- [int(v) for v in ..] over truth values -/
def tIntsH (K : PySem.W.Frag) (te : TE) : TE := fun σ H Q => te σ H fun x H1 => ∃ (a : Addr) (bs : List Bool), x = .ref a ∧ SqL K H1 a (bs.map V.bl) ∧ ∀ D, H1 D = none → Q (.ref D) (upd H1 D (.lst (bs.map fun b => .int (if b then 1 else 0))))
theorem arith1 {b N C D : Nat} (hb : b < N ∨ b = C) (hC : N + 1 ≤ C) (hD : N + 1 ≤ D) (h : D ≠ C) : ¬ (b = D ∨ b = N) := by omega
theorem arith2 {b N C : Nat} (hb : b < N + 1) (hC : N + 1 ≤ C) : b ≠ C := by omega
theorem pe_intsH {v : Str} {iter : Expr} {te : TE} {scope : Scope} {p1 p2 p3 p4 pos : Pos} (hc : HotC X) (hi : PE X iter te) (hclos : closureFor scope X.env = pure []) (hcell : ∀ y ∈ scope.names, y.2 ≠ .cell) (hkind : scope.kind = .function)
    (hnames : ∀ y ∈ scope.names, y.2 = .local → scope.names.lookup y.1 = some .local) (hv : scope.names.lookup v = some .local) (hint : ∀ C, (compEnvC scope [] C X.env).kindOf ("int" : Str) = some .globalImplicit) (hm : X.mg "int" = none) (hdv : (v == ("__debug__" : Str)) = false)
    (hs : ∀ x, foldedSetIterable iter X.env x = pure x := by intro _; rfl) : PE X (.ListComp (.Call (.Name "int" p1) [.Name v p2] [] p3) [⟨.Name v p4, iter, [], 0⟩] scope pos) (tIntsH X.K te) := by
  refine ⟨fun pins s σ H Q I h => ?_⟩
  refine ListComp_goes hclos hcell hkind hnames (thn (hi.run pins s σ H _ I h) fun u s1 ⟨x, H1, I1, r1, a, bs, ex, hS, q⟩ => ?_) hs
  subst ex
  cases r1
  obtain ⟨its, rv, hl, hz⟩ := I1.list hS
  obtain ⟨x1, oe, vs1, hh, h1, d1, c1⟩ := hotGet hc I1
  have ei : its = bs.map Value.bool := Vals.bls rv
  have hlt : a < s1.heap.objs.size := by
    obtain ⟨o, ho, _⟩ := hl.isList
    exact Heap.lt_size ho
  have hx1 := Heap.lt_size h1
  have hsz := rv.length
  refine wpAny_pyIter_list hl.isList ?_
  refine ⟨_, _, _, _, _, _, rfl, goes_hot hh d1 c1 (Nat.ne_of_lt hlt) (Nat.ne_of_lt hx1) its.toArray, by rw [List.size_toArray]; omega, ⟨⟨_, Heap.get?_push_size _ rfl, rfl, rfl⟩, hl.isList.push _, Heap.get?_push_of_some _ h1⟩, fun b hb => ?_, fun D C s₃ hB => ?_⟩
  · show b < (s1.heap.push _).objs.size
    rw [Heap.size_push]
    have hb : b = s1.heap.objs.size ∨ b = a ∨ b = x1 := by simpa using hb
    rcases hb with z | z | z
    · rw [z]
      exact Nat.lt_succ_self _
    · rw [z]
      exact Nat.lt_succ_of_lt hlt
    · rw [z]
      exact Nat.lt_succ_of_lt hx1
  obtain ⟨⟨h₃, tk₃, rfl⟩, old, nD, nC, hDC, hnm⟩ := hB
  have nC' : (s1.heap.objs.size + 1 : Nat) ≤ C := by
    have q : (s1.heap.push { cls := .type "list_iterator", data := .fields #[.ref a, .int 0 0] }).objs.size ≤ C := nC
    rw [Heap.size_push] at q
    exact q
  have nD' : (s1.heap.objs.size + 1 : Nat) ≤ D := by
    have q : (s1.heap.push { cls := .type "list_iterator", data := .fields #[.ref a, .int 0 0] }).objs.size ≤ D := nD
    rw [Heap.size_push] at q
    exact q
  have hDC' : (D : Nat) ≠ C := hDC
  have kv : (compEnvC scope [] C X.env).kindOf v = some .local := lookup_relabel_local hv
  have hp : ((compEnvC scope [] C X.env).scope.kind == .class || ((compEnvC scope [] C X.env).scope.kind == .module && (compEnvC scope [] C X.env).locals != (compEnvC scope [] C X.env).globals)) = false := by
    show (scope.kind == .class || (scope.kind == .module && _)) = false
    rw [hkind]
    rfl
  refine ⟨fun i ys s2 => ∃ h' tk m, s2 = { s1 with heap := h', toks := tk } ∧ h'.Ns C m ∧ Vals ((bs.take i).map fun b => V.int (if b then 1 else 0)) ys ∧ ∀ b o, s1.heap.get? b = some o → h'.get? b = some o,
    ⟨h₃, tk₃, _, rfl, hnm, .nil, fun b o e => old b o (Heap.get?_push_of_some _ e)⟩, ?_, ?_, ?_⟩
  · rintro i ys s2 h' tk ⟨h₄, tk₄, m, rfl, n₄, e₄, k₄⟩ hk' _
    have off : ∀ b : Addr, (b < s1.heap.objs.size ∨ b = C) → b ∉ D :: [s1.heap.objs.size] := fun b hb hm => arith1 hb nC' nD' hDC' (by simpa using hm)
    exact ⟨h', tk, m, rfl, n₄.at' fun o e => hk' _ o (off _ (.inr rfl)) e, e₄, fun b o e => hk' b o (off _ (.inl (Heap.lt_size e))) (k₄ b o e)⟩
  · rintro i u ys s2 hi2 hu st ⟨h₄, tk₄, m, rfl, n₄, e₄, k₄⟩ hpl
    have hub : ∃ b, bs[i]? = some b ∧ u = Value.bool b := by
      have hu2 : its[i]? = some u := by simpa using hu
      rw [ei, List.getElem?_map] at hu2
      cases hb : bs[i]? with
      | none =>
        rw [hb] at hu2
        cases hu2
      | some b =>
        rw [hb] at hu2
        exact ⟨b, rfl, (Option.some.inj hu2).symm⟩
    obtain ⟨b, hb, rfl⟩ := hub
    refine wpAny_assign_Name (wpAny_storeName_local kv n₄ (fun h₅ n₅ s₅ => ?_) hp)
    refine wpAny_tests_nil ?_
    have offC : ∀ b : Addr, b < s1.heap.objs.size + 1 → b ≠ C := fun b hb => arith2 hb nC'
    have keep : ∀ b o, s1.heap.get? b = some o → h₅.get? b = some o := fun b o e => s₅.extBut b o (offC b (Nat.lt_succ_of_lt (Heap.lt_size e))) (k₄ b o e)
    have kb : ∀ b o, X.base.get? b = some o → h₅.get? b = some o := fun b o e => keep b o (I1.bk b o e)
    obtain ⟨mb, b1, b2⟩ := I1.mod.blt
    refine wpAny_Call_Name_kw (Calls.Name_function_global hkind (hint C) (Calls.loadGlobal_builtin (mg := X.mg) (mb := mb) (v := .type "int") ?_ hm ?_ ((b2 _ (by decide)).trans (by decide +kernel)) ?_))
    · show h₅.Ns X.env.globals X.mg
      rw [I1.ok.glob]
      exact I1.mod.glob.keeps kb
    · show h₅.Ns X.env.builtins mb
      rw [I1.ok.blt]
      exact b1.keeps kb
    refine PyProof.Rows.callWith_type1 ?_ (by rfl) (by rfl)
    show wpAny _ _ (spliced ((false, eval (.Name v p2) (compEnvC scope [] C X.env)) :: backTo p3 (starEach [] (compEnvC scope [] C X.env)))) _ _ _
    refine Calls.spliced_cons ?_
    rw [eval_Name _ _ _ hdv]
    refine wpAny_bind (wpAny_standAt (wpAny_loadName_local hkind kv n₅ (v := .bool b) (if_pos rfl) ?_))
    refine Calls.spliced_nil ?_
    refine call_int_bool ⟨⟨h₅, _, _, rfl, n₅, ?_, keep⟩, ⟨st.1.at fun o e => s₅.extBut _ o (offC _ (Nat.lt_succ_self _)) e, st.2.1.at fun o e => s₅.extBut _ o (offC _ (Nat.lt_succ_of_lt hlt)) e, s₅.extBut _ _ (offC _ (Nat.lt_succ_of_lt hx1)) st.2.2⟩, hpl.at fun o e => s₅.extBut _ o hDC e⟩
    rw [List.take_add_one, hb, List.map_append]
    exact e₄.append (.cons ⟨_, rfl⟩ .nil)
  · rintro ys s2 ⟨h₄, tk₄, m, rfl, n₄, e₄, k₄⟩ hpl
    refine ⟨m, n₄, fun h' hs' => ?_⟩
    have keep : ∀ b o, s1.heap.get? b = some o → h'.get? b = some o := fun b o e => hs'.extBut b o (arith2 (Nat.lt_succ_of_lt (Heap.lt_size e)) nC') (k₄ b o e)
    have hD0 : s1.heap.objs.size ≤ D := Nat.le_trans (Nat.le_succ _) nD'
    have e5 : (bs.take its.toArray.size) = bs := List.take_of_length_le (by rw [ei]; simp)
    rw [e5] at e₄
    obtain ⟨n, hn⟩ := hpl.extBut hs'.extBut hDC
    refine ⟨.ref D, _, I1.laid (t' := tk₄) (o := .lst (bs.map fun b => V.int (if b then 1 else 0))) keep hD0 ⟨?_, ys, n, e₄, hn⟩, rfl, q D (I1.hok.fresh hD0)⟩
    rw [List.length_map] at hz ⊢
    exact hz
end
end Sv

set_option Elab.async false
set_option linter.all false
set_option maxRecDepth 100000
set_option maxHeartbeats 4000000
/-! SvWord: a def that is called in an except suite with the exception itself (_law_word); try: return deed() / except X as e: return word(e), where deed is a lambda of the caller's (_law_told). -/
namespace Sv
open PySem PySem.Spec PyProof.Rows L2 Evl HotX L2H LamX
/-- the body of a def, entered while p's exception is handled -/
theorem hot_body {CT : CXT} {P : Program} {w : World} {K : PySem.W.Frag} {mg : Str → Option Value} {base : Heap} {j : Nat} {g : Addr} {x : Str} {prs : Arguments} {sts : List Stmt} {sco : Scope} {v1 v2 v3 v4 v5 v6 v7 : Value} {a1 a2 : Option Addr}
    {slo : Array (Option Value)} {N ps : List Str} (look : K.lookup g = some ⟨v7, a1, .func (PySem.W.fnOf x x prs sts sco v1 v2 v3 v4 a2 v5 v6), slo⟩) (code : PySem.W.codeIn K v5 x = true) (F : FnScope N ps sco)
    {A : Around} {outer : List Env} {s : Shared} {H : Hp} {args : Args} {us : List Value} {vs : List V} {Q : VK} {E : XK} {p : Addr × Obj} (room : RoomH (j + 1) A) (pin : PinOk outer H s p) (env0 : Env0 P w K mg base A outer s H)
    (bind : BindsTo s (PySem.W.fnOf x x prs sts sco v1 v2 v3 v4 a2 v5 v6) args (ps.zip us)) (rel : Vals vs us) (many : vs.length = ps.length)
    (bd : RoomH j (A.deeper (envOfC x sco s.heap.objs.size g v5)) → ∃ t, PSs (cxH CT P w K mg base N x sco g v5 A outer s H E p) sts t ∧ t (dn Q) (L2.start N vs) H) :
    codeAny (model P w) A (.call (.ref g) args) (CR CT outer P w H s Q E) s := by
  have inK : K.In s.heap := env0.mod.kin.keeps fun b o z => (env0.bs b o z).1
  have noL : s.heap.NoLimit := env0.mod.nolimit.keeps fun b o z => (env0.bs b o z).1
  have kinds : ∀ y ∈ ps.zip us, sco.names.lookup y.1 = some .local ∨ (sco.names.lookup y.1 = some .cell ∧ ((cellsFrom (s.heap.objs.size + 1) sco.names []).lookup y.1).isSome = true) := fun ⟨n, v⟩ hy =>
    (F.par n (List.of_mem_zip hy).1).elim .inl fun q => .inr ⟨q, PySem.W.cellsFrom_some _ _ _ (.inl q)⟩
  refine codeAny_call_function room.depth (inK _ _ look) rfl F.co F.gen rfl (PySem.W.codeRec_of inK code) (bind _ _ _ _ ?_)
  refine wpAny_newFunctionEnv_cells F.kind kinds fun env ee s1 ic => ?_
  subst ee
  refine ⟨noL.keeps ic.toInCall.keep, codeAny_func ?_⟩
  obtain ⟨t, hd, ht⟩ := bd (room.deeper _)
  have J0 : L2.Inv (cxH CT P w K mg base N x sco g v5 A outer s H E p) [] (L2.start N vs) H s1 := inv_startH F pin env0 many rel ic
  refine wpAny_mono (hd.run [] s1 (L2.start N vs) H _ J0 ht) (fun fl s2 q => ?_) fun _ _ q => q
  cases fl with
  | ret u =>
    obtain ⟨v, σ', H', J, rv, z⟩ := q
    exact ⟨v, H', J.os, J.bare, J.base, J.hok, rv, z⟩
  | next =>
    obtain ⟨σ', H', J, z⟩ := q
    exact ⟨.non, H', J.os, J.bare, J.base, J.hok, rfl, z⟩
  | brk =>
    obtain ⟨_, _, _, z⟩ := q
    exact z.elim
  | cont =>
    obtain ⟨_, _, _, z⟩ := q
    exact z.elim
/-- word(e), e the exception that is handled, of the class at C: the text nm where W C nm -/
structure WordOk (P : Program) (w : World) (K : PySem.W.Frag) (mg : Str → Option Value) (base : Heap) (j : Nat) (x a : Str) (W : Addr → Str → Prop) : Prop where
  ex : ∃ (g : Addr) (fd : FuncData), mg x = some (.ref g) ∧ PySem.W.keepIn K (.ref g) = true ∧ Binds K fd [a] [] ∧
    ∀ (A : Around) (outer : List Env) (s : Shared) (H : Hp) (args : Args) (Q : VK) (p : Addr × Obj) (C : Addr) (nm : Str), RoomH j A → Hot1 A p → PinOk outer H s p → Env0 P w K mg base A outer s H → BindsTo s fd args (([a] : List Str).zip [.ref p.1]) →
      Zc (.ref C) none p.2 → W C nm → (∀ H', Ex H H' → Q (.str nm) H') → codeAny (model P w) A (.call (.ref g) args) (CR (CXN P w) outer P w H s Q E0) s
theorem mk_word {P : Program} {w : World} {K : PySem.W.Frag} {mg : Str → Option Value} {base : Heap} {j : Nat} {x a : Str} {st : Stmt} {N : List Str} {W : Addr → Str → Prop} (D : DefAt K mg x st) (F : FnScope N [a] (defScope st))
    (hb : ∀ (kV doc pm : Value) (an : Option Addr) (cdv ct : Value) (us : List Value), us.length = 1 → bindArgs (PySem.W.fnOf x x (defArgs st) (defBody st) (defScope st) .none kV doc pm an cdv ct) ⟨us, []⟩ = pure (([a] : List Str).zip us))
    (t : Addr → Addr → TS) (hp : ∀ (e C : Addr) (nm : Str) (H : Hp) (Q : VK), W C nm → (∀ H', Ex H H' → Q (.str nm) H') → t e C (dn Q) (L2.start N [.ref e]) H)
    (hd : ∀ (g : Addr) (cdv : Value) (A : Around) (outer : List Env) (s : Shared) (H : Hp) (p : Addr × Obj) (C : Addr), (∃ nm, W C nm) → Hot1 A p → RoomH j (A.deeper (envOfC x (defScope st) s.heap.objs.size g cdv)) → Zc (.ref C) none p.2 →
      PSs (cxH (CXN P w) P w K mg base N x (defScope st) g cdv A outer s H E0 p) (defBody st) (t p.1 C)) : WordOk P w K mg base (j + 1) x a W := by
  obtain ⟨g, fd, Fn, hm⟩ := D.ex
  obtain ⟨oc, od, kV, doc, pm, an, cdv, ct, osl, rfl, lk, hcd⟩ := Fn.ex
  refine ⟨g, _, hm, Fn.kp, Fn.binds hb, fun A outer s H args Q p C nm room hot pin env0 bind z hw q => ?_⟩
  exact hot_body lk hcd F (vs := [.ref p.1]) (us := [.ref p.1]) room pin env0 bind (.cons rfl .nil) rfl fun rm => ⟨_, hd g cdv A outer s H p C ⟨nm, hw⟩ hot rm z, hp p.1 C nm H Q hw q⟩
section
variable {X : Cx}
/-- a call of such a def in the suite that holds the exception in slot i -/
def tWord (W : Addr → Str → Prop) (a C : Addr) (i : Nat) : TE := fun σ H Q => σ[i]? = some (some (.ref a)) ∧ ∃ nm, W C nm ∧ ∀ H', Ex H H' → Q (.str nm) H'
theorem pe_word {j k i : Nat} {x b y : Str} {W : Addr → Str → Prop} {C : Addr} {pp : Addr × Obj} {p1 p2 pos : Pos} (F : WordOk X.prog X.w X.K X.mg X.base j x b W) (hot : Hot1 X.A pp) (hpn : pp ∈ X.pn) (hr : RoomH k X.A) (hk : j ≤ k) (hz : Zc (.ref C) none pp.2)
    (hg : Gl X x) (hv : PE X (.Name y p2) (tVar i)) (hdb : (x == ("__debug__" : Str)) = false := by decide) :
    PE X (.Call (.Name x p1) [.Name y p2] [] pos) (tWord W pp.1 C i) := by
  obtain ⟨g, fd, hm, hkp, hb, run⟩ := F.ex
  refine ⟨fun pins s σ H Q I h => ?_⟩
  obtain ⟨hs, nm, hw, q⟩ := h
  refine wpAny_Call_Name_kw (ld_glob I hg hm ?_ hdb)
  refine PySem.W.callWith_K (h₀ := X.base) I.ok.mod.kin hkp ?_ (by rfl) (by rfl)
  have ha : PA X [.Name y p2] (tCons (tVar i) tNil) := pa_cons hv pa_nil
  refine thn (ha.run pos pins s σ H (fun vs H1 => vs = [.ref pp.1] ∧ H1 = H) I ⟨_, hs, rfl, rfl⟩) fun us s1 ⟨vs, H1, I1, r1, e1, e2⟩ => ⟨I1.kIn, ?_⟩
  subst e1
  subst e2
  obtain ⟨u, rfl, r2⟩ := Vals.one r1
  cases r2
  have P1 := I1.pin pp (List.mem_append_left _ hpn)
  have pin : PinOk X.stack H1 s1 pp := ⟨P1.1, P1.2.1, fun hm => (List.mem_cons.mp (I1.stkSub pp.1 hm)).elim P1.2.2.1 P1.2.2.2.1, P1.2.2.2.2⟩
  refine wpAny_call (codeAny_mono (run X.A X.stack s1 H1 ⟨[.ref pp.1], []⟩ Q pp C nm (hr.mono hk) hot pin I1.env0 (hb s1 [.ref pp.1] I1.kIn rfl) hz hw q) fun r s2 z => ?_)
  cases r with
  | error e => exact psn pins σ H1 s1 e s2 I1 z
  | ok fl =>
    cases fl with
    | ret u => exact I1.after z
    | next => exact False.elim z
    | brk => exact False.elim z
    | cont => exact False.elim z
end
end Sv

set_option Elab.async false
set_option linter.all false
set_option maxRecDepth 100000
set_option maxHeartbeats 4000000
/-! SvTold: told(lambda: body), where told is: try: return deed() / except S as e: return word(e). -/
namespace Sv
open PySem PySem.Spec PyProof.Rows L2 Evl HotX L2H LamX
/-- the context of the lambda's body, what it raises told with its context -/
abbrev lamN (X : Cx) (A : Around) (outer : List Env) (s : Shared) (H : Hp) (E : XK) (scope : Scope) (f c' : Addr) : Cx :=
  (lamCx X A outer s H E scope f c').wish fun e s' => wpAny (model X.prog X.w) (A.deeper (lamEnv X scope s.heap.objs.size f c')) (leaving (lamEnv X scope s.heap.objs.size f c') e) (fun _ s2 => L2N.CX X.prog X.w outer H s E e s2) (fun e' s2 => L2N.CX X.prog X.w outer H s E e' s2) s'
theorem takesN0 {X : Cx} : L2N.Takes X (fun _ _ _ _ => False) := fun _ _ x => by
  obtain ⟨_, _, _, _, _, _, _, _, _, _, _, _, _, _, _, _, z⟩ := x
  exact z.elim
section
variable {X : Cx} {pins : List (Addr × Obj)} {σ : L2.St} {H : Hp} {s : Shared}
/-- deed(), in the body of told -/
theorem actN {E0' : XK} {Nz : List Str} {qz : Str} {sz : Scope} {z f c' : Addr} {cdz pm ctv : Value} {prs : Arguments} {body : Expr} {scope : Scope} {j i : Nat} {a : Str} {pn : List (Addr × Obj)} {xe : Value → Shared → Prop} {W : WX} {E : XK} {tb : TE} {p1 p2 : Pos}
    (I : L2.Inv X pins σ H s) (L : LamS X.env.scope scope) (obj : s.heap.get? f = some (PySem.W.kla_obj "<lambda>" (X.env.qual ++ "<lambda>") prs body scope (cloFrom X.env.cells scope.names []) pm c' ctv)) (fNo : H f = none) (fFr : f ∉ frs X.stack)
    (bnd : bindArgs (PySem.W.kla_fn "<lambda>" (X.env.qual ++ "<lambda>") prs body scope (cloFrom X.env.cells scope.names []) pm (.ref c') ctv) ⟨[], []⟩ = pure [])
    (tk : L2N.Takes ((cxOf (CXN X.prog X.w) X.prog X.w X.K X.mg X.base Nz qz sz z cdz X.A X.stack s H E0').tr pn xe) W) (room : Room (j + 1) (X.A.deeper (envOfC qz sz s.heap.objs.size z cdz)))
    (bd : ∀ (A : Around) (outer : List Env) (s : Shared) (H : Hp), Room j (A.deeper (lamEnv X scope s.heap.objs.size f c')) → PE (lamN X A outer s H E scope f c') body tb)
    (hN : Nz[i]? = some a) (hv : Vis sz a) (hd : (a == ("__debug__" : Str)) = false := by decide) (hcd : (a == ("__classdict__" : Str)) = false := by decide) :
    PE ((cxOf (CXN X.prog X.w) X.prog X.w X.K X.mg X.base Nz qz sz z cdz X.A X.stack s H E0').tr pn xe) (.Call (.Name a p1) [] [] p2)
      (fun σZ HZ Q => σZ[i]? = some (some (.ref f)) ∧ HZ c' = some (CodeO c' (X.env.qual ++ "<lambda>")) ∧ (∀ cls d H', E cls d H' → W cls d σZ H') ∧ tb σ HZ Q) := by
  refine ⟨fun pz sZ σZ HZ Q IZ h => ?_⟩
  obtain ⟨slot, codeH, hW, ht⟩ := h
  refine wpAny_Call_Name_kw (thn ((pe_var (pos := p1) (i := i) hN hv hd hcd).run pz sZ σZ HZ (fun v H1 => v = .ref f ∧ H1 = HZ) IZ ⟨.ref f, slot, rfl, rfl⟩) fun u s1 ⟨v, H1, I1, r1, e1, e2⟩ => ?_)
  subst e1
  subst e2
  cases r1
  have obj1 : s1.heap.get? f = some (PySem.W.kla_obj "<lambda>" (X.env.qual ++ "<lambda>") prs body scope (cloFrom X.env.cells scope.names []) pm c' ctv) := I1.base.keep f _ obj fNo fFr (fun q => nomatch (show f ∈ ([] : List Addr) from q))
  refine PySem.W.callWith_F0 ⟨_, _, _, _, obj1⟩ ?_
  have un : Un (frs X.stack) [] H H1 s.heap s1.heap := I1.base
  obtain ⟨⟨oc, vs, t, hoc, hdc, hvc⟩, _, _⟩ := I1.hok c' _ codeH
  have rc : codeAny (model X.prog X.w) (X.A.deeper (envOfC qz sz s.heap.objs.size z cdz)) (.call (.ref f) ⟨[], []⟩) (CR (CXN X.prog X.w) (envOfC qz sz s.heap.objs.size z cdz :: X.stack) X.prog X.w H1 s1 Q E) s1 := by
    refine PySem.W.kla_callFunE room.depth obj1 rfl L.co L.gen rfl ⟨c', oc, vs, t, rfl, hoc, hdc, hvc⟩ ?_
    rw [bnd]
    refine wpAny_pure (wpAny_newFunctionEnv (fun y hy => (L.own y hy).2) (fun y hy => absurd hy (by simp)) (fun h₁ names grown => ⟨I1.nolimit.fresh _ grown, ?_⟩) L.kind)
    have kp : ∀ b o, s1.heap.get? b = some o → h₁.get? b = some o := fun b o e => grown.extBut b o (Nat.ne_of_lt (Heap.lt_size e)) (Heap.get?_push_of_some _ e)
    have J := (lam_start2 (E := E) (c' := c') (f := f) (tk := s1.toks + ([] : List (Str × Value)).length) I L I1.env0 room.hd un names kp).wish (lamN X (X.A.deeper (envOfC qz sz s.heap.objs.size z cdz)) (envOfC qz sz s.heap.objs.size z cdz :: X.stack) s1 H1 E scope f c').xe
    refine PySem.W.kla_codeExpr (wpAny_mono ((bd _ _ s1 H1 (room.deeper _)).run [] _ _ H1 Q J ht) (fun v s' q => ?_) fun e s' q => q)
    obtain ⟨w', H', J', rv, q⟩ := q
    exact ⟨w', H', J'.os, J'.bare, J'.base, J'.hok, rv, q⟩
  refine wpAny_call (codeAny_mono rc fun r s' q => ?_)
  cases r with
  | error e => exact tk e s' (L2N.XE.of_call I1 hW q)
  | ok fl =>
    cases fl with
    | ret u => exact I1.after q
    | next => exact False.elim q
    | brk => exact False.elim q
    | cont => exact False.elim q
end
/-- try: return deed() / except S as e: return word(e) -/
abbrev toldB (p1 p2 p3 p4 p5 p6 p7 p8 p9 p10 : Pos) : List Stmt :=
  [.Try [.Return (some (.Call (.Name "_law_deed" p1) [] [] p2)) p3] [.ExceptHandler (some (.Name "SieveError" p4)) (some "_law_e") [.Return (some (.Call (.Name "_law_word" p5) [.Name "_law_e" p6] [] p7)) p8] p9] [] [] p10]
/-- what the text's told is -/
structure ToldAt (P : Program) (w : World) (K : PySem.W.Frag) (mg : Str → Option Value) (base : Heap) (S : Addr) (j : Nat) (W : Addr → Str → Prop) (st : Stmt) : Prop where
  dat : DefAt K mg "_law_told" st
  sco : FnScope ["_law_deed", "_law_e"] ["_law_deed"] (defScope st)
  loc : (defScope st).names.lookup ("_law_e" : Str) = some .local
  loc0 : (defScope st).names.lookup ("_law_deed" : Str) = some .local
  gS : (defScope st).names.lookup ("SieveError" : Str) = some .globalImplicit
  gW : (defScope st).names.lookup ("_law_word" : Str) = some .globalImplicit
  bdy : ∃ p1 p2 p3 p4 p5 p6 p7 p8 p9 p10, defBody st = toldB p1 p2 p3 p4 p5 p6 p7 p8 p9 p10
  bnd : ∀ (kV doc pm : Value) (an : Option Addr) (cdv ct : Value) (us : List Value), us.length = 1 → bindArgs (PySem.W.fnOf "_law_told" "_law_told" (defArgs st) (defBody st) (defScope st) .none kV doc pm an cdv ct) ⟨us, []⟩ = pure ((["_law_deed"] : List Str).zip us)
  wrd : WordOk P w K mg base j "_law_word" "_law_e" W
  mS : mg "SieveError" = some (.ref S)
  exm : ∀ C nm, W C nm → PySem.W.exmOne K (.ref C) (.ref S) = some true
/-- what is wanted of an exception of the deed -/
def ET (W : Addr → Str → Prop) (Q : VK) : XK := fun cls d H => ∃ (C : Addr) (nm : Str), cls = .ref C ∧ d = none ∧ W C nm ∧ ∀ H', Ex H H' → Q (.str nm) H'
/-- told(lambda: body) -/
def tTold (T : List (Addr × Str)) (W : Addr → Str → Prop) (t : XK → TE) : TE := fun σ H Q => Tabs T H ∧ ∀ H1, ExtN H H1 → Tabs T H1 → t (ET W Q) σ H1 Q
section
variable {X : Cx}
theorem pe_told {T : List (Addr × Str)} {S : Addr} {j k : Nat} {W : Addr → Str → Prop} {st : Stmt} {c Pt : Addr} {prs : Arguments} {body : Expr} {scope : Scope} {t : XK → TE} {p lpos pos : Pos} (TD : ToldAt X.prog X.w X.K X.mg X.base S j W st) (hg : Gl X "_law_told")
    (TB : TabB X.base X.mg c Pt) (hcode : X.env.code = .ref c) (hmT : (Pt, X.env.qual ++ "<lambda>") ∈ T) (hu : ∀ p ∈ T, p.1 = Pt → p.2 = X.env.qual ++ "<lambda>") (hr : Room (k + 2) X.A) (hjk : j ≤ k + 1) (L : LamS X.env.scope scope) (hdef : defaultsOf prs X.env = ([], []))
    (hbind : ∀ (q : Str) (cl : List (Str × Addr)) (pm cv ctv : Value), bindArgs (PySem.W.kla_fn "<lambda>" q prs body scope cl pm cv ctv) ⟨[], []⟩ = pure [])
    (bd : ∀ (A : Around) (outer : List Env) (s : Shared) (H : Hp) (E : XK) (f c' : Addr), Room k (A.deeper (lamEnv X scope s.heap.objs.size f c')) → PE (lamN X A outer s H E scope f c') body (t E)) :
    PE X (.Call (.Name "_law_told" p) [.Lambda prs body scope lpos] [] pos) (tTold T W t) := by
  obtain ⟨g, fd, Fn, hm⟩ := TD.dat.ex
  obtain ⟨oc, od, kV, doc, pm0, an, cdv, ct, osl, rfl, lk, hcd⟩ := Fn.ex
  obtain ⟨q1, q2, q3, q4, q5, q6, q7, q8, q9, q10, eb⟩ := TD.bdy
  refine ⟨fun pins s σ H Q I h => ?_⟩
  obtain ⟨hT, h⟩ := h
  refine wpAny_Call_Name_kw (ld_glob I hg hm ?_)
  refine PySem.W.callWith_K (h₀ := X.base) I.ok.mod.kin Fn.kp ?_ (by rfl) (by rfl)
  show wpAny _ _ (spliced ((false, eval (.Lambda prs body scope lpos) X.env) :: backTo pos (starEach [] X.env))) _ _ s
  refine Calls.spliced_cons (lam_make2 I TB hcode hmT hu hT hdef (L.has I.ok) fun f c' pm' ctv H1 s' I1 eN T1 obj fNo fFr hco => ?_)
  refine Calls.spliced_nil ⟨I1.kIn, ?_⟩
  have rc : codeAny (model X.prog X.w) X.A (.call (.ref g) ⟨[.ref f], []⟩) (CR (CXN X.prog X.w) X.stack X.prog X.w H1 s' Q E0) s' := by
    refine run_ofS (CX := CXN X.prog X.w) (N := ["_law_deed", "_law_e"]) (ps := ["_law_deed"]) (us := [.ref f]) (vs := [.ref f]) lk hcd TD.sco hr I1.env0 ((Fn.binds (ps := ["_law_deed"]) TD.bnd) s' [.ref f] I1.kIn rfl) (.cons rfl .nil) rfl fun hr' => ?_
    rw [eb]
    have hd : (cxOf (CXN X.prog X.w) X.prog X.w X.K X.mg X.base ["_law_deed", "_law_e"] "_law_told" (defScope st) g cdv X.A X.stack s' H1 E0).A = X.A.deeper (envOfC "_law_told" (defScope st) s'.heap.objs.size g cdv) := rfl
    have nm : Names (cxOf (CXN X.prog X.w) X.prog X.w X.K X.mg X.base ["_law_deed", "_law_e"] "_law_told" (defScope st) g cdv X.A X.stack s' H1 E0) "SieveError" (.ref S) := ⟨TD.gS, by decide, .inl TD.mS⟩
    refine ⟨_, pss_one (L2N.ps_try_as (X := cxOf (CXN X.prog X.w) X.prog X.w X.K X.mg X.base ["_law_deed", "_law_e"] "_law_told" (defScope st) g cdv X.A X.stack s' H1 E0) (i := 1) (Wout := fun _ _ _ _ => False)
      (tb := fun W' D σ' H' => ∃ Ech : XK, (∀ cls d H2, Ech cls d H2 → W' cls d σ' H2) ∧ σ'[0]? = some (some (.ref f)) ∧ H' c' = some (CodeO c' (X.env.qual ++ "<lambda>")) ∧ t Ech σ H' D.rt)
      (ts := fun a cls d D σ' H' => ∃ (C : Addr) (nm : Str), cls = .ref C ∧ d = none ∧ W C nm ∧ σ'[1]? = some (some (.ref a)) ∧ ∀ H2, Ex H' H2 → D.rt (.str nm) H2)
      rfl rfl TD.sco.nd rfl TD.loc nm takesN0 (fun W' pn xe tk _ => ?_) (fun a oe cls d pn hz hf => ?_)), ?_⟩
    · refine ⟨fun pz s2 σ' H' D I2 h' => ?_⟩
      obtain ⟨Ech, hW, h1, h2, h3⟩ := h'
      have hp := actN (i := 0) (E := Ech) (p1 := q1) (p2 := q2) I1 L obj fNo fFr (hbind _ _ _ _ _) tk hr' (fun A outer s H hr2 => bd A outer s H Ech f c' hr2) rfl (Or.inl TD.loc0)
      exact (pss_one (ps_ret (pos := q3) hp)).run pz s2 σ' H' D I2 ⟨h1, h2, hW, h3⟩
    · refine ⟨fun pz s2 σ' H' D I2 h' => ?_⟩
      obtain ⟨C, nm, rfl, rfl, hw, h1, h2⟩ := h'
      obtain ⟨vs, hvs⟩ := hf
      have hot : Hot1 (Cx.suite (cxOf (CXN X.prog X.w) X.prog X.w X.K X.mg X.base ["_law_deed", "_law_e"] "_law_told" (defScope st) g cdv X.A X.stack s' H1 E0) a ((a, oe) :: pn)).A (a, oe) := ⟨rfl, vs, hvs, hz.2.2 vs hvs⟩
      have hrm : RoomH (k + 1) (Cx.suite (cxOf (CXN X.prog X.w) X.prog X.w X.K X.mg X.base ["_law_deed", "_law_e"] "_law_told" (defScope st) g cdv X.A X.stack s' H1 E0) a ((a, oe) :: pn)).A := ⟨hr'.dp, hr'.un⟩
      have hpe := pe_word (X := Cx.suite (cxOf (CXN X.prog X.w) X.prog X.w X.K X.mg X.base ["_law_deed", "_law_e"] "_law_told" (defScope st) g cdv X.A X.stack s' H1 E0) a ((a, oe) :: pn)) (i := 1) (p1 := q5) (p2 := q6) (pos := q7) (C := C) TD.wrd hot List.mem_cons_self hrm hjk ⟨hz.1, hz.2.1⟩ TD.gW (pv 1 rfl (Or.inl TD.loc))
      exact (pss_one (ps_ret (pos := q8) hpe)).run pz s2 σ' H' D I2 ⟨h1, nm, hw, h2⟩
    · refine ⟨ET W Q, fun cls d H2 ⟨C, nm, e1, e2, hw, q⟩ => ⟨true, ?_, fun _ a _ => ⟨C, nm, e1, e2, hw, rfl, q⟩, fun z => (by cases z)⟩, rfl, hco, h H1 eN T1⟩
      rw [e1]
      exact TD.exm C nm hw
  refine wpAny_call (codeAny_mono rc fun r s2 q => ?_)
  cases r with
  | error e => exact psn pins σ H1 s' e s2 I1 q
  | ok fl =>
    cases fl with
    | ret u => exact I1.after q
    | next => exact False.elim q
    | brk => exact False.elim q
    | cont => exact False.elim q
end
end Sv
namespace Sv
open PySem PySem.Spec PyProof.Rows L2 Evl LamX
/-! ### defs that make lambdas: their code object is told -/
structure FunC (K : PySem.W.Frag) (x qual : Str) (st : Stmt) (f : Addr) (fd : FuncData) (c : Addr) : Prop where
  ex : ∃ (oc : Value) (od : Option Addr) (kV doc pm : Value) (an : Option Addr) (ct : Value) (osl : Array (Option Value)),
    fd = PySem.W.fnOf x qual (defArgs st) (defBody st) (defScope st) .none kV doc pm an (.ref c) ct ∧ K.lookup f = some ⟨oc, od, .func fd, osl⟩ ∧ PySem.W.codeIn K (.ref c) qual = true
  kp : PySem.W.keepIn K (.ref f) = true
structure DefAtC (K : PySem.W.Frag) (mg : Str → Option Value) (x : Str) (st : Stmt) (c : Addr) : Prop where
  ex : ∃ (f : Addr) (fd : FuncData), FunC K x x st f fd c ∧ mg x = some (.ref f)
section
variable {P : Program} {w : World} {K : PySem.W.Frag} {mg : Str → Option Value} {base : Heap} {CT : CXT} {x : Str} {st : Stmt} {N ps : List Str} {k : Nat} {sp : Sp} {c : Addr}
theorem funC_mk {f : Addr} {od an : Option Addr} {sl : Array (Option Value)} {oc kV dc pm ct : Value} (l : K.lookup f = some ⟨oc, od, .func (PySem.W.fnOf x x (defArgs st) (defBody st) (defScope st) .none kV dc pm an (.ref c) ct), sl⟩)
    (cd : PySem.W.codeIn K (.ref c) x = true) (kp : PySem.W.keepIn K (.ref f) = true) : FunC K x x st f (PySem.W.fnOf x x (defArgs st) (defBody st) (defScope st) .none kV dc pm an (.ref c) ct) c := ⟨⟨_, _, _, _, _, _, _, _, rfl, l, cd⟩, kp⟩
theorem mk_fnC {f : Addr} {fd : FuncData} (F : FunC K x x st f fd c) (S : FnScope N ps (defScope st)) (len : ∀ vs H Q E, sp vs H Q E → vs.length = ps.length) (t : XK → TS) (hp : ∀ vs H Q E, sp vs H Q E → t E (dn Q) (start N vs) H)
    (hd : ∀ (A : Around) (outer : List Env) (s : Shared) (H : Hp) (E : XK), Room k (A.deeper (envOfC x (defScope st) s.heap.objs.size f (.ref c))) → PSs (cxOf CT P w K mg base N x (defScope st) f (.ref c) A outer s H E) (defBody st) (t E)) :
    FnOk P w K mg base CT (k + 1) f fd ps sp := by
  obtain ⟨oc, od, kV, doc, pm, an, ct, osl, rfl, lk, hcd⟩ := F.ex
  exact fn_of lk hcd S len fun A outer s H vs Q E hr hsp => ⟨t E, hd A outer s H E hr, hp vs H Q E hsp⟩
theorem mk_okC (D : DefAtC K mg x st c) (S : FnScope N ps (defScope st))
    (hb : ∀ (kV doc pm : Value) (an : Option Addr) (cdv ct : Value) (us : List Value), us.length = ps.length → bindArgs (PySem.W.fnOf x x (defArgs st) (defBody st) (defScope st) .none kV doc pm an cdv ct) ⟨us, []⟩ = pure (ps.zip us))
    (len : ∀ vs H Q E, sp vs H Q E → vs.length = ps.length) (t : XK → TS) (hp : ∀ vs H Q E, sp vs H Q E → t E (dn Q) (start N vs) H)
    (hd : ∀ (f : Addr) (A : Around) (outer : List Env) (s : Shared) (H : Hp) (E : XK), Room k (A.deeper (envOfC x (defScope st) s.heap.objs.size f (.ref c))) → PSs (cxOf CT P w K mg base N x (defScope st) f (.ref c) A outer s H E) (defBody st) (t E)) :
    Ok P w K mg base CT (k + 1) x ps sp := by
  obtain ⟨f, fd, F, hm⟩ := D.ex
  obtain ⟨oc, od, kV, doc, pm, an, ct, osl, rfl, lk, hcd⟩ := F.ex
  exact ⟨f, _, fn_of lk hcd S len fun A outer s H vs Q E hr hsp => ⟨t E, hd f A outer s H E hr, hp vs H Q E hsp⟩, hm, F.kp, .all (hb kV doc pm an (.ref c) ct)⟩
end
/-- the table of code objects of the def nm is empty at h -/
def TabOf (K : PySem.W.Frag) (mg : Str → Option Value) (h : Heap) (nm : Str) : Prop := ∀ (g c Pt : Addr) (o : Obj) (fd : FuncData) (e : Value) (dd : Option Addr) (vs : Array Value) (sl : Array (Option Value)),
  mg nm = some (.ref g) → K.lookup g = some o → o.data = .func fd → fd.code = .ref c → K.lookup c = some ⟨e, dd, .fields vs, sl⟩ → vs[11]? = some (.ref Pt) → h.get? Pt = some { cls := .none, data := .fields #[] }
/-- what the law gets: the script, its tables -/
def LawR (G : Pm) (T : List (Addr × Str)) : R1 := fun v H Q _ => ∃ (a : Addr) (ns : List Int), v = .ref a ∧ SqL G.K H a (ns.map V.int) ∧ ns.length ≤ 63 ∧ (∀ z ∈ ns, Builtin.Int.intBits z ≤ 1048576) ∧ Tabs T H ∧ ∀ H', Q (.bl true) H'
theorem walk_told {l : PySem.W.OpenLaw} {k : Nat} {q : Program} {loose : List Str} {XP : (Str → Option Value) → Heap → Prop} {YP : World → Heap → Prop} {d : DefRec} {K : Params → PySem.W.Frag} {x : Str}
    (hn : l.most = some 63) (hdf : d.params.defaults = []) (hr : Room k callerA) (hY : ∀ (w : World) (h : Heap), YP w h → (K w.params).In h)
    (F : ∀ (w : World) (mg : Str → Option Value) (fa : Addr) (h : Heap), (K w.params).In h → h.Ns mainGlobals mg → mg d.name = some (.ref fa) → (∀ nm, ((recsOf q).any fun e => e.name == nm) = true → TabOf (K w.params) mg h nm) →
      ∃ (G : Pm) (fd : FuncData) (cs : List (Addr × Addr × Str)), G.K = K w.params ∧ (∀ p ∈ cs, h.get? p.2.1 = some { cls := .none, data := .fields #[] }) ∧ (∀ p ∈ cs, G.K.lookup p.2.1 = none) ∧ (∀ p ∈ cs, PySem.W.CodeHd h p.1 p.2.1) ∧
        (∀ (s : Shared) (u : Value), BindsTo s fd ⟨[u], []⟩ [(x, u)]) ∧
        ∀ base : Heap, G.K.In base → base.Ns mainGlobals mg → (∀ p ∈ cs, TabB base mg p.1 p.2.1) → FnOk l.prog w G.K mg base (CXN l.prog w) k fa fd [x] (sp1 (LawR G (cs.map fun p => p.2)))) :
    PySem.W.WalkO q loose XP YP l.row.toRowW d [] (fun f vs => PySem.call f vs) := by
  refine Att.attach_callB hn hdf fun w s₀ s₁ mg mb fa o pm cd doc a vs ns B Y ho hd hcd hmg hobj hints hlen hbits hg => ?_
  have KX := hY w _ Y
  have tabs : ∀ nm, ((recsOf q).any fun e => e.name == nm) = true → TabOf (K w.params) mg s₁.heap nm := fun nm hr g c Pt o1 fd1 e dd ws sl k0 k1 k2 k3 k4 k5 => by
    obtain ⟨dL, hm, hn1⟩ := List.any_eq_true.mp hr
    have hn2 : dL.name = nm := beq_iff_eq.mp hn1
    obtain ⟨a', o', fd', c', P', h1, h2, h3, h4, h5, h6⟩ := B.T.tab dL hm
    rw [hn2, k0] at h1
    cases h1
    rw [KX _ _ k1] at h2
    cases h2
    rw [k2] at h3
    cases h3
    rw [k3] at h4
    cases h4
    obtain ⟨⟨oc, vc, e1, _, e3, e4⟩, hP⟩ := h6
    rw [KX _ _ k4] at e1
    cases e1
    cases e3
    rw [k5] at e4
    cases e4
    exact hP
  obtain ⟨G, fd, cs, eG, hT, nT, C, hb, hF⟩ := F w mg fa _ KX B.T.g hmg tabs
  have mem : ∀ p ∈ cs.map (fun p => (p.1, p.2.1)), ∃ r ∈ cs, p = (r.1, r.2.1) := fun p hp => by
    obtain ⟨r, hr, e⟩ := List.mem_map.mp hp
    exact ⟨r, hr, e.symm⟩
  refine law_callTs (K := G.K) (cs := cs.map fun p => (p.1, p.2.1)) (by rw [eG]; exact KX) B.T.g B.T.b B.T.builtins B.T.nolimit hg ?_ ?_ ?_ B.T.bmain hobj hints (Nat.le_trans hlen (by decide)) hr (fun base h1 h2 h3 => hF base h1 h2 fun p hp => h3 _ (List.mem_map.mpr ⟨p, hp, rfl⟩)) hb (fun H hH hS => ⟨a, ns, rfl, hS, hlen, hbits, fun p hp => ?_, fun _ => rfl⟩) ?_
  · intro p hp
    obtain ⟨r, hr, rfl⟩ := mem p hp
    exact hT r hr
  · intro p hp
    obtain ⟨r, hr, rfl⟩ := mem p hp
    exact nT r hr
  · intro p hp
    obtain ⟨r, hr, rfl⟩ := mem p hp
    exact C r hr
  · obtain ⟨r, hr, rfl⟩ := List.mem_map.mp hp
    exact TabS.nil (hH (r.1, r.2.1) (List.mem_map.mpr ⟨r, hr, rfl⟩))
  · intro H e s' z
    obtain ⟨_, _, _, _, _, _, _, _, _, _, _, _, y⟩ := z
    exact y
end Sv

set_option Elab.async false
set_option linter.all false
set_option maxRecDepth 100000
set_option maxHeartbeats 4000000
/-! SvErr: the program's own errors, looked at as a whole: one equation that the kernel decides. -/
namespace Sv
open PySem PySem.Spec PyProof.Rows L2 Evl LamX
def errOk (K : PySem.W.Frag) (S c : Addr) : Bool :=
  PySem.W.excIn K c [.type "ValueError", .type "Exception", .type "BaseException", .type "object"] "ValueError.__new__" && (PySem.W.keepIn K (.ref c) && (decide (PySem.W.subIn K (.ref c) (.type "BaseException") = some true) && (decide (PySem.W.typeIn K (.ref c) = some (.type "type")) &&
  (decide (PySem.W.findIn K (.ref c) "__getattribute__" = some (some (.builtin "BaseException.__getattribute__"))) && (decide (PySem.W.findIn K (.ref c) "__getattr__" = some none) && (PySem.W.hasDictIn K c && (decide (PySem.W.findIn K (.ref c) "__class__" = some (some (.builtin "object.__class__"))) &&
  (decide (PySem.W.specialIn K (.builtin "object.__class__") "__get__" = some (some (.builtin "getset_descriptor.__get__"))) && (decide (PySem.W.takesIn K (.builtin "object.__class__") = some true) && (decide (PySem.W.mroIn K c (.type "object") = some true) &&
  (decide (PySem.W.kitOne K (.ref c) (.type "ValueError") = some true) && decide (PySem.W.exmOne K (.ref c) (.ref S) = some true))))))))))))
def errsB (K : PySem.W.Frag) (S : Addr) (cs : List Addr) : Bool := cs.all (errOk K S) && ((cs.all fun c => cs.all fun d => decide (PySem.W.kitOne K (.ref c) (.ref d) = some (decide (c = d)))) && decide cs.Nodup)
structure ErrX (K : PySem.W.Frag) (S c : Addr) : Prop where
  xC : PySem.W.excIn K c [.type "ValueError", .type "Exception", .type "BaseException", .type "object"] "ValueError.__new__" = true
  kC : PySem.W.keepIn K (.ref c) = true
  bC : PySem.W.subIn K (.ref c) (.type "BaseException") = some true
  tC : PySem.W.typeIn K (.ref c) = some (.type "type")
  ex : ExcC K c
  ve : PySem.W.kitOne K (.ref c) (.type "ValueError") = some true
  ma : PySem.W.exmOne K (.ref c) (.ref S) = some true
theorem errX_of {K : PySem.W.Frag} {S c : Addr} (h : errOk K S c = true) : ErrX K S c := by
  unfold errOk at h
  simp only [Bool.and_eq_true, decide_eq_true_eq] at h
  obtain ⟨h1, h2, h3, h4, h5, h6, h7, h8, h9, h10, h11, h12, h13⟩ := h
  exact ⟨h1, h2, h3, h4, ⟨h5, h6, h3, h7, h8, h9, h10, h11⟩, h12, h13⟩
structure ErrsOk (K : PySem.W.Frag) (S : Addr) (cs : List Addr) : Prop where
  one : ∀ c ∈ cs, ErrX K S c
  two : ∀ c ∈ cs, ∀ d ∈ cs, PySem.W.kitOne K (.ref c) (.ref d) = some (decide (c = d))
  nd : cs.Nodup
theorem errsOk_of {K : PySem.W.Frag} {S : Addr} {cs : List Addr} (h : errsB K S cs = true) : ErrsOk K S cs := by
  unfold errsB at h
  simp only [Bool.and_eq_true, List.all_eq_true, decide_eq_true_eq] at h
  exact ⟨fun c hc => errX_of (h.1 c hc), h.2.1, h.2.2⟩
theorem ErrX.at {K : PySem.W.Frag} {S c : Addr} {mg : Str → Option Value} {x : Str} (h : ErrX K S c) (g : mg x = some (.ref c)) : ErrAt K mg x c := ⟨g, h.xC, h.kC, h.bC, h.tC⟩
section
variable {K : PySem.W.Frag} {σ : L2.St} {H : Hp} {ta tb : TE} {C D e l : Addr} {b : Bool} {xs ys : List V}
theorem ev_isE {i : Nat} (h : σ[i]? = some (some (.ref e))) (k : PySem.W.kitOne K (.ref C) (.ref D) = some b) : Ev (tCB (rIsE K C e) (tCons (tVar i) (tCons (tC (.ref D)) tNil))) σ H (.bl b) :=
  ev_cb (ea_cons (ev_var h) (ea_cons ev_c ea_nil)) fun H1 _ Q q => ⟨.ref D, .ref D, b, rfl, fun u r => r, k, q H1 (Ex.refl H1)⟩
theorem ev_isET {i : Nat} {n : String} (h : σ[i]? = some (some (.ref e))) (k : PySem.W.kitOne K (.ref C) (.type n) = some b) : Ev (tCB (rIsE K C e) (tCons (tVar i) (tCons (tC (.ty n)) tNil))) σ H (.bl b) :=
  ev_cb (ea_cons (ev_var h) (ea_cons ev_c ea_nil)) fun H1 _ Q q => ⟨.ty n, .type n, b, rfl, fun u r => r, k, q H1 (Ex.refl H1)⟩
/-- xs + ys, a list that is tracked and a new one -/
theorem el_cat (ha : Ev ta σ H (.ref l)) (hl : H l = some (.lst xs)) (hb : EvL tb σ H ys) (hz : xs.length + ys.length ≤ 100000) : EvL (tOp rCat ta tb) σ H (xs ++ ys) :=
  fun H1 ex Q q => ha H1 ex _ fun H2 e2 => hb H2 (ex.trans e2) _ fun p H3 _ e3 h3 => ⟨l, p, xs, ys, rfl, rfl, (ex.trans (e2.trans e3)) l _ hl, h3, sz_of hz, fun r hr => q r _ (fresh_back (e2.trans e3) hr) ((e2.trans e3).trans (Ex.new hr)) upd_same⟩
theorem el_intsH {bs : List Bool} (ha : Ev ta σ H (.ref l)) (hl : SqL K H l (bs.map V.bl)) : EvL (tIntsH K ta) σ H (bs.map fun b => V.int (if b then 1 else 0)) :=
  fun H1 ex Q q => ha H1 ex _ fun H2 e2 => ⟨l, bs, rfl, ex_l (ex.trans e2) hl, fun D hD => q D _ (fresh_back e2 hD) (e2.trans (Ex.new hD)) upd_same⟩
theorem ev_sumB {bs : List Bool} (ha : EvL ta σ H (bs.map fun b => V.int (if b then 1 else 0))) : Ev (tCB (rSum K) (tCons ta tNil)) σ H (.int ((bs.map fun b => (if b then 1 else 0 : Int)).sum)) :=
  ev_sumN (ns := bs.map fun b => (if b then 1 else 0 : Int)) (el_eq ha (by rw [List.map_map]; rfl))
/-- flags.index(True) -/
theorem ev_idx {bs : List Bool} {j : Nat} (ha : Ev ta σ H (.ref l)) (hl : SqL K H l (bs.map V.bl)) (h1 : bs[j]? = some true) (h2 : ∀ m, m < j → bs[m]? = some false) : Ev (tBM K "list" (rIndex K) ta (tCons (tC (.bl true)) tNil)) σ H (.int (j : Int)) :=
  fun H1 ex Q q => ha H1 ex _ fun H2 e2 => ⟨.inl ⟨rfl, _, ex_l (ex.trans e2) hl⟩, l, bs.map V.bl, .bl true, j, .bl true, rfl, rfl, ex_l (ex.trans e2) hl, rfl, by rw [List.all_map]; exact List.all_eq_true.mpr fun _ _ => rfl, by rw [List.getElem?_map, h1]; rfl, rfl, fun m z' hm hz => by
    rw [List.getElem?_map, h2 m hm] at hz
    rw [← Option.some.inj hz]
    rfl, q H2 e2⟩
end
end Sv

set_option Elab.async false
set_option linter.all false
set_option maxRecDepth 100000
set_option maxHeartbeats 4000000
/-! SvNx: what is known goes on past what is told (NX); lists repeated, put end to end; calls that hand lists back. -/
namespace Sv
open PySem PySem.Spec PyProof.Rows L2 Evl HotX L2H LamX
section
variable {K : PySem.W.Frag} {σ : L2.St} {H H' H1 H2 : Hp} {ta tb te tc : TE} {x y z v : V} {a p : Addr} {xs ys : List V} {T : List (Addr × Str)} {D : Ends} {tz : TS} {W : Addr → Str → Prop} {t : XK → TE} {Q : VK}
abbrev rIsBl : R2 := fun x y H Q => ∃ a b, x = .bl a ∧ y = .bl b ∧ Q (.bl (decide (a = b))) H
abbrev rNotBl : R2 := fun x y H Q => ∃ a b, x = .bl a ∧ y = .bl b ∧ Q (.bl (!decide (a = b))) H
theorem rv_isB {i j : Bool} : RV rIsBl (.bl i) (.bl j) H (.bl (decide (i = j))) := fun H1 _ Q q => ⟨i, j, rfl, rfl, q H1 (Ex.refl H1)⟩
theorem rv_notB {i j : Bool} : RV rNotBl (.bl i) (.bl j) H (.bl (!decide (i = j))) := fun H1 _ Q q => ⟨i, j, rfl, rfl, q H1 (Ex.refl H1)⟩
/-- all but the tables of code objects stays, and these tables stand -/
def NX (T : List (Addr × Str)) (H H' : Hp) : Prop := ExtN H H' ∧ Tabs T H'
theorem NX.refl (h : Tabs T H) : NX T H H := ⟨ExtN.refl H, h⟩
theorem NX.trans (a : NX T H H1) (b : NX T H1 H2) : NX T H H2 := ⟨a.1.trans b.1, b.2⟩
theorem NX.ex (a : NX T H H1) (e : Ex H1 H2) : NX T H H2 := ⟨a.1.trans (ExtN.of e), a.2.ext e⟩
theorem nx_of (h : Tabs T H) (e : Ex H H1) : NX T H H1 := (NX.refl h).ex e
theorem NX.o (n : NX T H H') (h : H a = some (.lst xs)) : H' a = some (.lst xs) := n.1 a _ h fun ps z => by cases z
theorem NX.tu (n : NX T H H') (h : H a = some (.tup xs)) : H' a = some (.tup xs) := n.1 a _ h fun ps z => by cases z
theorem nx_rdl (n : ExtN H H') (h : Rd H a (.lst xs)) : Rd H' a (.lst xs) := by
  rcases h with h | ⟨o, h⟩
  · exact .inl (n a _ h fun ps z => by cases z)
  · exact .inr ⟨o, n a _ h fun ps z => by cases z⟩
theorem nx_rdt (n : ExtN H H') (h : Rd H a (.tup xs)) : Rd H' a (.tup xs) := by
  rcases h with h | ⟨o, h⟩
  · exact .inl (n a _ h fun ps z => by cases z)
  · exact .inr ⟨o, n a _ h fun ps z => by cases z⟩
theorem NX.l (n : NX T H H') (h : SqL K H a xs) : SqL K H' a xs := by
  rcases h with h | h
  · exact .inl (nx_rdl n.1 h)
  · exact .inr h
theorem NX.tq (n : NX T H H') (h : SqT K H a xs) : SqT K H' a xs := by
  rcases h with h | h
  · exact .inl (nx_rdt n.1 h)
  · exact .inr h
theorem told_go (hT : Tabs T H) (h : ∀ H1, NX T H H1 → t (ET W Q) σ H1 Q) : tTold T W t σ H Q := ⟨hT, fun H1 n1 t1 => h H1 ⟨n1, t1⟩⟩
theorem et_go {C : Addr} {nm : Str} (w : W C nm) (h : ∀ H2, Ex H H2 → Q (.str nm) H2) : ET W Q (.ref C) none H := ⟨C, nm, rfl, rfl, w, h⟩
/-- x = told(lambda: ..) -/
theorem q_told {i : Nat} (hT : Tabs T H) (h : ∀ H1, NX T H H1 → t (ET W fun v H2 => tz D (σ.set i (some v)) H2) σ H1 fun v H2 => tz D (σ.set i (some v)) H2) : tSeq (tAsg (tTold T W t) (gName i)) tz D σ H := ⟨hT, fun H1 n1 t1 => h H1 ⟨n1, t1⟩⟩
/-- a told value: what it is, whatever comes -/
def Tl (T : List (Addr × Str)) (te : TE) (σ : L2.St) (H : Hp) (v : V) : Prop := ∀ H1, NX T H H1 → ∀ Q : VK, (∀ H2, NX T H1 H2 → Q v H2) → te σ H1 Q
theorem tl_ev (h : ∀ H1, NX T H H1 → Ev te σ H1 v) : Tl T te σ H v := fun H1 n Q q => h H1 n H1 (Ex.refl H1) Q fun H2 e => q H2 (nx_of n.2 e)
theorem tl_told (h : ∀ H1, NX T H H1 → ∀ Q : VK, (∀ H2, NX T H1 H2 → Q v H2) → t (ET W Q) σ H1 Q) : Tl T (tTold T W t) σ H v := fun H1 n Q q => ⟨n.2, fun H2 n2 t2 => h H2 (n.trans ⟨n2, t2⟩) Q fun H3 n3 => q H3 (NX.trans ⟨n2, t2⟩ n3)⟩
theorem tl_op {r : R2} (ha : Tl T ta σ H x) (hb : Tl T tb σ H y) (hr : ∀ H1, NX T H H1 → RV r x y H1 z) : Tl T (tOp r ta tb) σ H z := fun H1 n Q q => ha H1 n _ fun H2 n2 => hb H2 (n.trans n2) _ fun H3 n3 => hr H3 ((n.trans n2).trans n3) H3 (Ex.refl H3) Q fun H4 e4 => q H4 ((n2.trans n3).ex e4)
theorem tl_var {i : Nat} (h : σ[i]? = some (some v)) : Tl T (tVar i) σ H v := tl_ev fun _ _ => ev_var h
theorem tl_c : Tl T (tC v) σ H v := tl_ev fun _ _ => ev_c
theorem q_tl {i : Nat} (hT : Tabs T H) (h : Tl T te σ H v) (k : ∀ H1, NX T H H1 → tz D (σ.set i (some v)) H1) : tSeq (tAsg te (gName i)) tz D σ H := h H (NX.refl hT) _ k
/-- tests -/
def TlT (T : List (Addr × Str)) (tt : TT) (σ : L2.St) (H : Hp) (b : Bool) : Prop := ∀ H1, NX T H H1 → ∀ Q : Bool → Hp → Prop, (∀ H2, NX T H1 H2 → Q b H2) → tt σ H1 Q
theorem tlt_of {u : TT} {b : Bool} (h : ∀ H1, NX T H H1 → EvT u σ H1 b) : TlT T u σ H b := fun H1 n Q q => h H1 n H1 (Ex.refl H1) Q fun H2 e => q H2 (nx_of n.2 e)
theorem tlt_test {b : Bool} (h : Tl T te σ H (.bl b)) : TlT T (tTest te) σ H b := fun H1 n _ q => h H1 n _ fun H2 e2 => ⟨b, rfl, q H2 e2⟩
theorem tlt_not {u : TT} {b : Bool} (h : TlT T u σ H b) : TlT T (tNot u) σ H (!b) := fun H1 n _ q => h H1 n _ fun H2 e2 => q H2 e2
theorem tlt_or {u w : TT} {a b : Bool} (h1 : TlT T u σ H a) (h2 : a = false → TlT T w σ H b) : TlT T (tOr u w) σ H (a || b) := fun H1 n Q q => h1 H1 n _ fun H2 n2 => by
  cases a with
  | true => exact q H2 n2
  | false => exact h2 rfl H2 (n.trans n2) Q fun H3 n3 => q H3 (n2.trans n3)
theorem tlt_and {u w : TT} {a b : Bool} (h1 : TlT T u σ H a) (h2 : a = true → TlT T w σ H b) : TlT T (tAnd u w) σ H (a && b) := fun H1 n Q q => h1 H1 n _ fun H2 n2 => by
  cases a with
  | true => exact h2 rfl H2 (n.trans n2) Q fun H3 n3 => q H3 (n2.trans n3)
  | false => exact q H2 n2
theorem tlt_is {u : TT} {a b : Bool} (h : TlT T u σ H a) (e : a = b) : TlT T u σ H b := e ▸ h
theorem qn_when {u : TT} {tu : TS} {b : Bool} (hT : Tabs T H) (h : TlT T u σ H b) (h1 : b = true → ∀ H1, NX T H H1 → tu { D with nx := tz D } σ H1) (h2 : b = false → ∀ H1, NX T H H1 → tz D σ H1) : tSeq (tIfS u tu tNext) tz D σ H := h H (NX.refl hT) _ fun H1 n => by
  cases b with
  | true => exact h1 rfl H1 n
  | false => exact h2 rfl H1 n
theorem sn_when {u : TT} {tu : TS} {b : Bool} (hT : Tabs T H) (h : TlT T u σ H b) (h1 : b = true → ∀ H1, NX T H H1 → tu D σ H1) (h2 : b = false → ∀ H1, NX T H H1 → D.nx σ H1) : tIfS u tu tNext D σ H := h H (NX.refl hT) _ fun H1 n => by
  cases b with
  | true => exact h1 rfl H1 n
  | false => exact h2 rfl H1 n
/-! ### lists -/
theorem rep_flat (n : Nat) (x : V) : (List.replicate n [x]).flatten = List.replicate n x := by
  induction n with
  | zero => rfl
  | succ n ih => rw [List.replicate_succ, List.flatten_cons, ih]; rfl
theorem el_rep {n : Nat} (ha : EvL ta σ H [x]) (hb : Ev tb σ H (.int (n : Int))) (hn : n ≤ 100000) : EvL (tOp rRep ta tb) σ H (List.replicate n x) :=
  fun H1 ex Q q => ha H1 ex _ fun p H2 h2 e2 hp => hb H2 (ex.trans e2) _ fun H3 e3 => ⟨p, (n : Int), [x], rfl, rfl, e3 p _ hp, by omega, by omega, sz_of (by simpa using hn), fun r hr => q r _ (fresh_back (e2.trans e3) hr) ((e2.trans e3).trans (Ex.new hr)) (by
    rw [Int.toNat_natCast, rep_flat]
    exact upd_same)⟩
theorem el_catN (ha : EvL ta σ H xs) (hb : ∀ H1, Ex H H1 → EvL tb σ H1 ys) (hz : xs.length + ys.length ≤ 100000) : EvL (tOp rCat ta tb) σ H (xs ++ ys) :=
  fun H1 ex Q q => ha H1 ex _ fun l H2 _ e2 hl => hb H2 (ex.trans e2) H2 (Ex.refl H2) _ fun p H3 _ e3 h3 => ⟨l, p, xs, ys, rfl, rfl, e3 l _ hl, h3, sz_of hz, fun r hr => q r _ (fresh_back (e2.trans e3) hr) ((e2.trans e3).trans (Ex.new hr)) upd_same⟩
theorem cut_1 : cutV xs (some 1) none = xs.drop 1 := by
  unfold cutV
  have h : HT.sIx xs.length 0 (some 1) = min 1 xs.length := by
    cases h : xs.length with
    | zero => rfl
    | succ n =>
      simp [HT.sIx]
  have h2 : HT.sIx xs.length xs.length none = xs.length := rfl
  rw [h, h2, List.take_of_length_le (by simp)]
  cases xs with
  | nil => simp
  | cons a l => simp
theorem el_from1 (h : Ev te σ H (.ref a)) (hs : SqL K H a xs) : EvL (tSl (rSlL K) te (tPart (tC (.int 1))) tNoPart) σ H (xs.drop 1) := by
  rw [← cut_1]
  exact el_sl h (eo_some ev_c) eo_none hs
theorem el_ca1 {R : R1} {E : XK} (ha : Ev ta σ H x) (h : ∀ H1, Ex H H1 → ∀ Q : VK, RetL xs H1 Q → R x H1 Q E) : EvL (tCall (sp1 R) [] E (tCons ta tNil)) σ H xs :=
  fun H1 e Q q => ha H1 e _ fun H2 e2 => h H2 (e.trans e2) Q fun p H3 h3 e3 k => q p H3 (fresh_back e2 h3) (e2.trans e3) k
theorem el_ca2 {R : R2'} {E : XK} (ha : Ev ta σ H x) (hb : Ev tb σ H y) (h : ∀ H1, Ex H H1 → ∀ Q : VK, RetL xs H1 Q → R x y H1 Q E) : EvL (tCall (sp2 R) [] E (tCons ta (tCons tb tNil))) σ H xs :=
  fun H1 e Q q => ha H1 e _ fun H2 e2 => hb H2 (e.trans e2) _ fun H3 e3 => h H3 (e.trans (e2.trans e3)) Q fun p H4 h4 e4 k => q p H4 (fresh_back (e2.trans e3) h4) ((e2.trans e3).trans e4) k
/-- .. the second argument a new list -/
theorem el_ca2L {R : R2'} {E : XK} {zs : List V} (ha : Ev ta σ H x) (hb : EvL tb σ H ys) (h : ∀ q H1, Ex H H1 → H1 q = some (.lst ys) → ∀ Q : VK, RetL zs H1 Q → R x (.ref q) H1 Q E) : EvL (tCall (sp2 R) [] E (tCons ta (tCons tb tNil))) σ H zs :=
  fun H1 e Q q => ha H1 e _ fun H2 e2 => hb H2 (e.trans e2) _ fun r H3 _ e3 h3 => h r H3 (e.trans (e2.trans e3)) h3 Q fun p H4 h4 e4 k => q p H4 (fresh_back (e2.trans e3) h4) ((e2.trans e3).trans e4) k
/-- == of a new list and a kept one | of two new ones -/
theorem ev_opL0 {r : R2} (ha : EvL ta σ H xs) (hb : Ev tb σ H y) (hr : ∀ p H1, H1 p = some (.lst xs) → Ex H H1 → RV r (.ref p) y H1 z) : Ev (tOp r ta tb) σ H z := ev_opL1 ha (fun H1 e => hb.mono e) hr
/-- f(..) as a statement, its refusals let out -/
theorem q_call1 {R : R1} {E : XK} (ha : Ev ta σ H x) (h : ∀ H1, Ex H H1 → R x H1 (fun _ H2 => tz D σ H2) E) : tSeq (tDrop (tCall (sp1 R) [] E (tCons ta tNil))) tz D σ H := ha H (Ex.refl H) _ fun H1 e1 => h H1 e1
theorem el_lcR2 {ta : TA} {j : Nat} {vs : List Nat} {u : TT} {lo n : Int} (f : Nat → Bool) (v : Nat → V) (h : EvA ta σ H [.int lo, .int n]) (hn : -40000 ≤ lo ∧ lo ≤ 40000 ∧ -40000 ≤ n ∧ n ≤ 40000 ∧ n - lo ≤ 40000) (hw : ∀ x, wipe ((wipe σ vs).set j (some x)) vs = wipe σ vs)
    (ht : ∀ (i : Nat) H1, Ex H H1 → lo + (i : Int) < n → EvT u ((wipe σ vs).set j (some (.int (lo + (i : Int))))) H1 (f i)) (he : ∀ (i : Nat) H1, Ex H H1 → lo + (i : Int) < n → f i = true → Ev te ((wipe σ vs).set j (some (.int (lo + (i : Int))))) H1 (v i)) :
    EvL (tLc (iRng2 ta) (gName j) u te vs) σ H (given (n - lo).toNat f v) := fun H0 e Q q => h H0 e _ fun H1 e1 => ⟨lo, n, rfl, ⟨by omega, by omega, by omega, by omega⟩, fun Dl hD =>
  lc_range (lo := lo) (n := (n - lo).toNat) (Cw H1 f v Dl) ⟨hD, Ex.new hD, upd_same⟩ (fun i H' hi p => ⟨hw _, cw_turn p (by omega) (ht i H1 (e.trans e1) (by omega)) (fun hf => he i H1 (e.trans e1) (by omega) hf)⟩) (fun H' p => q Dl H' (fresh_back e1 p.1) (e1.trans p.2.1) p.2.2)⟩
theorem el_ca1L {R : R1} {E : XK} {zs : List V} (ha : EvL ta σ H xs) (h : ∀ q H1, Ex H H1 → H1 q = some (.lst xs) → ∀ Q : VK, RetL zs H1 Q → R (.ref q) H1 Q E) : EvL (tCall (sp1 R) [] E (tCons ta tNil)) σ H zs :=
  fun H1 e Q q => ha H1 e _ fun r H2 _ e2 h2 => h r H2 (e.trans e2) h2 Q fun p H3 h3 e3 k => q p H3 (fresh_back e2 h3) (e2.trans e3) k
theorem tabs_mut {l : Addr} {o : HO} (hl : H l = some (.lst xs)) (h : Tabs T H) : Tabs T (upd H l o) := fun p hp => by
  obtain ⟨ps, h1, h2, h3⟩ := h p hp
  have n1 : p.1 ≠ l := fun z => by
    rw [z, hl] at h1
    cases h1
  refine ⟨ps, by rw [upd_ne n1]; exact h1, h2, fun pos cv hc => ?_⟩
  obtain ⟨c, e1, e2⟩ := h3 pos cv hc
  refine ⟨c, e1, ?_⟩
  rw [upd_ne]
  · exact e2
  · intro z
    rw [z, hl] at e2
    cases e2
theorem NX.mut {l : Addr} {o : HO} (n : NX T H H1) (h0 : H l = none) (hl : H1 l = some (.lst xs)) : NX T H (upd H1 l o) := ⟨fun b u hb nt => by
  rw [upd_ne (ne_of_none hb h0)]
  exact n.1 b u hb nt, tabs_mut hl n.2⟩
/-- xs.append(told(..)) -/
theorem q_appT {l : Addr} {i : Nat} (hT : Tabs T H) (hl : H l = some (.lst xs)) (hi : σ[i]? = some (some (.ref l))) (h : Tl T te σ H v) (hz : xs.length < 100000) (k : ∀ H1, NX T H H1 → tz D σ (upd H1 l (.lst (xs ++ [v])))) :
    tSeq (tDrop (tBM K "list" rAppend (tVar i) (tCons te tNil))) tz D σ H :=
  ⟨.ref l, hi, Or.inl ⟨rfl, xs, sq_of hl⟩, h H (NX.refl hT) _ fun H2 n2 => ⟨l, xs, v, rfl, rfl, n2.o hl, sz_lt hz, k H2 n2⟩⟩
end
/-! ### one flag of many -/
theorem one_flag (C : Addr) : ∀ (cs : List Addr) (j : Nat), cs.Nodup → cs[j]? = some C →
    ((cs.map fun D => decide (C = D)).map fun b => (if b then 1 else 0 : Int)).sum = 1 ∧ (cs.map fun D => decide (C = D))[j]? = some true ∧ ∀ m, m < j → (cs.map fun D => decide (C = D))[m]? = some false
  | [], _, _, h => by simp at h
  | c :: cs, 0, nd, h => by
    have e : c = C := by simpa using h
    subst e
    have no : ∀ D ∈ cs, c ≠ D := fun D hD z => (List.nodup_cons.mp nd).1 (z ▸ hD)
    refine ⟨?_, by simp, fun m hm => by omega⟩
    have z : ∀ ds : List Addr, (∀ D ∈ ds, c ≠ D) → ((ds.map fun D => decide (c = D)).map fun b => (if b then 1 else 0 : Int)).sum = 0 := fun ds => by
      induction ds with
      | nil => intro _; rfl
      | cons d ds ih =>
        intro h
        simp only [List.map_cons, List.sum_cons]
        rw [ih fun D hD => h D (List.mem_cons_of_mem _ hD), decide_eq_false (h d List.mem_cons_self)]
        rfl
    simp only [List.map_cons, List.sum_cons]
    rw [z cs no]
    simp
  | c :: cs, j + 1, nd, h => by
    obtain ⟨h1, h2, h3⟩ := one_flag C cs j (List.nodup_cons.mp nd).2 (by simpa using h)
    have ne : C ≠ c := fun z => (List.nodup_cons.mp nd).1 (z ▸ List.mem_of_getElem? (by simpa using h))
    refine ⟨?_, by simpa using h2, fun m hm => ?_⟩
    · simp only [List.map_cons, List.sum_cons]
      rw [h1, decide_eq_false ne]
      rfl
    · cases m with
      | zero => simp [ne]
      | succ m => simpa using h3 m (by omega)
end Sv

set_option Elab.async false
set_option linter.all false
set_option maxRecDepth 100000
set_option maxHeartbeats 4000000
/-! SvAll: a list of things that are made, one of them taken; lists of words; what is told put into a list. -/
namespace Sv
open PySem PySem.Spec PyProof.Rows L2 Evl HotX L2H LamX
section
variable {K : PySem.W.Frag} {σ : L2.St} {H H' H1 H2 : Hp} {ta tb te tc : TE} {tr : TA} {x y z v : V} {a p : Addr} {xs ys : List V} {T : List (Addr × Str)} {D : Ends} {tz : TS} {W : Addr → Str → Prop} {t : XK → TE} {Q : VK} {P : V → Hp → Prop}
/-- a value that P holds of -/
def EvP (te : TE) (σ : L2.St) (H : Hp) (P : V → Hp → Prop) : Prop := ∀ H1, Ex H H1 → ∀ Q : VK, (∀ v H2, Ex H1 H2 → P v H2 → Q v H2) → te σ H1 Q
def EvAll (tr : TA) (σ : L2.St) (H : Hp) (n : Nat) (P : V → Hp → Prop) : Prop := ∀ H1, Ex H H1 → ∀ Q : List V → Hp → Prop, (∀ vs H2, Ex H1 H2 → vs.length = n → (∀ v ∈ vs, P v H2) → Q vs H2) → tr σ H1 Q
theorem ep_ev (h : Ev te σ H v) (hp : ∀ H1, Ex H H1 → P v H1) : EvP te σ H P := fun H1 e Q q => h H1 e Q fun H2 e2 => q v H2 e2 (hp H2 (e.trans e2))
theorem ep_l (h : EvL te σ H xs) (hp : ∀ p H1, Ex H H1 → H1 p = some (.lst xs) → P (.ref p) H1) : EvP te σ H P := fun H1 e Q q => h H1 e Q fun p H2 _ e2 h2 => q _ H2 e2 (hp p H2 (e.trans e2) h2)
theorem ep_u (h : EvU te σ H xs) (hp : ∀ p H1, Ex H H1 → H1 p = some (.tup xs) → P (.ref p) H1) : EvP te σ H P := fun H1 e Q q => h H1 e Q fun p H2 _ e2 h2 => q _ H2 e2 (hp p H2 (e.trans e2) h2)
theorem eall_nil : EvAll tNil σ H 0 P := fun H1 _ Q q => q [] H1 (Ex.refl H1) rfl fun _ h => (by cases h)
theorem eall_cons {n : Nat} (st : ∀ v H H', Ex H H' → P v H → P v H') (h : EvP te σ H P) (hr : EvAll tr σ H n P) : EvAll (tCons te tr) σ H (n + 1) P := fun H1 e Q q =>
  h H1 e _ fun v H2 e2 hv => hr H2 (e.trans e2) _ fun vs H3 e3 hl hvs => q (v :: vs) H3 (e2.trans e3) (by rw [List.length_cons, hl]) fun w hw => by
    rcases List.mem_cons.mp hw with rfl | hw
    · exact st _ _ _ e3 hv
    · exact hvs w hw
/-- [..][j], a thing of which P holds -/
theorem ep_ix {n : Nat} {j : Nat} (st : ∀ v H H', Ex H H' → P v H → P v H') (ha : EvAll tr σ H n P) (hb : ∀ H1, Ex H H1 → Ev tb σ H1 (.int (j : Int))) (hj : j < n) (hn : n ≤ 100000) : EvP (tOp (rIxL K) (tLst tr) tb) σ H P := fun H1 e Q q =>
  ha H1 e _ fun vs H2 e2 hl hvs => ⟨sz_of (by omega), fun r hr => hb (upd H2 r (.lst vs)) ((e.trans e2).trans (Ex.new hr)) _ (Ex.refl _) _ fun H3 e3 =>
    ⟨r, vs, (j : Int), vs[j]'(by omega), rfl, rfl, sq_of (e3 r _ upd_same), atI_nat (List.getElem?_eq_getElem _), q _ H3 (e2.trans ((Ex.new hr).trans e3)) (st _ _ _ ((Ex.new hr).trans e3) (hvs _ (List.getElem_mem _)))⟩⟩
theorem q_asgP {i : Nat} (h : EvP te σ H P) (k : ∀ v H1, Ex H H1 → P v H1 → tz D (σ.set i (some v)) H1) : tSeq (tAsg te (gName i)) tz D σ H := h H (Ex.refl H) _ fun v H1 e p => k v H1 e p
theorem call1P {R : R1} {E : XK} (ha : EvP ta σ H P) (h : ∀ v H1, Ex H H1 → P v H1 → R v H1 Q E) : tCall (sp1 R) [] E (tCons ta tNil) σ H Q := ha H (Ex.refl H) _ fun v H1 e hp => h v H1 e hp
theorem call1 {R : R1} {E : XK} (ha : Ev ta σ H x) (h : ∀ H1, Ex H H1 → R x H1 Q E) : tCall (sp1 R) [] E (tCons ta tNil) σ H Q := ha H (Ex.refl H) _ fun H1 e => h H1 e
theorem call1L {R : R1} {E : XK} (ha : EvL ta σ H xs) (h : ∀ p H1, Ex H H1 → H1 p = some (.lst xs) → R (.ref p) H1 Q E) : tCall (sp1 R) [] E (tCons ta tNil) σ H Q := ha H (Ex.refl H) _ fun p H1 _ e h1 => h p H1 e h1
theorem call2 {R : R2'} {E : XK} (ha : Ev ta σ H x) (hb : Ev tb σ H y) (h : ∀ H1, Ex H H1 → R x y H1 Q E) : tCall (sp2 R) [] E (tCons ta (tCons tb tNil)) σ H Q := ha H (Ex.refl H) _ fun H1 e => hb H1 e _ fun H2 e2 => h H2 (e.trans e2)
theorem call2L {R : R2'} {E : XK} (ha : Ev ta σ H x) (hb : EvL tb σ H ys) (h : ∀ q H1, Ex H H1 → H1 q = some (.lst ys) → R x (.ref q) H1 Q E) : tCall (sp2 R) [] E (tCons ta (tCons tb tNil)) σ H Q := ha H (Ex.refl H) _ fun H1 e => hb H1 e _ fun q H2 _ e2 h2 => h q H2 (e.trans e2) h2
theorem q_asgC1 {R : R1} {E : XK} {i : Nat} (ha : Ev ta σ H x) (h : ∀ H1, Ex H H1 → R x H1 (fun v H2 => tz D (σ.set i (some v)) H2) E) : tSeq (tAsg (tCall (sp1 R) [] E (tCons ta tNil)) (gName i)) tz D σ H := call1 (Q := fun v H2 => tz D (σ.set i (some v)) H2) ha h
theorem q_asgC2 {R : R2'} {E : XK} {i : Nat} (ha : Ev ta σ H x) (hb : Ev tb σ H y) (h : ∀ H1, Ex H H1 → R x y H1 (fun v H2 => tz D (σ.set i (some v)) H2) E) : tSeq (tAsg (tCall (sp2 R) [] E (tCons ta (tCons tb tNil))) (gName i)) tz D σ H := call2 (Q := fun v H2 => tz D (σ.set i (some v)) H2) ha hb h
theorem ev_ca1L {R : R1} {E : XK} (ha : EvL ta σ H xs) (h : ∀ p H1, Ex H H1 → H1 p = some (.lst xs) → ∀ Q : VK, (∀ H2, Ex H1 H2 → Q z H2) → R (.ref p) H1 Q E) : Ev (tCall (sp1 R) [] E (tCons ta tNil)) σ H z :=
  fun H1 e Q q => ha H1 e _ fun p H2 _ e2 h2 => h p H2 (e.trans e2) h2 Q fun H3 e3 => q H3 (e2.trans e3)
/-- for x in [..], each of which P holds of -/
theorem s_forP {n j : Nat} {tu : TS} (st : ∀ v H H', Ex H H' → P v H → P v H') (ha : EvAll tr σ H n P) (hn : n ≤ 100000) (I : L2.St → Hp → Prop) (h0 : ∀ H1, Ex H H1 → I σ H1)
    (hs : ∀ H1 x σ' H', Ex H H1 → I σ' H' → Ex H1 H' → P x H' → tu { D with nx := fun σ2 H2 => I σ2 H2 ∧ Ex H1 H2, ct := fun σ2 H2 => I σ2 H2 ∧ Ex H1 H2, bk := D.nx } (σ'.set j (some x)) H') (hd : ∀ σ' H', I σ' H' → D.nx σ' H') : tFor (iList K (tLst tr)) (gName j) tu D σ H :=
  ha H (Ex.refl H) _ fun vs H1 e1 hl hvs => ⟨sz_of (by omega), fun r hr => ⟨r, rfl, ⟨vs, sq_of upd_same⟩, by
    have e2 := e1.trans (Ex.new (o := .lst vs) hr)
    exact for_list (xs := vs) (fun _ σ' H' => I σ' H' ∧ Ex (upd H1 r (.lst vs)) H') ⟨h0 _ e2, Ex.refl _⟩ (fun i σ' H' _ p => sq_of (p.2 r _ upd_same))
      (fun i x σ' H' hi p => hs _ x σ' H' e2 p.1 p.2 (st _ _ _ p.2 (st _ _ _ (Ex.new hr) (hvs x (List.mem_of_getElem? hi))))) fun σ' H' p => hd σ' H' p.1⟩⟩
theorem q_forP {n j : Nat} {tu : TS} (st : ∀ v H H', Ex H H' → P v H → P v H') (ha : EvAll tr σ H n P) (hn : n ≤ 100000) (I : L2.St → Hp → Prop) (h0 : ∀ H1, Ex H H1 → I σ H1)
    (hs : ∀ H1 x σ' H', Ex H H1 → I σ' H' → Ex H1 H' → P x H' → tu { D with nx := fun σ2 H2 => I σ2 H2 ∧ Ex H1 H2, ct := fun σ2 H2 => I σ2 H2 ∧ Ex H1 H2, bk := tz D } (σ'.set j (some x)) H') (hd : ∀ σ' H', I σ' H' → tz D σ' H') : tSeq (tFor (iList K (tLst tr)) (gName j) tu) tz D σ H :=
  s_forP (D := { D with nx := tz D }) st ha hn I h0 hs hd
/-- x = [told(..)] -/
theorem q_lstT {i : Nat} (hT : Tabs T H) (h : Tl T te σ H v) (k : ∀ l H1, NX T H H1 → H1 l = none → tz D (σ.set i (some (.ref l))) (upd H1 l (.lst [v]))) : tSeq (tAsg (tLst (tCons te tNil)) (gName i)) tz D σ H :=
  h H (NX.refl hT) _ fun H2 n2 => ⟨sz_of (by show 1 ≤ 100000; decide), fun p hp => k p H2 n2 hp⟩
/-! ### lists of ints, of words, set against each other -/
theorem rv_neI {ns ms : List Int} {q : Addr} (h1 : SqL K H p (ns.map V.int)) (h2 : SqL K H q (ms.map V.int)) : RV (rNeD K) (.ref p) (.ref q) H (.bl (!decide (ns = ms))) := by
  rw [← eqv_il]
  exact rv_neD (dp_il h1) (dp_il h2) (sh_il _) (sh_il _)
theorem rv_eqI {ns ms : List Int} {q : Addr} (h1 : SqL K H p (ns.map V.int)) (h2 : SqL K H q (ms.map V.int)) : RV (rEqD K) (.ref p) (.ref q) H (.bl (decide (ns = ms))) := by
  rw [← eqv_il]
  exact rv_eqD (dp_il h1) (dp_il h2) (sh_il _) (sh_il _)
theorem dp_strs : ∀ ns : List Str, DpAll K H (ns.map V.str) (ns.map PyData.str)
  | [] => .nil
  | n :: ns => .cons (.str n) (dp_strs ns)
theorem canL_strs : ∀ ns : List Str, ns.all PyData.strOk = true → PyData.canLayAll0 (ns.map PyData.str) = true
  | [], _ => by simp [PyData.canLayAll0]
  | n :: ns, h => by
    rw [List.all_cons, Bool.and_eq_true] at h
    simp [PyData.canLayAll0, PyData.canLay0, canL_strs ns h.2, h.1]
theorem dep_strs : ∀ ns : List Str, PyData.depthAll (ns.map PyData.str) = 0
  | [] => by simp [PyData.depthAll]
  | n :: ns => by simp [PyData.depthAll, PyData.depth, dep_strs ns]
theorem sh_sl {ns : List Str} (h : ns.all PyData.strOk = true) : SeqAt.shaped (.list (ns.map PyData.str)) = true := by
  simp [SeqAt.shaped, PyData.canLay0, PyData.depth, canL_strs ns h, dep_strs]
theorem rv_neS {ns : List Str} {q : Addr} (h : ns.all PyData.strOk = true) (h1 : SqL K H p (ns.map V.str)) (h2 : SqL K H q (ns.map V.str)) : RV (rNeD K) (.ref p) (.ref q) H (.bl false) := by
  have := rv_neD (.lst h1 (dp_strs ns)) (.lst h2 (dp_strs ns)) (sh_sl h) (sh_sl h)
  rw [SeqAt.eqv_refl _ (SeqAt.canLay_of_shaped (sh_sl h))] at this
  exact this
end
end Sv

set_option Elab.async false
set_option linter.all false
set_option maxRecDepth 100000
set_option maxHeartbeats 4000000
/-! MSum: sums by 1..n; tables put together by divisors: in either turn, of three, taken back. -/
namespace Sv
/-- the sum of f a by a = 1..n -/
def S1 : Nat → (Nat → Int) → Int
  | 0, _ => 0
  | n + 1, f => S1 n f + f (n + 1)
section
variable {n m : Nat} {f g h : Nat → Int}
theorem S1_congr : ∀ {n : Nat} {f g : Nat → Int}, (∀ a, 1 ≤ a → a ≤ n → f a = g a) → S1 n f = S1 n g
  | 0, _, _, _ => rfl
  | n + 1, f, g, h => by
    show S1 n f + f (n + 1) = S1 n g + g (n + 1)
    rw [S1_congr fun a h1 h2 => h a h1 (by omega), h (n + 1) (by omega) (by omega)]
theorem S1_add (n : Nat) (f g : Nat → Int) : S1 n (fun a => f a + g a) = S1 n f + S1 n g := by
  induction n with
  | zero => rfl
  | succ n ih =>
    simp only [S1, ih]
    omega
theorem S1_sub (n : Nat) (f g : Nat → Int) : S1 n (fun a => f a - g a) = S1 n f - S1 n g := by
  induction n with
  | zero => rfl
  | succ n ih =>
    simp only [S1, ih]
    omega
theorem S1_zero (n : Nat) : S1 n (fun _ => 0) = 0 := by
  induction n with
  | zero => rfl
  | succ n ih => simp only [S1, ih]; rfl
theorem S1_mulL (n : Nat) (c : Int) (f : Nat → Int) : S1 n (fun a => c * f a) = c * S1 n f := by
  induction n with
  | zero => simp [S1]
  | succ n ih => simp only [S1, ih, Int.mul_add]
theorem S1_mulR (n : Nat) (c : Int) (f : Nat → Int) : S1 n (fun a => f a * c) = S1 n f * c := by
  induction n with
  | zero => simp [S1]
  | succ n ih => simp only [S1, ih, Int.add_mul]
theorem S1_swap (n m : Nat) (f : Nat → Nat → Int) : S1 n (fun a => S1 m (fun b => f a b)) = S1 m (fun b => S1 n (fun a => f a b)) := by
  induction n with
  | zero => simp only [S1, S1_zero]
  | succ n ih =>
    simp only [S1, ih]
    rw [S1_add]
theorem S1_one (n k : Nat) (c : Nat → Int) : S1 n (fun a => if a = k then c a else 0) = if 1 ≤ k ∧ k ≤ n then c k else 0 := by
  induction n with
  | zero =>
    rw [if_neg (by omega)]
    rfl
  | succ n ih =>
    simp only [S1, ih]
    by_cases h1 : n + 1 = k
    · subst h1
      rw [if_neg (by omega), if_pos rfl, if_pos (by omega)]
      omega
    · rw [if_neg h1]
      by_cases h2 : 1 ≤ k ∧ k ≤ n
      · rw [if_pos h2, if_pos (by omega)]
        omega
      · rw [if_neg h2, if_neg (by omega)]
        rfl
theorem S1_cut {k : Nat} (hk : k ≤ n) (h : ∀ a, k < a → a ≤ n → f a = 0) : S1 n f = S1 k f := by
  induction n with
  | zero =>
    have : k = 0 := by omega
    subst this
    rfl
  | succ n ih =>
    by_cases e : k = n + 1
    · subst e
      rfl
    · simp only [S1]
      rw [ih (by omega) (fun a h1 h2 => h a h1 (by omega)), h (n + 1) (by omega) (by omega)]
      omega
/-! ### by divisors -/
/-- put together, at n -/
def dv (f g : Nat → Int) (n : Nat) : Int := S1 n fun a => if n % a = 0 then f a * g (n / a) else 0
/-- .. by pairs up to N -/
def dc (N : Nat) (f g : Nat → Int) (n : Nat) : Int := S1 N fun a => S1 N fun b => if a * b = n then f a * g b else 0
theorem mul_is {a b n : Nat} (ha : 1 ≤ a) : a * b = n ↔ n % a = 0 ∧ b = n / a := by
  constructor
  · intro h
    subst h
    exact ⟨Nat.mul_mod_right a b, (Nat.mul_div_cancel_left b ha).symm⟩
  · rintro ⟨h1, rfl⟩
    exact Nat.mul_div_cancel' (Nat.dvd_of_mod_eq_zero h1)
theorem pair_one {N a n : Nat} {c : Nat → Int} (ha : 1 ≤ a) (hn : 1 ≤ n) (hN : n ≤ N) : S1 N (fun b => if a * b = n then c b else 0) = if n % a = 0 then c (n / a) else 0 := by
  by_cases h : n % a = 0
  · rw [if_pos h]
    have e : S1 N (fun b => if a * b = n then c b else 0) = S1 N (fun b => if b = n / a then c b else 0) := S1_congr fun b _ _ => by
      by_cases h1 : b = n / a
      · rw [if_pos h1, if_pos ((mul_is ha).mpr ⟨h, h1⟩)]
      · rw [if_neg h1, if_neg fun z => h1 ((mul_is ha).mp z).2]
    rw [e, S1_one, if_pos]
    have : n / a * a = n := Nat.div_mul_cancel (Nat.dvd_of_mod_eq_zero h)
    constructor
    · rcases Nat.eq_zero_or_pos (n / a) with z | z
      · rw [z] at this
        omega
      · exact z
    · exact Nat.le_trans (Nat.div_le_self n a) hN
  · rw [if_neg h]
    have e : S1 N (fun b => if a * b = n then c b else 0) = S1 N (fun _ => 0) := S1_congr fun b _ _ => if_neg fun z => h ((mul_is ha).mp z).1
    rw [e, S1_zero]
theorem dc_dv {N : Nat} (hn : 1 ≤ n) (hN : n ≤ N) : dc N f g n = dv f g n := by
  unfold dc dv
  rw [S1_congr (g := fun a => if n % a = 0 then f a * g (n / a) else 0) fun a h1 _ => pair_one (c := fun b => f a * g b) h1 hn hN]
  refine S1_cut hN fun a h1 _ => if_neg ?_
  rw [Nat.mod_eq_of_lt h1]
  omega
theorem dc_comm (N n : Nat) (f g : Nat → Int) : dc N f g n = dc N g f n := by
  unfold dc
  rw [S1_swap]
  refine S1_congr fun a _ _ => S1_congr fun b _ _ => ?_
  rw [Nat.mul_comm b a, Int.mul_comm (f b)]
theorem dv_comm (hn : 1 ≤ n) : dv f g n = dv g f n := by
  rw [← dc_dv hn (Nat.le_refl n), dc_comm, dc_dv hn (Nat.le_refl n)]
theorem dv_congr {f' g' : Nat → Int} (hn : 1 ≤ n) (hf : ∀ a, 1 ≤ a → a ≤ n → f a = f' a) (hg : ∀ a, 1 ≤ a → a ≤ n → g a = g' a) : dv f g n = dv f' g' n := by
  refine S1_congr fun a h1 h2 => ?_
  by_cases h : n % a = 0
  · rw [if_pos h, if_pos h, hf a h1 h2, hg (n / a) (Nat.div_pos h2 h1) (Nat.div_le_self _ _)]
  · rw [if_neg h, if_neg h]
theorem ite_S1 {p : Prop} [Decidable p] (n : Nat) (f : Nat → Int) : (if p then S1 n f else 0) = S1 n fun a => if p then f a else 0 := by
  by_cases h : p
  · simp only [if_pos h]
  · simp only [if_neg h, S1_zero]
/-- of three, by the three -/
def d3 (N : Nat) (f g h : Nat → Int) (n : Nat) : Int := S1 N fun a => S1 N fun b => S1 N fun c => if a * b * c = n then f a * g b * h c else 0
theorem d3_left {N : Nat} (hn : 1 ≤ n) (hN : n ≤ N) : dc N (dc N f g) h n = d3 N f g h n := by
  unfold dc d3
  have e1 : ∀ m c, (if m * c = n then (S1 N fun a => S1 N fun b => if a * b = m then f a * g b else 0) * h c else 0) = S1 N fun a => S1 N fun b => if a * b = m then (if m * c = n then f a * g b * h c else 0) else 0 := fun m c => by
    rw [← S1_mulR, ite_S1]
    refine S1_congr fun a _ _ => ?_
    rw [← S1_mulR, ite_S1]
    refine S1_congr fun b _ _ => ?_
    by_cases h1 : m * c = n <;> by_cases h2 : a * b = m <;> simp [h1, h2]
  rw [S1_congr fun m _ _ => S1_congr fun c _ _ => e1 m c]
  -- m inmost
  rw [S1_congr fun m _ _ => S1_swap N N fun c a => _, S1_swap]
  refine S1_congr fun a ha _ => ?_
  rw [S1_congr fun m _ _ => S1_swap N N fun c b => _, S1_swap]
  refine S1_congr fun b hb _ => ?_
  rw [S1_swap]
  refine S1_congr fun c hc _ => ?_
  rw [S1_congr (g := fun m => if m = a * b then (if m * c = n then f a * g b * h c else 0) else 0) fun m _ _ => by
    by_cases z : a * b = m
    · rw [if_pos z, if_pos z.symm]
    · rw [if_neg z, if_neg fun y => z y.symm], S1_one]
  by_cases z : a * b * c = n
  · rw [if_pos z, if_pos]
    exact ⟨Nat.mul_pos ha hb, Nat.le_trans (Nat.le_mul_of_pos_right _ hc) (by rw [z]; exact hN)⟩
  · rw [if_neg z]
    split <;> rfl
theorem d3_right {N : Nat} (hn : 1 ≤ n) (hN : n ≤ N) : dc N f (dc N g h) n = d3 N f g h n := by
  unfold dc d3
  refine S1_congr fun a ha _ => ?_
  have e1 : ∀ m, (if a * m = n then f a * (S1 N fun b => S1 N fun c => if b * c = m then g b * h c else 0) else 0) = S1 N fun b => S1 N fun c => if b * c = m then (if a * m = n then f a * g b * h c else 0) else 0 := fun m => by
    rw [← S1_mulL, ite_S1]
    refine S1_congr fun b _ _ => ?_
    rw [← S1_mulL, ite_S1]
    refine S1_congr fun c _ _ => ?_
    by_cases h1 : a * m = n <;> by_cases h2 : b * c = m <;> simp [h1, h2, Int.mul_assoc]
  rw [S1_congr fun m _ _ => e1 m, S1_swap]
  refine S1_congr fun b hb _ => ?_
  rw [S1_swap]
  refine S1_congr fun c hc _ => ?_
  rw [S1_congr (g := fun m => if m = b * c then (if a * m = n then f a * g b * h c else 0) else 0) fun m _ _ => by
    by_cases z : b * c = m
    · rw [if_pos z, if_pos z.symm]
    · rw [if_neg z, if_neg fun y => z y.symm], S1_one, ← Nat.mul_assoc]
  by_cases z : a * b * c = n
  · rw [if_pos z, if_pos]
    refine ⟨Nat.mul_pos hb hc, Nat.le_trans ?_ hN⟩
    rw [← z, Nat.mul_assoc]
    exact Nat.le_mul_of_pos_left _ ha
  · rw [if_neg z]
    split <;> rfl
theorem dv_assoc (hn : 1 ≤ n) : dv (dv f g) h n = dv f (dv g h) n := by
  have e : ∀ {f g f' g' : Nat → Int}, (∀ a, 1 ≤ a → a ≤ n → f a = f' a) → (∀ a, 1 ≤ a → a ≤ n → g a = g' a) → dv f g n = dc n f' g' n := fun h1 h2 => by
    rw [dc_dv hn (Nat.le_refl n)]
    exact dv_congr hn h1 h2
  rw [e (f' := dc n f g) (g' := h) (fun a h1 h2 => (dc_dv h1 h2).symm) (fun _ _ _ => rfl), d3_left hn (Nat.le_refl n), ← d3_right hn (Nat.le_refl n), e (f' := f) (g' := dc n g h) (fun _ _ _ => rfl) (fun a h1 h2 => (dc_dv h1 h2).symm)]
/-- 1 at 1 alone -/
def u1 (n : Nat) : Int := if n = 1 then 1 else 0
theorem dv_unitR (hn : 1 ≤ n) : dv f u1 n = f n := by
  unfold dv
  rw [S1_congr (g := fun a => if a = n then f a else 0) fun a h1 h2 => ?_, S1_one, if_pos ⟨hn, Nat.le_refl n⟩]
  by_cases h : a = n
  · subst h
    rw [if_pos rfl, Nat.mod_self, if_pos rfl, Nat.div_self h1, u1, if_pos rfl, Int.mul_one]
  · rw [if_neg h]
    split
    · rename_i h3
      have : a * (n / a) = n := Nat.mul_div_cancel' (Nat.dvd_of_mod_eq_zero h3)
      rw [u1, if_neg, Int.mul_zero]
      intro z
      rw [z] at this
      omega
    · rfl
theorem dv_unitL (hn : 1 ≤ n) : dv u1 f n = f n := by rw [dv_comm hn, dv_unitR hn]
theorem dv_last (n : Nat) (g f : Nat → Int) : dv g f (n + 1) = S1 n (fun a => if (n + 1) % a = 0 then g a * f ((n + 1) / a) else 0) + g (n + 1) * f 1 := by
  unfold dv
  simp only [S1]
  rw [Nat.mod_self, if_pos rfl, Nat.div_self (Nat.succ_pos n)]
theorem one_sq {z : Int} (h : z = 1 ∨ z = -1) : z * z = 1 := by
  rcases h with h | h <;> subst h <;> decide
/-- taken back -/
theorem inv_ex (f : Nat → Int) (h1 : f 1 = 1 ∨ f 1 = -1) : ∀ N, ∃ g : Nat → Int, ∀ n, 1 ≤ n → n ≤ N → dv g f n = u1 n
  | 0 => ⟨f, fun n h1 h2 => by omega⟩
  | N + 1 => by
    obtain ⟨g, hg⟩ := inv_ex f h1 N
    refine ⟨fun m => if m = N + 1 then f 1 * (u1 (N + 1) - S1 N (fun a => if (N + 1) % a = 0 then g a * f ((N + 1) / a) else 0)) else g m, fun n h2 h3 => ?_⟩
    by_cases e : n = N + 1
    · subst e
      rw [dv_last, if_pos rfl]
      rw [S1_congr (g := fun a => if (N + 1) % a = 0 then g a * f ((N + 1) / a) else 0) fun a _ h5 => by rw [if_neg (show ¬ a = N + 1 by omega)]]
      rw [Int.mul_comm (f 1), Int.mul_assoc, one_sq h1, Int.mul_one]
      omega
    · rw [← hg n h2 (by omega)]
      refine dv_congr h2 (fun a _ h5 => ?_) fun _ _ _ => rfl
      rw [if_neg (by omega)]
theorem inv_uniq {N : Nat} {g' : Nat → Int} (h1 : ∀ n, 1 ≤ n → n ≤ N → dv g f n = u1 n) (h2 : ∀ n, 1 ≤ n → n ≤ N → dv g' f n = u1 n) (hn : 1 ≤ n) (hN : n ≤ N) : g n = g' n := by
  have a1 : dv (dv g f) g' n = g' n := by
    rw [dv_congr (f' := u1) (g' := g') hn (fun a h3 h4 => h1 a h3 (by omega)) (fun _ _ _ => rfl), dv_unitL hn]
  have a2 : dv g (dv f g') n = g n := by
    rw [dv_congr (f' := g) (g' := u1) hn (fun _ _ _ => rfl) (fun a h3 h4 => by rw [dv_comm h3, h2 a h3 (by omega)]), dv_unitR hn]
  rw [← a2, ← dv_assoc hn, a1]
theorem inv_at1 {N : Nat} (hN : 1 ≤ N) (h : ∀ n, 1 ≤ n → n ≤ N → dv g f n = u1 n) : g 1 * f 1 = 1 := by
  have := h 1 (Nat.le_refl 1) hN
  simp only [dv, S1, u1, Nat.mod_self, Nat.div_self Nat.one_pos, if_pos rfl] at this
  simpa using this
end
/-! ### lists as tables -/
def tab (n : Nat) (F : Nat → Int) : List Int := (List.range n).map fun i => F (i + 1)
def at1 (xs : List Int) (m : Nat) : Int := xs.getD (m - 1) 0
section
variable {n m : Nat} {F G : Nat → Int} {xs ys zs : List Int}
@[simp] theorem tab_len : (tab n F).length = n := by simp [tab]
theorem tab_at (h1 : 1 ≤ m) (h2 : m ≤ n) : at1 (tab n F) m = F m := by
  unfold at1 tab
  rw [List.getD_eq_getElem?_getD, List.getElem?_map, List.getElem?_range (by omega)]
  show F (m - 1 + 1) = F m
  rw [show m - 1 + 1 = m by omega]
theorem tab_self (xs : List Int) : tab xs.length (at1 xs) = xs := by
  apply List.ext_getElem
  · simp
  · intro i h1 h2
    simp only [tab, List.getElem_map, List.getElem_range, at1]
    rw [show i + 1 - 1 = i by omega, List.getD_eq_getElem?_getD, List.getElem?_eq_getElem h2]
    rfl
theorem tab_congr (h : ∀ m, 1 ≤ m → m ≤ n → F m = G m) : tab n F = tab n G := by
  unfold tab
  refine List.map_congr_left fun i hi => h (i + 1) (by omega) ?_
  have := List.mem_range.mp hi
  omega
theorem tab_inj (h : tab n F = tab n G) (h1 : 1 ≤ m) (h2 : m ≤ n) : F m = G m := by
  rw [← tab_at (F := F) h1 h2, h, tab_at h1 h2]
theorem tab_set {v : Int} (h1 : 1 ≤ m) : (tab n F).set (m - 1) v = tab n fun k => if k = m then v else F k := by
  apply List.ext_getElem
  · simp
  · intro i h2 h3
    rw [List.getElem_set]
    simp only [tab, List.getElem_map, List.getElem_range]
    by_cases e : m - 1 = i
    · rw [if_pos e, if_pos (by omega)]
    · rw [if_neg e, if_neg (by omega)]
theorem tab_get (h1 : 1 ≤ m) (h2 : m ≤ n) : ((tab n F).map L2.V.int)[m - 1]? = some (.int (F m)) := by
  rw [List.getElem?_map, tab, List.getElem?_map, List.getElem?_range (by omega)]
  show some (L2.V.int (F (m - 1 + 1))) = _
  rw [show m - 1 + 1 = m by omega]
theorem tab_setV {v : Int} (h1 : 1 ≤ m) : ((tab n F).map L2.V.int).set (m - 1) (.int v) = (tab n fun k => if k = m then v else F k).map L2.V.int := by
  rw [← tab_set h1, List.map_set]
theorem at1_get (h1 : 1 ≤ m) (h2 : m ≤ xs.length) : (xs.map L2.V.int)[m - 1]? = some (.int (at1 xs m)) := by
  have := tab_get (F := at1 xs) h1 h2
  rwa [tab_self] at this
/-- two tables put together -/
def conv (xs ys : List Int) : List Int := tab xs.length (dv (at1 xs) (at1 ys))
@[simp] theorem conv_len : (conv xs ys).length = xs.length := by simp [conv]
theorem conv_comm (h : xs.length = ys.length) : conv xs ys = conv ys xs := by
  unfold conv
  rw [h]
  exact tab_congr fun m h1 _ => dv_comm h1
theorem conv_assoc (h : xs.length = ys.length) : conv (conv xs ys) zs = conv xs (conv ys zs) := by
  unfold conv
  rw [tab_len, ← h]
  refine tab_congr fun m h1 h2 => ?_
  rw [dv_congr (f' := dv (at1 xs) (at1 ys)) (g' := at1 zs) h1 (fun a h3 h4 => tab_at h3 (by omega)) (fun _ _ _ => rfl), dv_assoc h1]
  exact dv_congr h1 (fun _ _ _ => rfl) fun a h3 h4 => (tab_at h3 (by omega)).symm
/-- gs leads fs back to 1 at 1 alone -/
def Back (fs gs : List Int) : Prop := gs.length = fs.length ∧ ∀ n, 1 ≤ n → n ≤ fs.length → dv (at1 gs) (at1 fs) n = u1 n
theorem back_ex (fs : List Int) (h : at1 fs 1 = 1 ∨ at1 fs 1 = -1) : ∃ gs, Back fs gs := by
  obtain ⟨g, hg⟩ := inv_ex (at1 fs) h fs.length
  refine ⟨tab fs.length g, tab_len, fun n h1 h2 => ?_⟩
  rw [← hg n h1 h2]
  exact dv_congr h1 (fun a h3 h4 => tab_at h3 (by omega)) fun _ _ _ => rfl
theorem Back.sym {fs gs : List Int} (h : Back fs gs) : Back gs fs := ⟨h.1.symm, fun n h1 h2 => by rw [dv_comm h1, h.2 n h1 (by have := h.1; omega)]⟩
theorem Back.sign {fs gs : List Int} (h : Back fs gs) (hl : 1 ≤ fs.length) (h1 : at1 fs 1 = 1 ∨ at1 fs 1 = -1) : at1 gs 1 = at1 fs 1 := by
  have := inv_at1 hl h.2
  rcases h1 with e | e <;> rw [e] at this ⊢ <;> omega
theorem Back.conv {fs gs : List Int} (h : Back fs gs) : conv fs gs = tab fs.length u1 := tab_congr fun n h1 h2 => by rw [dv_comm h1, h.2 n h1 h2]
theorem unit_tab (n : Nat) : tab (n + 1) u1 = 1 :: List.replicate n 0 := by
  apply List.ext_getElem
  · simp
  · intro i h1 h2
    simp only [tab, List.getElem_map, List.getElem_range]
    cases i with
    | zero => rfl
    | succ i =>
      rw [List.getElem_cons_succ, List.getElem_replicate, u1, if_neg (by omega)]
end
end Sv

set_option Elab.async false
set_option linter.all false
set_option maxRecDepth 100000
set_option maxHeartbeats 4000000
/-! MMul: functions that go by shares (multiplicative ones): put together, taken back, built up of powers of primes; bounds. -/
namespace Sv
def Ml (N : Nat) (f : Nat → Int) : Prop := f 1 = 1 ∧ ∀ a b, 1 ≤ a → 1 ≤ b → a * b ≤ N → Nat.gcd a b = 1 → f (a * b) = f a * f b
section
variable {N m n : Nat} {f g F : Nat → Int}
theorem gcd_of_dvd {a b m n : Nat} (co : Nat.gcd m n = 1) (ha : a ∣ m) (hb : b ∣ n) : Nat.gcd a b = 1 := by
  have h1 : Nat.gcd a b ∣ Nat.gcd m n := Nat.dvd_gcd (Nat.dvd_trans (Nat.gcd_dvd_left a b) ha) (Nat.dvd_trans (Nat.gcd_dvd_right a b) hb)
  rw [co] at h1
  exact Nat.dvd_one.mp h1
theorem mod_dvd {m a : Nat} : m % a = 0 ↔ a ∣ m := ⟨Nat.dvd_of_mod_eq_zero, Nat.mod_eq_zero_of_dvd⟩
theorem pair_iff {m n a b c : Nat} (co : Nat.gcd m n = 1) (hc : (m * n) % c = 0) : (c = a * b ∧ m % a = 0 ∧ n % b = 0) ↔ (a = Nat.gcd c m ∧ b = Nat.gcd c n) := by
  constructor
  · rintro ⟨rfl, h1, h2⟩
    have d1 := mod_dvd.mp h1
    have d2 := mod_dvd.mp h2
    have c1 : Nat.Coprime b m := by
      have := gcd_of_dvd co (Nat.dvd_refl m) d2
      rwa [Nat.gcd_comm] at this
    have c2 : Nat.Coprime a n := gcd_of_dvd co d1 (Nat.dvd_refl n)
    refine ⟨?_, ?_⟩
    · rw [Nat.Coprime.gcd_mul_right_cancel a c1]
      exact (Nat.gcd_eq_left d1).symm
    · rw [Nat.Coprime.gcd_mul_left_cancel b c2]
      exact (Nat.gcd_eq_left d2).symm
  · rintro ⟨rfl, rfl⟩
    refine ⟨?_, mod_dvd.mpr (Nat.gcd_dvd_right c m), mod_dvd.mpr (Nat.gcd_dvd_right c n)⟩
    rw [← Nat.Coprime.gcd_mul c co, Nat.gcd_eq_left (mod_dvd.mp hc)]
theorem S1_pairs (hm : 1 ≤ m) (hn : 1 ≤ n) (co : Nat.gcd m n = 1) (F : Nat → Int) :
    S1 (m * n) (fun c => if (m * n) % c = 0 then F c else 0) = S1 m fun a => S1 n fun b => if m % a = 0 then (if n % b = 0 then F (a * b) else 0) else 0 := by
  have e1 : (S1 m fun a => S1 n fun b => if m % a = 0 then (if n % b = 0 then F (a * b) else 0) else 0) = S1 m fun a => S1 n fun b => S1 (m * n) fun c => if c = a * b then (if m % a = 0 then (if n % b = 0 then F c else 0) else 0) else 0 :=
    S1_congr fun a h1 h2 => S1_congr fun b h3 h4 => by
      rw [S1_one, if_pos (show 1 ≤ a * b ∧ a * b ≤ m * n from ⟨Nat.mul_pos h1 h3, Nat.mul_le_mul h2 h4⟩)]
  rw [e1, S1_congr fun a _ _ => S1_swap n (m * n) fun b c => _, S1_swap]
  refine S1_congr fun c h1 h2 => ?_
  by_cases hc : (m * n) % c = 0
  · rw [if_pos hc]
    have e2 : (S1 m fun a => S1 n fun b => if c = a * b then (if m % a = 0 then (if n % b = 0 then F c else 0) else 0) else 0) = S1 m fun a => if a = Nat.gcd c m then (S1 n fun b => if b = Nat.gcd c n then F c else 0) else 0 :=
      S1_congr fun a h3 h4 => by
        rw [ite_S1]
        refine S1_congr fun b h5 h6 => ?_
        have key := pair_iff (a := a) (b := b) co hc
        by_cases k : a = Nat.gcd c m ∧ b = Nat.gcd c n
        · obtain ⟨k1, k2, k3⟩ := key.mpr k
          rw [if_pos k1, if_pos k2, if_pos k3, if_pos k.1, if_pos k.2]
        · have nk : ¬ (c = a * b ∧ m % a = 0 ∧ n % b = 0) := fun z => k (key.mp z)
          have r : (if a = Nat.gcd c m then (if b = Nat.gcd c n then F c else 0) else 0) = 0 := by
            by_cases z1 : a = Nat.gcd c m
            · rw [if_pos z1, if_neg fun z2 => k ⟨z1, z2⟩]
            · rw [if_neg z1]
          rw [r]
          by_cases z1 : c = a * b
          · rw [if_pos z1]
            by_cases z2 : m % a = 0
            · rw [if_pos z2, if_neg fun z3 => nk ⟨z1, z2, z3⟩]
            · rw [if_neg z2]
          · rw [if_neg z1]
    rw [e2, S1_one, if_pos ⟨Nat.gcd_pos_of_pos_left _ h1, Nat.gcd_le_right _ hm⟩, S1_one, if_pos ⟨Nat.gcd_pos_of_pos_left _ h1, Nat.gcd_le_right _ hn⟩]
  · rw [if_neg hc]
    symm
    rw [S1_congr (g := fun _ => 0) fun a _ _ => ?_, S1_zero]
    rw [S1_congr (g := fun _ => 0) fun b _ _ => ?_, S1_zero]
    by_cases z1 : c = a * b
    · rw [if_pos z1]
      by_cases z2 : m % a = 0
      · rw [if_pos z2]
        by_cases z3 : n % b = 0
        · exact absurd (by rw [z1]; exact mod_dvd.mpr (Nat.mul_dvd_mul (mod_dvd.mp z2) (mod_dvd.mp z3))) hc
        · rw [if_neg z3]
      · rw [if_neg z2]
    · rw [if_neg z1]
theorem S1_prod (m n : Nat) (f g : Nat → Int) : S1 m f * S1 n g = S1 m fun a => S1 n fun b => f a * g b := by
  rw [← S1_mulR]
  exact S1_congr fun a _ _ => (S1_mulL n (f a) g).symm
theorem dv_one (f g : Nat → Int) : dv f g 1 = f 1 * g 1 := by
  simp [dv, S1]
theorem div_pairs {a b m n : Nat} (ha : m % a = 0) (hb : n % b = 0) : m * n / (a * b) = m / a * (n / b) := (Nat.div_mul_div_comm (mod_dvd.mp ha) (mod_dvd.mp hb)).symm
theorem div_gcd {a b m n : Nat} (co : Nat.gcd m n = 1) (ha : m % a = 0) (hb : n % b = 0) : Nat.gcd (m / a) (n / b) = 1 := gcd_of_dvd co (Nat.div_dvd_of_dvd (mod_dvd.mp ha)) (Nat.div_dvd_of_dvd (mod_dvd.mp hb))
theorem div_pos' {a m : Nat} (ha : 1 ≤ a) (h : a ≤ m) : 1 ≤ m / a := Nat.div_pos h ha
theorem div_le_pairs {a b m n : Nat} (hN : m * n ≤ N) : m / a * (n / b) ≤ N := Nat.le_trans (Nat.mul_le_mul (Nat.div_le_self _ _) (Nat.div_le_self _ _)) hN
theorem im4 (a b c d : Int) : a * b * (c * d) = a * c * (b * d) := by rw [Int.mul_assoc, Int.mul_left_comm b, ← Int.mul_assoc]
/-- two that go by shares, put together, do -/
theorem ml_dv (hf : Ml N f) (hg : Ml N g) : Ml N (dv f g) := by
  refine ⟨by rw [dv_one, hf.1, hg.1]; rfl, fun m n hm hn hN co => ?_⟩
  have e : dv f g (m * n) = S1 (m * n) fun c => if (m * n) % c = 0 then (fun c => f c * g (m * n / c)) c else 0 := rfl
  rw [e, S1_pairs hm hn co]
  unfold dv
  rw [S1_prod]
  refine S1_congr fun a h1 h2 => S1_congr fun b h3 h4 => ?_
  by_cases z1 : m % a = 0
  · by_cases z2 : n % b = 0
    · simp only [if_pos z1, if_pos z2]
      rw [div_pairs z1 z2, hf.2 a b h1 h3 (Nat.le_trans (Nat.mul_le_mul h2 h4) hN) (gcd_of_dvd co (mod_dvd.mp z1) (mod_dvd.mp z2)), hg.2 _ _ (div_pos' h1 h2) (div_pos' h3 h4) (div_le_pairs hN) (div_gcd co z1 z2)]
      rw [im4]
    · simp only [if_pos z1, if_neg z2, Int.mul_zero]
  · simp only [if_neg z1, Int.zero_mul]
/-- .. taken back -/
theorem ml_inv (hf : Ml N f) (hN1 : 1 ≤ N) (hg : ∀ n, 1 ≤ n → n ≤ N → dv g f n = u1 n) : Ml N g := by
  have g1 : g 1 = 1 := by
    have := inv_at1 hN1 hg
    rwa [hf.1, Int.mul_one] at this
  refine ⟨g1, ?_⟩
  have main : ∀ k m n, m * n = k → 1 ≤ m → 1 ≤ n → m * n ≤ N → Nat.gcd m n = 1 → g (m * n) = g m * g n := by
    intro k
    induction k using Nat.strongRecOn with
    | _ k ih =>
      intro m n hk hm hn hN co
      by_cases e1 : m = 1
      · subst e1
        rw [Nat.one_mul, g1, Int.one_mul]
      by_cases e2 : n = 1
      · subst e2
        rw [Nat.mul_one, g1, Int.mul_one]
      have hmN : m ≤ N := Nat.le_trans (Nat.le_mul_of_pos_right m hn) hN
      have hnN : n ≤ N := Nat.le_trans (Nat.le_mul_of_pos_left n hm) hN
      have hmn1 : m * n ≠ 1 := fun z => e1 (Nat.eq_one_of_mul_eq_one_right z)
      have h0 : dv g f (m * n) = 0 := by rw [hg _ (Nat.mul_pos hm hn) hN, u1, if_neg hmn1]
      have hm0 : dv g f m = 0 := by rw [hg _ hm hmN, u1, if_neg e1]
      have e : dv g f (m * n) = S1 (m * n) fun c => if (m * n) % c = 0 then (fun c => g c * f (m * n / c)) c else 0 := rfl
      rw [e, S1_pairs hm hn co] at h0
      have t : (S1 m fun a => S1 n fun b => if m % a = 0 then (if n % b = 0 then (fun c => g c * f (m * n / c)) (a * b) else 0) else 0) =
          (S1 m fun a => S1 n fun b => (if m % a = 0 then g a * f (m / a) else 0) * (if n % b = 0 then g b * f (n / b) else 0)) + S1 m fun a => if a = m then (S1 n fun b => if b = n then g (m * n) - g m * g n else 0) else 0 := by
        rw [← S1_add]
        refine S1_congr fun a h1 h2 => ?_
        rw [ite_S1, ← S1_add]
        refine S1_congr fun b h3 h4 => ?_
        by_cases z1 : m % a = 0
        · by_cases z2 : n % b = 0
          · simp only [if_pos z1, if_pos z2]
            rw [div_pairs z1 z2, hf.2 _ _ (div_pos' h1 h2) (div_pos' h3 h4) (div_le_pairs hN) (div_gcd co z1 z2)]
            by_cases kk : a = m ∧ b = n
            · obtain ⟨rfl, rfl⟩ := kk
              rw [if_pos rfl, if_pos rfl]
              rw [Nat.div_self hm, Nat.div_self hn, hf.1]
              simp only [Int.mul_one]
              omega
            · have r : (if a = m then (if b = n then g (m * n) - g m * g n else 0) else 0) = 0 := by
                by_cases z1 : a = m
                · rw [if_pos z1, if_neg fun z2 => kk ⟨z1, z2⟩]
                · rw [if_neg z1]
              rw [r]
              have lt : a * b < k := by
                rcases Nat.lt_or_ge a m with z | z
                · exact Nat.lt_of_lt_of_le (Nat.mul_lt_mul_of_pos_right z h3) (by rw [← hk]; exact Nat.mul_le_mul_left m h4)
                · have ea : a = m := Nat.le_antisymm h2 z
                  have lb : b < n := Nat.lt_of_le_of_ne h4 fun y => kk ⟨ea, y⟩
                  rw [← hk, ea]
                  exact Nat.mul_lt_mul_of_pos_left lb hm
              rw [ih (a * b) lt a b rfl h1 h3 (Nat.le_trans (Nat.mul_le_mul h2 h4) hN) (gcd_of_dvd co (mod_dvd.mp z1) (mod_dvd.mp z2)), im4, Int.add_zero]
          · have nb : b ≠ n := fun z => z2 (by rw [z, Nat.mod_self])
            simp only [if_pos z1, if_neg z2, if_neg nb, Int.mul_zero]
            split <;> rfl
        · have na : a ≠ m := fun z => z1 (by rw [z, Nat.mod_self])
          simp only [if_neg z1, if_neg na, Int.zero_mul]
          rfl
      rw [t, ← S1_prod, S1_one, if_pos ⟨hm, Nat.le_refl m⟩, S1_one, if_pos ⟨hn, Nat.le_refl n⟩] at h0
      have z : S1 m (fun a => if m % a = 0 then g a * f (m / a) else 0) = 0 := hm0
      rw [z, Int.zero_mul] at h0
      omega
  exact fun a b => main (a * b) a b rfl
/-! ### built up of powers of primes -/
def IsPart (n q : Nat) : Prop := ∃ p k, 2 ≤ p ∧ p ∣ n ∧ (∀ d, 2 ≤ d → d ∣ n → p ≤ d) ∧ 1 ≤ k ∧ q = p ^ k ∧ p ^ k ∣ n ∧ ¬ p ^ (k + 1) ∣ n
theorem IsPart.uniq {n q q' : Nat} (h : IsPart n q) (h' : IsPart n q') : q = q' := by
  obtain ⟨p, k, a1, a2, a3, a4, rfl, a6, a7⟩ := h
  obtain ⟨p', k', b1, b2, b3, b4, rfl, b6, b7⟩ := h'
  have e : p = p' := Nat.le_antisymm (a3 p' b1 b2) (b3 p a1 a2)
  subst e
  have e2 : k = k' := by
    rcases Nat.lt_trichotomy k k' with z | z | z
    · exact absurd (Nat.dvd_trans (Nat.pow_dvd_pow p z) b6) a7
    · exact z
    · exact absurd (Nat.dvd_trans (Nat.pow_dvd_pow p z) a6) b7
  rw [e2]
theorem IsPart.dvd {n q : Nat} (h : IsPart n q) : q ∣ n := by
  obtain ⟨p, k, _, _, _, _, rfl, a6, _⟩ := h
  exact a6
theorem IsPart.two {n q : Nat} (h : IsPart n q) : 2 ≤ q := by
  obtain ⟨p, k, a1, _, _, a4, rfl, _, _⟩ := h
  calc 2 ≤ p := a1
    _ = p ^ 1 := (Nat.pow_one p).symm
    _ ≤ p ^ k := Nat.pow_le_pow_right (by omega) a4
/-- what the law builds -/
def Bu (N : Nat) (F : Nat → Int) : Prop := F 1 = 1 ∧ ∀ n, 2 ≤ n → n ≤ N → ∃ q, IsPart n q ∧ (q = n → -3 ≤ F n ∧ F n ≤ 3) ∧ (q ≠ n → F n = F q * F (n / q))
theorem ml_bu (h : Bu N F) : Ml N F := by
  refine ⟨h.1, ?_⟩
  have main : ∀ k a b, a * b = k → 1 ≤ a → 1 ≤ b → a * b ≤ N → Nat.gcd a b = 1 → F (a * b) = F a * F b := by
    intro k
    induction k using Nat.strongRecOn with
    | _ k ih =>
      have core : ∀ a b q p j, a * b = k → 1 < a → 1 < b → a * b ≤ N → Nat.gcd a b = 1 → 2 ≤ p → p ∣ a → (∀ d, 2 ≤ d → d ∣ a * b → p ≤ d) → 1 ≤ j → q = p ^ j → p ^ j ∣ a * b → ¬ p ^ (j + 1) ∣ a * b → (q ≠ a * b → F (a * b) = F q * F (a * b / q)) → F (a * b) = F a * F b := by
        intro a b q p j hk ha hb hN co p2 pa pl j1 eq pd pn hF
        have cpb : Nat.Coprime p b := gcd_of_dvd co pa (Nat.dvd_refl b)
        have qa : q ∣ a := by
          rw [eq]
          exact Nat.Coprime.dvd_of_dvd_mul_right (Nat.Coprime.pow_left j cpb) pd
        have hq2 : 2 ≤ q := IsPart.two (n := a * b) ⟨p, j, p2, Nat.dvd_trans pa (Nat.dvd_mul_right a b), pl, j1, eq, pd, pn⟩
        have pq : IsPart a q := ⟨p, j, p2, pa, fun d d2 da => pl d d2 (Nat.dvd_trans da (Nat.dvd_mul_right a b)), j1, eq, eq ▸ qa, fun z => pn (Nat.dvd_trans z (Nat.dvd_mul_right a b))⟩
        obtain ⟨c, rfl⟩ := qa
        have c1 : 1 ≤ c := by
          rcases Nat.eq_zero_or_pos c with z | z
          · rw [z] at ha
            omega
          · exact z
        have qlt : q * c < q * c * b := by
          have := Nat.mul_lt_mul_of_pos_left hb (show 0 < q * c by omega)
          rwa [Nat.mul_one] at this
        have qle : q ≤ q * c := Nat.le_mul_of_pos_right q c1
        have e1 : q * c * b / q = c * b := by
          rw [Nat.mul_assoc, Nat.mul_div_cancel_left _ (by omega)]
        rw [hF (by omega), e1]
        have cb : c * b < k := by
          rw [← hk, Nat.mul_assoc]
          have := Nat.mul_lt_mul_of_pos_right (show 1 < q by omega) (show 0 < c * b from Nat.mul_pos c1 (by omega))
          rwa [Nat.one_mul] at this
        rw [ih (c * b) cb c b rfl c1 (by omega) (by omega) (gcd_of_dvd co (Nat.dvd_mul_left c q) (Nat.dvd_refl b)), ← Int.mul_assoc]
        congr 1
        by_cases e : c = 1
        · subst e
          rw [h.1, Int.mul_one, Nat.mul_one]
        · obtain ⟨q', h1, _, h3⟩ := h.2 (q * c) (by omega) (by omega)
          have := pq.uniq h1
          subst this
          have ne : q ≠ q * c := fun z => by
            have := Nat.mul_lt_mul_of_pos_left (show 1 < c by omega) (show 0 < q by omega)
            omega
          rw [h3 ne, Nat.mul_div_cancel_left _ (by omega)]
      intro a b hk ha hb hN co
      by_cases e1 : a = 1
      · subst e1
        rw [Nat.one_mul, h.1, Int.one_mul]
      by_cases e2 : b = 1
      · subst e2
        rw [Nat.mul_one, h.1, Int.mul_one]
      have n2 : 2 ≤ a * b := Nat.le_trans (show 2 ≤ a by omega) (Nat.le_mul_of_pos_right a hb)
      obtain ⟨q, ⟨p, j, p2, pd0, pl, j1, eq, pd, pn⟩, _, hF⟩ := h.2 (a * b) n2 hN
      by_cases pa : p ∣ a
      · exact core a b q p j hk (by omega) (by omega) hN co p2 pa pl j1 eq pd pn hF
      · have cpa : Nat.Coprime p a := by
          have d1 : Nat.gcd p a ∣ a * b := Nat.dvd_trans (Nat.gcd_dvd_right p a) (Nat.dvd_mul_right a b)
          rcases Nat.lt_or_ge (Nat.gcd p a) 2 with z | z
          · have : 0 < Nat.gcd p a := Nat.gcd_pos_of_pos_left _ (by omega)
            show Nat.gcd p a = 1
            omega
          · have l := pl _ z d1
            have l2 : Nat.gcd p a ≤ p := Nat.gcd_le_left _ (by omega)
            have e : Nat.gcd p a = p := Nat.le_antisymm l2 l
            exact absurd (e ▸ Nat.gcd_dvd_right p a) pa
        have pb : p ∣ b := Nat.Coprime.dvd_of_dvd_mul_left cpa pd0
        rw [Nat.mul_comm a b] at hk hN pl pd pn hF ⊢
        rw [Int.mul_comm]
        exact core b a q p j hk (by omega) (by omega) hN (by rw [Nat.gcd_comm]; exact co) p2 pb pl j1 eq pd pn hF
  exact fun a b => main (a * b) a b rfl
/-! ### bounds -/
theorem S1_abs {M : Nat} (h : ∀ a, 1 ≤ a → a ≤ n → (f a).natAbs ≤ M) : (S1 n f).natAbs ≤ n * M := by
  induction n with
  | zero => simp [S1]
  | succ n ih =>
    simp only [S1]
    have h1 := ih fun a h1 h2 => h a h1 (by omega)
    have h2 := h (n + 1) (by omega) (by omega)
    rw [Nat.succ_mul]
    exact Nat.le_trans (Int.natAbs_add_le _ _) (Nat.add_le_add h1 h2)
theorem dv_abs {A B : Nat} (hn : 1 ≤ n) (hf : ∀ a, 1 ≤ a → a ≤ n → (f a).natAbs ≤ A) (hg : ∀ a, 1 ≤ a → a ≤ n → (g a).natAbs ≤ B) : (dv f g n).natAbs ≤ n * (A * B) := by
  refine S1_abs fun a h1 h2 => ?_
  split
  · rw [Int.natAbs_mul]
    exact Nat.mul_le_mul (hf a h1 h2) (hg _ (Nat.div_pos h2 h1) (Nat.div_le_self _ _))
  · simp
theorem bu_abs (h : Bu N F) : ∀ n, 1 ≤ n → n ≤ N → (F n).natAbs ≤ 2 ^ (2 * n) := by
  intro n
  induction n using Nat.strongRecOn with
  | _ n ih =>
    intro h1 h2
    by_cases e : n = 1
    · subst e
      rw [h.1]
      decide
    obtain ⟨q, hq, ha, hb⟩ := h.2 n (by omega) h2
    by_cases eq : q = n
    · have := ha eq
      have : (F n).natAbs ≤ 2 ^ 2 := by
        show _ ≤ 4
        omega
      exact Nat.le_trans this (Nat.pow_le_pow_right (by decide) (by omega))
    · rw [hb eq, Int.natAbs_mul]
      obtain ⟨c, hc⟩ := hq.dvd
      have q2 := hq.two
      have c2 : 2 ≤ c := by
        rcases Nat.lt_or_ge c 2 with z | z
        · have : c = 0 ∨ c = 1 := by omega
          rcases this with y | y <;> subst y <;> simp at hc <;> omega
        · exact z
      have ed : n / q = c := by rw [hc, Nat.mul_div_cancel_left _ (by omega)]
      have sum : q + c ≤ n := by
        obtain ⟨x, rfl⟩ : ∃ x, q = x + 2 := ⟨q - 2, by omega⟩
        obtain ⟨y, rfl⟩ : ∃ y, c = y + 2 := ⟨c - 2, by omega⟩
        rw [hc, Nat.add_mul, Nat.mul_add]
        omega
      rw [ed]
      refine Nat.le_trans (Nat.mul_le_mul (ih q (by omega) (by omega) (by omega)) (ih c (by omega) (by omega) (by omega))) ?_
      rw [← Nat.pow_add]
      exact Nat.pow_le_pow_right (by decide) (by omega)
theorem inv_abs {N : Nat} (hN : N ≤ 63) (f1 : f 1 = 1) (hf : ∀ n, 1 ≤ n → n ≤ N → (f n).natAbs ≤ 2 ^ 130) (hg : ∀ n, 1 ≤ n → n ≤ N → dv g f n = u1 n) : ∀ n, 1 ≤ n → n ≤ N → (g n).natAbs ≤ 2 ^ (140 * n) := by
  intro n
  induction n using Nat.strongRecOn with
  | _ n ih =>
    intro h1 h2
    obtain ⟨k, rfl⟩ : ∃ k, n = k + 1 := ⟨n - 1, by omega⟩
    have e := hg (k + 1) h1 h2
    rw [dv_last, f1, Int.mul_one] at e
    have b : (S1 k fun a => if (k + 1) % a = 0 then g a * f ((k + 1) / a) else 0).natAbs ≤ k * (2 ^ (140 * k) * 2 ^ 130) := S1_abs fun a h3 h4 => by
      split
      · rw [Int.natAbs_mul]
        refine Nat.mul_le_mul (Nat.le_trans (ih a (by omega) h3 (by omega)) (Nat.pow_le_pow_right (by decide) (by omega))) (hf _ (Nat.div_pos (by omega) h3) (Nat.le_trans (Nat.div_le_self _ _) h2))
      · simp
    have u : (u1 (k + 1)).natAbs ≤ 1 := by
      unfold u1
      split <;> decide
    have z : (g (k + 1)).natAbs ≤ 1 + k * (2 ^ (140 * k) * 2 ^ 130) := by omega
    refine Nat.le_trans z ?_
    rw [show 140 * (k + 1) = 140 * k + 140 by omega, Nat.pow_add]
    have p : 1 ≤ 2 ^ (140 * k) := Nat.one_le_two_pow
    generalize 2 ^ (140 * k) = P at *
    have q1 : k * (P * 2 ^ 130) ≤ 63 * (P * 2 ^ 130) := Nat.mul_le_mul_right _ (by omega)
    omega
end
end Sv

set_option Elab.async false
set_option linter.all false
set_option maxRecDepth 100000
set_option maxHeartbeats 4000000
namespace Sv
open PySem PySem.Spec PyProof.Rows L2 Evl
local macro_rules | `(tactic| walk_at "ev") => `(tactic| (repeat' (first | exact ev_var rfl | exact ev_c | exact rv_I0 | exact ea_nil | exact ru_neg | exact rv_eq rfl | exact rv_ne rfl | apply ev_op | apply rv_I | apply ev_un | apply et_test | apply et_B | apply et_not | apply ea_cons | apply ev_maxI | apply ev_minI)))
/-! ### a cell of the script, a drawn number -/
def cellS (ns : List Int) (k : Nat) : Int := if ns = [] then (k : Int) * 7919 else ns.getD (k % ns.length) 0 + ((k / ns.length : Nat) : Int) * 104729
def dP1 : Int := 340282366920938463463374607431768211507
def drawn (c k : Int) : Int :=
  let m1 := (c * 6364136223846793005 + (k + 1) * 1442695040888963407) % 340282366920938463463374607431768211507
  let m2 := m1 * m1 % 340282366920938463463374607431768211297
  let m3 := (m2 % 18446744073709551557 + 1) * (m2 / 18446744073709551557 + 1) * m2
  m3 % 340282366920938463463374607431768211507
theorem drawn_nn (c k : Int) : 0 ≤ drawn c k := Int.emod_nonneg _ (by decide)
theorem drawn_lt (c k : Int) : drawn c k < 340282366920938463463374607431768211507 := Int.emod_lt_of_pos _ (by decide)
def R__law_cell (G : Pm) : R2' := fun x y H Q _ => ∃ (a : Addr) (ns : List Int) (k : Nat), x = .ref a ∧ y = .int (k : Int) ∧ SqL G.K H a (ns.map V.int) ∧ ns.length ≤ 63 ∧ k ≤ 1000 ∧ RetV (.int (cellS ns k)) H Q
def R__law_drawn (G : Pm) : R2' := fun x y H Q _ => ∃ c k : Int, x = .int c ∧ y = .int k ∧ 0 ≤ k ∧ k ≤ 1000000 ∧ RetV (.int (drawn c k)) H Q
abbrev n__law_cell : List Str := ["_law_script", "_law_k"]
abbrev p__law_cell : List Str := ["_law_script", "_law_k"]
def sp__law_cell (G : Pm) : Sp := sp2 (R__law_cell G)
def t__law_cell (G : Pm) (E : XK) : TS :=
  (tSeq (tIfS (tTest (tOp (rEqD G.K) (tVar 0) (tLst tNil)))
  (tRet (tOp oMul (tVar 1) (tC (.int 7919))))
  tNext)
  (tRet (tOp oAdd (tOp (rIxL G.K) (tVar 0) (tOp oMod (tVar 1) (tCB (bLenQ G.K) (tCons (tVar 0) tNil)))) (tOp oMul (tOp oDiv (tVar 1) (tCB (bLenQ G.K) (tCons (tVar 0) tNil))) (tC (.int 104729))))))
def P__law_cell (G : Pm) : Prop := ∀ x0 x1 H Q E, R__law_cell G x0 x1 H Q E → t__law_cell G E (dn Q) (start n__law_cell [x0, x1]) H
abbrev n__law_drawn : List Str := ["_law_cell_here", "_law_k", "_law_more"]
abbrev p__law_drawn : List Str := ["_law_cell_here", "_law_k"]
def sp__law_drawn (G : Pm) : Sp := sp2 (R__law_drawn G)
def t__law_drawn (G : Pm) (E : XK) : TS :=
  (tSeq (tAsg (tOp oMod (tOp oAdd (tOp oMul (tVar 0) (tC (.int 6364136223846793005))) (tOp oMul (tOp oAdd (tVar 1) (tC (.int 1))) (tC (.int 1442695040888963407)))) (tC (.int 340282366920938463463374607431768211507))) (gName 2))
  (tSeq (tAsg (tOp oMod (tOp oMul (tVar 2) (tVar 2)) (tC (.int 340282366920938463463374607431768211297))) (gName 2))
  (tSeq (tAsg (tOp oMul (tOp oMul (tOp oAdd (tOp oMod (tVar 2) (tC (.int 18446744073709551557))) (tC (.int 1))) (tOp oAdd (tOp oDiv (tVar 2) (tC (.int 18446744073709551557))) (tC (.int 1)))) (tVar 2)) (gName 2))
  (tRet (tOp oMod (tVar 2) (tC (.int 340282366920938463463374607431768211507)))))))
def P__law_drawn (G : Pm) : Prop := ∀ x0 x1 H Q E, R__law_drawn G x0 x1 H Q E → t__law_drawn G E (dn Q) (start n__law_drawn [x0, x1]) H
theorem cm_r {i j : Int} (h1 : -(2 ^ 64) < j) (h2 : j < 2 ^ 64) : CM i j := .inl (.inr ⟨h1, h2⟩)
theorem cm_l {i j : Int} (h1 : -(2 ^ 64) < i) (h2 : i < 2 ^ 64) : CM i j := .inl (.inl ⟨h1, h2⟩)
theorem cdiv_w {i j : Int} (h : 0 < j) (h2 : j < 2 ^ 62) : CDivW i j := wide_div (b := 62) h (by omega) (by decide) (by decide)
theorem pure__law_cell (G : Pm) : P__law_cell G := by
  intro x0 x1 H Q E h
  obtain ⟨a, ns, k, rfl, rfl, hS, hl, hk, q⟩ := h
  refine q_when (b := decide (ns = [])) ?_ (fun hb H1 e1 => ?_) (fun hb H1 e1 => ?_)
  · refine et_test (ev_is (ev_opL (ev_var rfl) (el_lst ea_nil (Nat.zero_le _)) fun p H1 h1 e1 => rv_eqD (dp_il (ex_l e1 hS)) (dp_il (ns := []) (sq_of h1)) (sh_il _) (sh_il _)) ?_)
    rw [eqv_il]
  · have e0 : ns = [] := of_decide_eq_true hb
    refine s_ret (v := .int ((k : Int) * 7919)) ?_ fun H2 e2 => ?_
    · walk_at "ev"
      exact cm_r (by decide) (by decide)
    · have := q.go (e1.trans e2)
      unfold cellS at this
      rw [if_pos e0] at this
      exact this
  · have e0 : ns ≠ [] := of_decide_eq_false hb
    have lp : 0 < ns.length := List.length_pos_iff.mpr e0
    have lq : (0 : Int) < ((ns.map V.int).length : Int) := by
      rw [List.length_map]
      omega
    have hS1 := ex_l e1 hS
    have hm : k % ns.length < ns.length := Nat.mod_lt _ lp
    refine s_ret (v := .int (cellS ns k)) ?_ fun H2 e2 => q.go (e1.trans e2)
    refine ev_is (ev_op (ev_op (ev_var rfl) (ev_op (ev_var rfl) (ev_lenL (ev_var rfl) hS1) (rv_I lq)) (rv_ixL hS1 (v := .int (ns.getD (k % ns.length) 0)) ?_)) (ev_op (ev_op (ev_var rfl) (ev_lenL (ev_var rfl) hS1) (rv_I (cdiv_w lq ?_))) ev_c (rv_I (cm_r (by decide) (by decide)))) rv_I0) ?_
    · rw [List.length_map, ← Int.natCast_emod]
      refine atI_nat ?_
      rw [List.getElem?_map, List.getElem?_eq_getElem hm, List.getD_eq_getElem?_getD, List.getElem?_eq_getElem hm]
      rfl
    · rw [List.length_map]
      omega
    · rw [List.length_map, ← Int.natCast_ediv]
      unfold cellS
      rw [if_neg e0]
theorem two_128 : (340282366920938463463374607431768211507 : Int) < 2 ^ 129 := by decide
theorem na_lt {i : Int} {n : Nat} (h0 : 0 ≤ i) (h : i < 2 ^ n) : i.natAbs < 2 ^ n := by
  have e : ((2 ^ n : Nat) : Int) = (2 : Int) ^ n := by
    rw [Int.natCast_pow]
    rfl
  omega
theorem pure__law_drawn (G : Pm) : P__law_drawn G := by
  intro x0 x1 H Q E h
  obtain ⟨c, k, rfl, rfl, k0, k1, q⟩ := h
  have a0 : 0 ≤ (c * 6364136223846793005 + (k + 1) * 1442695040888963407) % 340282366920938463463374607431768211507 := Int.emod_nonneg _ (by decide)
  have a1 : (c * 6364136223846793005 + (k + 1) * 1442695040888963407) % 340282366920938463463374607431768211507 < 2 ^ 129 := Int.lt_trans (Int.emod_lt_of_pos _ (by decide)) two_128
  refine q_asg (v := .int ((c * 6364136223846793005 + (k + 1) * 1442695040888963407) % 340282366920938463463374607431768211507)) ?_ fun H1 e1 => ?_
  · walk_at "ev"
    · exact cm_r (by decide) (by decide)
    · exact cm_r (by decide) (by decide)
    · decide
  generalize hm1 : (c * 6364136223846793005 + (k + 1) * 1442695040888963407) % 340282366920938463463374607431768211507 = m1 at *
  have b0 : 0 ≤ m1 * m1 % 340282366920938463463374607431768211297 := Int.emod_nonneg _ (by decide)
  have b1 : m1 * m1 % 340282366920938463463374607431768211297 < 340282366920938463463374607431768211297 := Int.emod_lt_of_pos _ (by decide)
  refine q_asg (v := .int (m1 * m1 % 340282366920938463463374607431768211297)) ?_ fun H2 e2 => ?_
  · walk_at "ev"
    · exact .inr (wide_mul (a := 129) (b := 129) (na_lt a0 a1) (na_lt a0 a1) (by decide) (by decide) (by decide))
    · decide
  generalize hm2 : m1 * m1 % 340282366920938463463374607431768211297 = m2 at *
  refine q_asg (v := .int ((m2 % 18446744073709551557 + 1) * (m2 / 18446744073709551557 + 1) * m2)) ?_ fun H3 e3 => ?_
  · have d0 : 0 ≤ m2 % 18446744073709551557 := Int.emod_nonneg _ (by decide)
    have d1 : m2 % 18446744073709551557 < 18446744073709551557 := Int.emod_lt_of_pos _ (by decide)
    have f0 : 0 ≤ m2 / 18446744073709551557 := by omega
    have f1 : m2 / 18446744073709551557 < 2 ^ 65 := by omega
    walk_at "ev"
    · decide
    · exact wide_div (b := 64) (by decide) (by decide) (by decide) (by decide)
    · exact cm_l (by omega) (by omega)
    · refine .inr (wide_mul (a := 200) (b := 129) (Nat.lt_of_lt_of_le (wide_lt (a := 65) (b := 66) (na_lt (by omega) (by omega)) (na_lt (by omega) (by omega))) (by decide)) (na_lt b0 (by omega)) (by decide) (by decide) (by decide))
  refine s_ret (v := .int (drawn c k)) ?_ fun H4 e4 => q.go (((e1.trans e2).trans e3).trans e4)
  refine ev_is (v := .int ((m2 % 18446744073709551557 + 1) * (m2 / 18446744073709551557 + 1) * m2 % 340282366920938463463374607431768211507)) ?_ ?_
  · walk_at "ev"
    decide
  · unfold drawn
    rw [hm1]
    dsimp only
    rw [hm2]
end Sv

set_option Elab.async false
set_option linter.all false
set_option maxRecDepth 100000
set_option maxHeartbeats 4000000
namespace Sv
open PySem PySem.Spec PyProof.Rows L2 Evl HotX L2H LamX
local macro_rules | `(tactic| walk_at "ev") => `(tactic| (repeat' (first | exact ev_var rfl | exact ev_c | exact rv_I0 | exact ea_nil | exact ru_neg | exact rv_eq rfl | exact rv_ne rfl | apply ev_op | apply rv_I | apply ev_un | apply et_test | apply et_B | apply et_not | apply ea_cons | apply ev_maxI | apply ev_minI)))
/-! ### tables: the specs -/
def isI : V → Bool
  | .int _ => true
  | _ => false
def IsTab (K : PySem.W.Frag) (H : Hp) (x : V) (ns : List Int) : Prop := ∃ p, x = .ref p ∧ SqL K H p (ns.map V.int) ∧ 1 ≤ ns.length ∧ ns.length ≤ 500
/-- what is no table -/
def Odd (K : PySem.W.Frag) (H : Hp) (x : V) : Prop := (∃ m, (∀ H1, Ex H H1 → TyX K H1 x (.type m)) ∧ kitB m "list" = some false) ∨
  ∃ p xs, x = .ref p ∧ SqL K H p xs ∧ (xs.length = 0 ∨ 500 < xs.length ∨ (1 ≤ xs.length ∧ xs.length ≤ 500 ∧ xs.all flatV = true ∧ xs.all isI = false))
theorem IsTab.ex {K : PySem.W.Frag} {H H' : Hp} {x : V} {ns : List Int} (e : Ex H H') (h : IsTab K H x ns) : IsTab K H' x ns := by
  obtain ⟨p, h1, h2, h3, h4⟩ := h
  exact ⟨p, h1, ex_l e h2, h3, h4⟩
theorem Odd.ex {K : PySem.W.Frag} {H H' : Hp} {x : V} (e : Ex H H') (h : Odd K H x) : Odd K H' x := by
  rcases h with ⟨m, h1, h2⟩ | ⟨p, xs, h1, h2, h3⟩
  · exact .inl ⟨m, fun H1 e1 => h1 H1 (e.trans e1), h2⟩
  · exact .inr ⟨p, xs, h1, ex_l e h2, h3⟩
def Sm (ns : List Int) : Prop := ∀ z ∈ ns, -(2 ^ 64) < z ∧ z < 2 ^ 64
/-- the products of theirs are within what the machine takes -/
def Cmp (xs ys : List Int) : Prop := ∀ z ∈ xs, ∀ w ∈ ys, CM z w
theorem cmpS {xs ys : List Int} (h : Sm xs ∨ Sm ys) : Cmp xs ys := fun z hz w hw => by
  rcases h with h | h
  · exact cm_l (h z hz).1 (h z hz).2
  · exact cm_r (h w hw).1 (h w hw).2
theorem cmpW {xs ys : List Int} {a b : Nat} (h1 : ∀ z ∈ xs, z.natAbs < 2 ^ a) (h2 : ∀ z ∈ ys, z.natAbs < 2 ^ b) (ha : 0 < a) (hb : 0 < b) (h : a + b ≤ 1000000) : Cmp xs ys := fun z hz w hw => .inr (wide_mul (h1 z hz) (h2 w hw) ha hb h)
/-- a refusal -/
def No (C : Addr) (H : Hp) (E : XK) : Prop := ∀ H', Ex H H' → E (.ref C) none H'
theorem No.ex {C : Addr} {H H' : Hp} {E : XK} (e : Ex H H') (h : No C H E) : No C H' E := fun H1 e1 => h H1 (e.trans e1)
theorem RetV.ex {v : V} {H H' : Hp} {Q : VK} (e : Ex H H') (h : RetV v H Q) : RetV v H' Q := fun H1 e1 => h H1 (e.trans e1)
theorem RetL.ex {xs : List V} {H H' : Hp} {Q : VK} (e : Ex H H') (h : RetL xs H Q) : RetL xs H' Q := fun p H1 hp e1 h1 => h p H1 (fresh_back e hp) (e.trans e1) h1
def R_need_table (G : Pm) : R1 := fun x H Q E => (∃ ns, IsTab G.K H x ns ∧ RetV .non H Q) ∨ (Odd G.K H x ∧ No G.BadTable H E)
def R_together (G : Pm) : R2' := fun x y H Q E => (∃ xs ys, IsTab G.K H x xs ∧ IsTab G.K H y ys ∧ xs.length = ys.length ∧ Cmp xs ys ∧ RetL ((conv xs ys).map V.int) H Q) ∨
  (Odd G.K H x ∧ No G.BadTable H E) ∨ (∃ xs, IsTab G.K H x xs ∧ Odd G.K H y ∧ No G.BadTable H E) ∨ ∃ xs ys, IsTab G.K H x xs ∧ IsTab G.K H y ys ∧ xs.length ≠ ys.length ∧ No G.Unlike H E
def R_need_sign (G : Pm) : R1 := fun x H Q E => ∃ z : Int, x = .int z ∧ (((z = 1 ∨ z = -1) ∧ RetV .non H Q) ∨ (¬ (z = 1 ∨ z = -1) ∧ No G.NoWay H E))
def R_taken_back (G : Pm) : R1 := fun x H Q E => (∃ fs gs, IsTab G.K H x fs ∧ Back fs gs ∧ (at1 fs 1 = 1 ∨ at1 fs 1 = -1) ∧ Cmp gs fs ∧ RetL (gs.map V.int) H Q) ∨
  (Odd G.K H x ∧ No G.BadTable H E) ∨ ∃ fs, IsTab G.K H x fs ∧ ¬ (at1 fs 1 = 1 ∨ at1 fs 1 = -1) ∧ No G.NoWay H E
abbrev n_need_table : List Str := ["table", "one"]
abbrev p_need_table : List Str := ["table"]
def sp_need_table (G : Pm) : Sp := sp1 (R_need_table G)
def t_need_table (G : Pm) (E : XK) : TS :=
  (tSeq (tIfS (tOr (tNot (tB (tCB (rIsi G.K) (tCons (tVar 0) (tCons (tC (.ty "list")) tNil))))) (tNot (tTest (tChain cLe cLe (tC (.int 1)) (tCB (bLenQ G.K) (tCons (tVar 0) tNil)) (tC (.int 500))))))
  (tRaise G.BadTable E)
  tNext)
  (tIfS (tNot (tB (tCB (rAll G.K) (tCons (tLc (iList G.K (tVar 0)) (gName 1) tYes (tAndV (tCB (rIsi G.K) (tCons (tVar 1) (tCons (tC (.ty "int")) tNil))) (tNotV (tCB (rIsi G.K) (tCons (tVar 1) (tCons (tC (.ty "bool")) tNil))))) [1]) tNil))))
  (tRaise G.BadTable E)
  tNext))
def P_need_table (G : Pm) : Prop := ∀ x0 H Q E, R_need_table G x0 H Q E → t_need_table G E (dn Q) (start n_need_table [x0]) H
abbrev n_together : List Str := ["one", "other", "found", "d", "mate"]
abbrev p_together : List Str := ["one", "other"]
def sp_together (G : Pm) : Sp := sp2 (R_together G)
def t_together (G : Pm) (E : XK) : TS :=
  (tSeq (tDrop (tCall (sp_need_table G) [] E (tCons (tVar 0) tNil)))
  (tSeq (tDrop (tCall (sp_need_table G) [] E (tCons (tVar 1) tNil)))
  (tSeq (tIfS (tTest (tOp rNe (tCB (bLenQ G.K) (tCons (tVar 0) tNil)) (tCB (bLenQ G.K) (tCons (tVar 1) tNil))))
  (tRaise G.Unlike E)
  tNext)
  (tSeq (tAsg (tOp rRep (tLst (tCons (tC (.int 0)) tNil)) (tCB (bLenQ G.K) (tCons (tVar 0) tNil))) (gName 2))
  (tSeq (tFor (iRng2 (tCons (tC (.int 1)) (tCons (tOp oAdd (tCB (bLenQ G.K) (tCons (tVar 0) tNil)) (tC (.int 1))) tNil))) (gName 3)
  (tFor (iRng2 (tCons (tC (.int 1)) (tCons (tOp oAdd (tOp oDiv (tCB (bLenQ G.K) (tCons (tVar 0) tNil)) (tVar 3)) (tC (.int 1))) tNil))) (gName 4)
  (tAsg (tOp oAdd (tOp (rIxL G.K) (tVar 2) (tOp oSub (tOp oMul (tVar 3) (tVar 4)) (tC (.int 1)))) (tOp oMul (tOp (rIxL G.K) (tVar 0) (tOp oSub (tVar 3) (tC (.int 1)))) (tOp (rIxL G.K) (tVar 1) (tOp oSub (tVar 4) (tC (.int 1)))))) (gSub (tVar 2) (tOp oSub (tOp oMul (tVar 3) (tVar 4)) (tC (.int 1))) rSetL))))
  (tRet (tVar 2)))))))
def P_together (G : Pm) : Prop := ∀ x0 x1 H Q E, R_together G x0 x1 H Q E → t_together G E (dn Q) (start n_together [x0, x1]) H
abbrev n_need_sign : List Str := ["number"]
abbrev p_need_sign : List Str := ["number"]
def sp_need_sign (G : Pm) : Sp := sp1 (R_need_sign G)
def t_need_sign (G : Pm) (E : XK) : TS :=
  (tIfS (tTest (tOp (rIn G.K true) (tVar 0) (tTup (tCons (tC (.int 1)) (tCons (tUn uNeg (tC (.int 1))) tNil)))))
  (tRaise G.NoWay E)
  tNext)
def P_need_sign (G : Pm) : Prop := ∀ x0 H Q E, R_need_sign G x0 H Q E → t_need_sign G E (dn Q) (start n_need_sign [x0]) H
abbrev n_taken_back : List Str := ["table", "found", "left", "number", "here", "d"]
abbrev p_taken_back : List Str := ["table"]
def sp_taken_back (G : Pm) : Sp := sp1 (R_taken_back G)
def t_taken_back (G : Pm) (E : XK) : TS :=
  (tSeq (tDrop (tCall (sp_need_table G) [] E (tCons (tVar 0) tNil)))
  (tSeq (tDrop (tCall (sp_need_sign G) [] E (tCons (tOp (rIxL G.K) (tVar 0) (tC (.int 0))) tNil)))
  (tSeq (tAsg (tOp rRep (tLst (tCons (tC (.int 0)) tNil)) (tCB (bLenQ G.K) (tCons (tVar 0) tNil))) (gName 1))
  (tSeq (tAsg (tOp rCat (tLst (tCons (tC (.int 1)) tNil)) (tOp rRep (tLst (tCons (tC (.int 0)) tNil)) (tOp oSub (tCB (bLenQ G.K) (tCons (tVar 0) tNil)) (tC (.int 1))))) (gName 2))
  (tSeq (tFor (iRng2 (tCons (tC (.int 1)) (tCons (tOp oAdd (tCB (bLenQ G.K) (tCons (tVar 0) tNil)) (tC (.int 1))) tNil))) (gName 3)
  (tSeq (tAsg (tOp oMul (tOp (rIxL G.K) (tVar 2) (tOp oSub (tVar 3) (tC (.int 1)))) (tOp (rIxL G.K) (tVar 0) (tC (.int 0)))) (gName 4))
  (tSeq (tAsg (tVar 4) (gSub (tVar 1) (tOp oSub (tVar 3) (tC (.int 1))) rSetL))
  (tFor (iRng2 (tCons (tC (.int 2)) (tCons (tOp oAdd (tOp oDiv (tCB (bLenQ G.K) (tCons (tVar 0) tNil)) (tVar 3)) (tC (.int 1))) tNil))) (gName 5)
  (tAsg (tOp oSub (tOp (rIxL G.K) (tVar 2) (tOp oSub (tOp oMul (tVar 3) (tVar 5)) (tC (.int 1)))) (tOp oMul (tVar 4) (tOp (rIxL G.K) (tVar 0) (tOp oSub (tVar 5) (tC (.int 1)))))) (gSub (tVar 2) (tOp oSub (tOp oMul (tVar 3) (tVar 5)) (tC (.int 1))) rSetL))))))
  (tRet (tVar 1)))))))
def P_taken_back (G : Pm) : Prop := ∀ x0 H Q E, R_taken_back G x0 H Q E → t_taken_back G E (dn Q) (start n_taken_back [x0]) H
/-! ### need_table -/
theorem ev_isIV {K : PySem.W.Frag} {σ : L2.St} {H : Hp} {ta : TE} {x : V} (h : Ev ta σ H x) (hf : flatV x = true) :
    Ev (tAndV (tCB (rIsi K) (tCons ta (tCons (tC (.ty "int")) tNil))) (tNotV (tCB (rIsi K) (tCons ta (tCons (tC (.ty "bool")) tNil))))) σ H (.bl (isI x)) := by
  cases x with
  | int n => exact ev_andV (a := true) (b := !false) (ev_isi h (fun _ _ => .base (.int n)) (by decide +kernel)) fun _ => ev_notV (ev_isi h (fun _ _ => .base (.int n)) (by decide +kernel))
  | bl b => exact ev_andV (a := true) (b := !true) (ev_isi h (fun _ _ => .base (.bl b)) (by decide +kernel)) fun _ => ev_notV (ev_isi h (fun _ _ => .base (.bl b)) (by decide +kernel))
  | str s => exact ev_andV (a := false) (b := true) (ev_isi h (fun _ _ => .base (.str s)) (by decide +kernel)) fun z => (by cases z)
  | non => exact ev_andV (a := false) (b := true) (ev_isi h (fun _ _ => .base .non) (by decide +kernel)) fun z => (by cases z)
  | _ => cases hf
theorem flat_ints (ns : List Int) : (ns.map V.int).all flatV = true := by
  rw [List.all_map]
  exact List.all_eq_true.mpr fun _ _ => rfl
theorem isI_ints (ns : List Int) : (ns.map V.int).all isI = true := by
  rw [List.all_map]
  exact List.all_eq_true.mpr fun _ _ => rfl
theorem pure_need_table (G : Pm) : P_need_table G := by
  intro x0 H Q E h
  have list : ∀ (p : Addr) (xs : List V), x0 = .ref p → SqL G.K H p xs → (xs.length = 0 ∨ 500 < xs.length → No G.BadTable H E) →
      (1 ≤ xs.length → xs.length ≤ 500 → xs.all flatV = true ∧ (xs.all isI = false → No G.BadTable H E) ∧ (xs.all isI = true → RetV .non H Q)) → t_need_table G E (dn Q) (start n_need_table [x0]) H := by
    rintro p xs rfl hS h1 h2
    refine q_when (b := !true || !(decide ((1 : Int) ≤ (xs.length : Int)) && decide ((xs.length : Int) ≤ 500))) ?_ (fun hb H1 e1 => ?_) fun hb H1 e1 => ?_
    · exact et_or (et_not (et_B (ev_isi (ev_var rfl) (fun H1 e => ty_l (ex_l e hS)) (by decide +kernel)))) fun _ => et_not (et_chain (ev_chain ev_c (ev_lenL (ev_var rfl) hS) rv_I0 (fun _ => ev_c) fun _ => rv_I0))
    · refine h1 ?_ H1 e1
      simp at hb
      omega
    · have hh : 1 ≤ xs.length ∧ xs.length ≤ 500 := by
        simp at hb
        omega
      obtain ⟨hf, hn, hy⟩ := h2 hh.1 hh.2
      have hS1 := ex_l e1 hS
      refine s_when (b := !((xs.map isI).all id)) ?_ (fun hb H2 e2 => ?_) fun hb H2 e2 => ?_
      · refine et_not (et_B (ev_allN (el_mapL _ (ev_var rfl) hS1 (by simp) (by omega) (fun x => rfl) ?_)))
        intro i x y H2 e2 hx hy
        rw [List.map_map, List.getElem?_map, hx] at hy
        cases hy
        exact ev_isIV (ev_var rfl) (List.all_eq_true.mp hf x (List.mem_of_getElem? hx))
      · refine hn ?_ H2 (e1.trans e2)
        rw [List.all_map] at hb
        simpa using hb
      · refine hy ?_ H2 (e1.trans e2)
        rw [List.all_map] at hb
        simpa using hb
  rcases h with ⟨ns, ⟨p, rfl, hS, l1, l2⟩, q⟩ | ⟨⟨m, h1, h2⟩ | ⟨p, xs, rfl, hS, hc⟩, no⟩
  · refine list p _ rfl hS (fun z => ?_) fun _ _ => ⟨flat_ints ns, fun z => ?_, fun _ => q⟩
    · rw [List.length_map] at z
      omega
    · rw [isI_ints] at z
      cases z
  · refine q_when (b := !false || true) ?_ (fun hb H1 e1 => no H1 e1) fun hb H1 e1 => (by cases hb)
    exact et_or (et_not (et_B (ev_isi (ev_var rfl) h1 h2))) fun z => (by cases z)
  · refine list p xs rfl hS (fun _ => no) fun l1 l2 => ?_
    rcases hc with hc | hc | ⟨_, _, hf, hi⟩
    · omega
    · omega
    · refine ⟨hf, fun _ => no, fun z => ?_⟩
      rw [hi] at z
      cases z
/-! ### together -/
theorem at1_mem {xs : List Int} {c : Nat} (h1 : 1 ≤ c) (h2 : c ≤ xs.length) : at1 xs c ∈ xs := by
  unfold at1
  rw [List.getD_eq_getElem?_getD, List.getElem?_eq_getElem (show c - 1 < xs.length by omega)]
  exact List.getElem_mem _
theorem sm_cm {xs ys : List Int} {a b : Nat} (h : Cmp xs ys) (ha : 1 ≤ a) (ha2 : a ≤ xs.length) (hb : 1 ≤ b) (hb2 : b ≤ ys.length) : CM (at1 xs a) (at1 ys b) := h _ (at1_mem ha ha2) _ (at1_mem hb hb2)
theorem ix_at {xs : List Int} {i : Nat} (h : i < xs.length) : atI (xs.map V.int) (i : Int) = some (.int (at1 xs (i + 1))) := atI_nat (at1_get (m := i + 1) (by omega) (by omega))
theorem ix_tab {n i : Nat} {F : Nat → Int} (h : i < n) : atI ((tab n F).map V.int) (i : Int) = some (.int (F (i + 1))) := atI_nat (tab_get (m := i + 1) (by omega) (by omega))
theorem tabV_len {n : Nat} {F : Nat → Int} : ((tab n F).map V.int).length = n := by simp
theorem pair_ix (i k : Nat) : (1 + (i : Int)) * (1 + (k : Int)) - 1 = (((i + 1) * (k + 1) - 1 : Nat) : Int) := by
  have h1 : 1 ≤ (i + 1) * (k + 1) := Nat.mul_pos (Nat.succ_pos i) (Nat.succ_pos k)
  have h2 : (((i + 1) * (k + 1) : Nat) : Int) = (1 + (i : Int)) * (1 + (k : Int)) := by
    rw [Int.natCast_mul, Int.natCast_add, Int.natCast_add, Int.add_comm (i : Int), Int.add_comm (k : Int)]
    rfl
  omega
theorem div_pair {n i k : Nat} (h : k < n / (i + 1)) : (i + 1) * (k + 1) ≤ n := by
  have h1 : (i + 1) * (k + 1) ≤ (i + 1) * (n / (i + 1)) := Nat.mul_le_mul_left _ h
  exact Nat.le_trans h1 (Nat.mul_div_le n (i + 1))
theorem pair_div {n a b m : Nat} (ha : 1 ≤ a) (h : a * b = m) (hm : m ≤ n) : b ≤ n / a := by
  rw [Nat.le_div_iff_mul_le ha, Nat.mul_comm, h]
  exact hm
theorem pure_together (G : Pm) : P_together G := by
  intro x0 x1 H Q E h
  have call : ∀ (σ : L2.St) (H : Hp) (i : Nat) (x : V) (D : Ends) (tz : TS), σ[i]? = some (some x) → ((∃ ns, IsTab G.K H x ns) ∧ (∀ H1, Ex H H1 → tz D σ H1) ∨ Odd G.K H x ∧ No G.BadTable H E) → tSeq (tDrop (tCall (sp_need_table G) [] E (tCons (tVar i) tNil))) tz D σ H := fun σ H i x D tz hx hh => by
    refine q_call1 (ev_var hx) fun H1 e1 => ?_
    rcases hh with ⟨⟨ns, h1⟩, k⟩ | ⟨h1, no⟩
    · exact .inl ⟨ns, h1.ex e1, fun H2 e2 => k H2 (e1.trans e2)⟩
    · exact .inr ⟨h1.ex e1, no.ex e1⟩
  rcases h with ⟨xs, ys, hx, hy, hl, hs, q⟩ | ⟨ho, no⟩ | ⟨xs, hx, ho, no⟩ | ⟨xs, ys, hx, hy, hl, no⟩
  · refine call _ H 0 x0 _ _ rfl (.inl ⟨⟨xs, hx⟩, fun H1 e1 => ?_⟩)
    refine call _ H1 1 x1 _ _ rfl (.inl ⟨⟨ys, hy.ex e1⟩, fun H2 e2 => ?_⟩)
    obtain ⟨p, rfl, hp, l1, l2⟩ := hx.ex (e1.trans e2)
    obtain ⟨r, rfl, hr, _, _⟩ := hy.ex (e1.trans e2)
    have q2 := RetL.ex (e1.trans e2) q
    clear q hy hx
    refine q_when (b := false) (et_is (et_test (ev_op (ev_lenL (ev_var rfl) hp) (ev_lenL (ev_var rfl) hr) (rv_ne rfl))) (by simp [hl])) (fun hb => by cases hb) fun _ H3 e3 => ?_
    have hp3 := ex_l e3 hp
    have hr3 := ex_l e3 hr
    have q3 := RetL.ex e3 q2
    clear q2 hp hr
    have hlen : (xs.map V.int).length = xs.length := List.length_map ..
    generalize hn : xs.length = n at *
    refine q_asgL (el_rep (n := n) (el_lst (ea_cons ev_c ea_nil) (by show 1 ≤ 100000; decide)) (ev_is (ev_lenL (ev_var rfl) hp3) (by rw [hlen])) (by omega)) fun l H4 l0 e4 h4 => ?_
    have hpx := ex_l e4 hp3
    have hrx := ex_l e4 hr3
    have ini : List.replicate n (V.int 0) = (tab n fun m => S1 0 fun a => S1 n fun b => if a * b = m then at1 xs a * at1 ys b else 0).map V.int := by
      apply List.ext_getElem
      · simp
      · intro i h1 h2
        simp only [List.getElem_replicate, List.getElem_map, tab, S1]
    refine q_forR2 (lo := 1) (n := (n : Int) + 1) (ea_cons ev_c (ea_cons (ev_op (ev_is (ev_lenL (ev_var rfl) hpx) (by rw [hlen])) ev_c rv_I0) ea_nil)) (by omega)
      (fun i σ' H' => ∃ y3 y4 : Option V, σ' = [some (.ref p), some (.ref r), some (.ref l), y3, y4] ∧ Ex H3 H' ∧ H' l = some (.lst ((tab n fun m => S1 i fun a => S1 n fun b => if a * b = m then at1 xs a * at1 ys b else 0).map V.int)))
      (fun H5 e5 => ⟨_, _, rfl, e4.trans e5, by rw [← ini]; exact e5 l _ h4⟩) ?_ ?_
    · rintro i σ' H5 hi ⟨y3, y4, rfl, e5, h5⟩
      have hi2 : i < n := by omega
      have hp5 := ex_l e5 hp3
      have hq : ((n : Int) / (1 + (i : Int))) = ((n / (i + 1) : Nat) : Int) := by
        rw [Int.natCast_ediv, Int.add_comm]
        rfl
      have hqn : n / (i + 1) ≤ n := Nat.div_le_self _ _
      have hqe : ∀ k, k < n / (i + 1) → (i + 1) * (k + 1) ≤ n := fun k h => div_pair h
      have hqf : ∀ b m, (i + 1) * b = m → m ≤ n → b ≤ n / (i + 1) := fun b m h1 h2 => pair_div (by omega) h1 h2
      generalize n / (i + 1) = qq at *
      refine s_forR2 (lo := 1) (n := ((qq : Nat) : Int) + 1) (ea_cons ev_c (ea_cons (ev_op (ev_is (ev_op (ev_is (ev_lenL (ev_var rfl) hp5) (by rw [hlen])) (ev_var rfl) (rv_I (cdiv_w (by omega) (by omega)))) (by rw [hq])) ev_c rv_I0) ea_nil)) (by omega)
        (fun k σ' H' => ∃ y4 : Option V, σ' = [some (.ref p), some (.ref r), some (.ref l), some (.int (1 + (i : Int))), y4] ∧ Ex H3 H' ∧ H' l = some (.lst ((tab n fun m => S1 i (fun a => S1 n fun b => if a * b = m then at1 xs a * at1 ys b else 0) + S1 k fun b => if (i + 1) * b = m then at1 xs (i + 1) * at1 ys b else 0).map V.int)))
        (fun H6 e6 => ⟨_, rfl, e5.trans e6, by
          rw [e6 l _ h5]
          exact congrArg (fun z : List Int => some (HO.lst (z.map V.int))) (tab_congr fun m _ _ => (Int.add_zero _).symm)⟩) ?_ ?_
      · rintro k σ' H6 hk ⟨y4, rfl, e6, h6⟩
        have hk2 : k < qq := by omega
        have hik := hqe k hk2
        have hpos : 1 ≤ (i + 1) * (k + 1) := Nat.mul_pos (Nat.succ_pos i) (Nat.succ_pos k)
        have hk3 : k < n := by omega
        have hix : Ev (tOp oSub (tOp oMul (tVar 3) (tVar 4)) (tC (.int 1))) [some (.ref p), some (.ref r), some (.ref l), some (.int (1 + (i : Int))), some (.int (1 + (k : Int)))] H6 (.int (((i + 1) * (k + 1) - 1 : Nat) : Int)) := by
          rw [← pair_ix]
          walk_at "ev"
          exact cm_l (by omega) (by omega)
        refine s_setL h6 (ev_op (ev_op (ev_var rfl) hix (rv_ixL (sq_of h6) (ix_tab (by omega)))) (ev_op (ev_op (ev_var rfl) (ev_is (w := .int (i : Int)) (ev_op (ev_var rfl) ev_c rv_I0) (by congr 1; omega)) (rv_ixL (ex_l e6 hp3) (ix_at (by omega)))) (ev_op (ev_var rfl) (ev_is (w := .int (k : Int)) (ev_op (ev_var rfl) ev_c rv_I0) (by congr 1; omega)) (rv_ixL (ex_l e6 hr3) (ix_at (by omega)))) (rv_I (sm_cm hs (by omega) (by omega) (by omega) (by omega)))) rv_I0) (ev_var rfl) hix (by rw [tabV_len]; omega) fun H7 e7 => ?_
        refine ⟨_, rfl, Ex.mut (e6.trans e7) l0, ?_⟩
        rw [upd_same, tab_setV (by omega), show (i + 1) * (k + 1) - 1 + 1 = (i + 1) * (k + 1) by omega]
        refine congrArg (fun z : List Int => some (HO.lst (z.map V.int))) (tab_congr fun m _ _ => ?_)
        simp only [S1]
        by_cases e : m = (i + 1) * (k + 1)
        · subst e
          rw [if_pos rfl, if_pos rfl]
          omega
        · rw [if_neg e, if_neg (fun z => e z.symm)]
          omega
      · rintro σ' H6 ⟨y4, rfl, e6, h6⟩
        refine ⟨_, _, rfl, e6, ?_⟩
        rw [h6]
        refine congrArg (fun z : List Int => some (HO.lst (z.map V.int))) (tab_congr fun m _ hm => ?_)
        simp only [S1]
        rw [show (((qq : Nat) : Int) + 1 - 1).toNat = qq by omega]
        rw [S1_cut hqn fun b h1 _ => if_neg fun z => ?_]
        have := hqf _ _ z hm
        omega
    · rintro σ' H5 ⟨y3, y4, rfl, e5, h5⟩
      refine s_ret (ev_var rfl) fun H6 e6 => q3 l H6 ?_ (e5.trans e6) ?_
      · exact l0
      · rw [e6 l _ h5]
        refine congrArg (fun z : List Int => some (HO.lst (z.map V.int))) ?_
        unfold conv
        rw [hn, show ((n : Int) + 1 - 1).toNat = n by omega]
        exact tab_congr fun m h1 h2 => dc_dv h1 h2
  · exact call _ H 0 x0 _ _ rfl (.inr ⟨ho, no⟩)
  · refine call _ H 0 x0 _ _ rfl (.inl ⟨⟨xs, hx⟩, fun H1 e1 => ?_⟩)
    exact call _ H1 1 x1 _ _ rfl (.inr ⟨ho.ex e1, no.ex e1⟩)
  · refine call _ H 0 x0 _ _ rfl (.inl ⟨⟨xs, hx⟩, fun H1 e1 => ?_⟩)
    refine call _ H1 1 x1 _ _ rfl (.inl ⟨⟨ys, hy.ex e1⟩, fun H2 e2 => ?_⟩)
    obtain ⟨p, rfl, hp, l1, l2⟩ := hx.ex (e1.trans e2)
    obtain ⟨r, rfl, hr, _, _⟩ := hy.ex (e1.trans e2)
    refine q_when (b := true) (et_is (et_test (ev_op (ev_lenL (ev_var rfl) hp) (ev_lenL (ev_var rfl) hr) (rv_ne rfl))) ?_) (fun hb H3 e3 => no H3 ((e1.trans e2).trans e3)) fun hb => (by cases hb)
    simp
    omega
/-! ### need_sign, taken_back -/
theorem pure_need_sign (G : Pm) : P_need_sign G := by
  intro x0 H Q E h
  obtain ⟨z, rfl, h⟩ := h
  have hin : inV (.int z) [V.int 1, V.int (-1)] = decide (z = 1 ∨ z = -1) := by
    simp only [inV, List.any_cons, List.any_nil, eqV]
    by_cases h1 : z = 1
    · subst h1
      rfl
    · by_cases h2 : z = -1
      · subst h2
        rfl
      · simp [h1, h2]
        omega
  refine s_when (b := !decide (z = 1 ∨ z = -1)) ?_ (fun hb H1 e1 => ?_) fun hb H1 e1 => ?_
  · rw [← hin]
    exact et_test (ev_niU (ev_var rfl) (eu_tup (ea_cons ev_c (ea_cons (ev_un ev_c ru_neg) ea_nil)) (by show 2 ≤ 100000; decide)) rfl rfl)
  · have hb : ¬ (z = 1 ∨ z = -1) := fun hz => by
      rw [decide_eq_true hz] at hb
      cases hb
    rcases h with ⟨h1, _⟩ | ⟨_, no⟩
    · exact (hb h1).elim
    · exact no H1 e1
  · have hb : z = 1 ∨ z = -1 := by
      cases hd : decide (z = 1 ∨ z = -1) with
      | true => exact of_decide_eq_true hd
      | false =>
        rw [hd] at hb
        cases hb
    rcases h with ⟨_, q⟩ | ⟨h1, _⟩
    · exact q H1 e1
    · exact (h1 hb).elim
theorem pair_ix2 (i k : Nat) : (1 + (i : Int)) * (2 + (k : Int)) - 1 = (((i + 1) * (k + 2) - 1 : Nat) : Int) := by
  have := pair_ix i (k + 1)
  rw [show (1 + (((k + 1 : Nat)) : Int)) = 2 + (k : Int) by omega] at this
  exact this
theorem pure_taken_back (G : Pm) : P_taken_back G := by
  intro x0 H Q E h
  rcases h with ⟨fs, gs, hx, hB, hsg, hs, q⟩ | ⟨ho, no⟩ | ⟨fs, hx, hsg, no⟩
  · refine q_call1 (ev_var rfl) fun H1 e1 => .inl ⟨fs, hx.ex e1, fun H2 e2 => ?_⟩
    obtain ⟨p, rfl, hp2, l1, l2⟩ := hx.ex (e1.trans e2)
    have hi0 : ∀ {H' : Hp}, SqL G.K H' p (fs.map V.int) → ∀ {σ : L2.St}, σ[0]? = some (some (.ref p)) → Ev (tOp (rIxL G.K) (tVar 0) (tC (.int 0))) σ H' (.int (at1 fs 1)) := fun hp σ h => ev_op (ev_var h) ev_c (rv_ixL hp (ix_at (xs := fs) (i := 0) (by omega)))
    refine q_call1 (hi0 hp2 rfl) fun H3' e3' => ⟨_, rfl, .inl ⟨hsg, fun H3 e3'' => ?_⟩⟩
    have e3 := e3'.trans e3''
    have hp3 := ex_l e3 hp2
    have q3 := RetL.ex ((e1.trans e2).trans e3) q
    clear q hx hp2
    have hlen : (fs.map V.int).length = fs.length := List.length_map ..
    have hgl := hB.1
    have hBk := hB.2
    have hsm : ∀ a b, 1 ≤ a → a ≤ gs.length → 1 ≤ b → b ≤ fs.length → CM (at1 gs a) (at1 fs b) := fun a b => sm_cm hs
    generalize hn : fs.length = n at *
    refine q_asgL (el_rep (n := n) (el_lst (ea_cons ev_c ea_nil) (by show 1 ≤ 100000; decide)) (ev_is (ev_lenL (ev_var rfl) hp3) (by rw [hlen])) (by omega)) fun l H4 l0 e4 h4 => ?_
    have hp4 := ex_l e4 hp3
    refine q_asgL (el_catN (xs := [V.int 1]) (ys := List.replicate (n - 1) (V.int 0)) (el_lst (ea_cons ev_c ea_nil) (by show 1 ≤ 100000; decide)) (fun H5 e5 => el_rep (n := n - 1) (el_lst (ea_cons ev_c ea_nil) (by show 1 ≤ 100000; decide)) (ev_is (ev_op (ev_lenL (ev_var rfl) (ex_l e5 hp4)) ev_c rv_I0) (by rw [hlen]; congr 1; omega)) (by omega)) (by simp; omega)) fun k H5 k0 e5 h5 => ?_
    have hkl : l ≠ k := fun z => by
      subst z
      rw [k0] at h4
      cases h4
    have ini1 : List.replicate n (V.int 0) = (tab n fun m => if m ≤ 0 then at1 gs m else 0).map V.int := by
      apply List.ext_getElem
      · simp
      · intro i h1 h2
        simp only [List.getElem_replicate, List.getElem_map, tab, List.getElem_range]
        rw [if_neg (by omega)]
    have ini2 : [V.int 1] ++ List.replicate (n - 1) (V.int 0) = (tab n fun m => u1 m - S1 0 fun a => S1 n fun d => if 2 ≤ d ∧ a * d = m then at1 gs a * at1 fs d else 0).map V.int := by
      have : tab n u1 = 1 :: List.replicate (n - 1) 0 := by
        have := unit_tab (n - 1)
        rwa [show n - 1 + 1 = n by omega] at this
      have e2 : (tab n fun m => u1 m - S1 0 fun a => S1 n fun d => if 2 ≤ d ∧ a * d = m then at1 gs a * at1 fs d else 0) = tab n u1 := tab_congr fun m _ _ => by simp [S1]
      rw [e2, this]
      simp
    refine q_forR2 (lo := 1) (n := (n : Int) + 1) (ea_cons ev_c (ea_cons (ev_op (ev_is (ev_lenL (ev_var rfl) (ex_l e5 hp4)) (by rw [hlen])) ev_c rv_I0) ea_nil)) (by omega)
      (fun i σ' H' => ∃ y3 y4 y5 : Option V, σ' = [some (.ref p), some (.ref l), some (.ref k), y3, y4, y5] ∧ Ex H3 H' ∧ H' l = some (.lst ((tab n fun m => if m ≤ i then at1 gs m else 0).map V.int)) ∧ H' k = some (.lst ((tab n fun m => u1 m - S1 i fun a => S1 n fun d => if 2 ≤ d ∧ a * d = m then at1 gs a * at1 fs d else 0).map V.int)))
      (fun H6 e6 => ⟨_, _, _, rfl, (e4.trans e5).trans e6, by rw [← ini1]; exact (e5.trans e6) l _ h4, by rw [← ini2]; exact e6 k _ h5⟩) ?_ ?_
    · rintro i σ' H6 hi ⟨y3, y4, y5, rfl, e6, h6l, h6k⟩
      have hi2 : i < n := by omega
      have hp6 := ex_l e6 hp3
      have k00 : H3 k = none := fresh_back e4 k0
      have here : (u1 (i + 1) - S1 i fun a => S1 n fun d => if 2 ≤ d ∧ a * d = i + 1 then at1 gs a * at1 fs d else 0) = at1 gs (i + 1) * at1 fs 1 := by
        have := hBk (i + 1) (by omega) (by omega)
        rw [dv_last] at this
        rw [S1_congr (g := fun a => if (i + 1) % a = 0 then at1 gs a * at1 fs ((i + 1) / a) else 0) fun a h1 h2 => ?_]
        · omega
        · rw [← pair_one (N := n) (c := fun d => at1 gs a * at1 fs d) h1 (by omega) (by omega)]
          refine S1_congr fun d h3 h4 => ?_
          by_cases e : a * d = i + 1
          · have h2d : 2 ≤ d := by
              rcases Nat.lt_or_ge d 2 with z | z
              · have : d = 1 := by omega
                subst this
                exfalso
                omega
              · exact z
            rw [if_pos e, if_pos ⟨h2d, e⟩]
          · rw [if_neg e, if_neg fun z => e z.2]
      have hgm : at1 gs (i + 1) * at1 fs 1 * at1 fs 1 = at1 gs (i + 1) := by rw [Int.mul_assoc, one_sq hsg, Int.mul_one]
      refine q_asg (v := .int (at1 gs (i + 1))) ?_ fun H7 e7 => ?_
      · refine ev_is (ev_op (ev_op (ev_var rfl) (ev_is (w := .int (i : Int)) (ev_op (ev_var rfl) ev_c rv_I0) (by congr 1; omega)) (rv_ixL (sq_of h6k) (ix_tab hi2))) (hi0 hp6 rfl) (rv_I (cm_r ?_ ?_))) ?_
        · rcases hsg with e | e <;> rw [e] <;> decide
        · rcases hsg with e | e <;> rw [e] <;> decide
        · rw [here, hgm]
      refine q_setL (j := i) (e7 l _ h6l) (ev_var rfl) (ev_var rfl) (ev_is (ev_op (ev_var rfl) ev_c rv_I0) (by congr 1; omega)) (by rw [tabV_len]; omega) fun H8 e8 => ?_
      have e78 := e7.trans e8
      have h8k : (upd H8 l (.lst (((tab n fun m => if m ≤ i then at1 gs m else 0).map V.int).set i (.int (at1 gs (i + 1)))))) k = some (.lst ((tab n fun m => u1 m - S1 i fun a => S1 n fun d => if 2 ≤ d ∧ a * d = m then at1 gs a * at1 fs d else 0).map V.int)) := by
        rw [upd_ne (Ne.symm hkl)]
        exact e78 k _ h6k
      have h8l : (upd H8 l (.lst (((tab n fun m => if m ≤ i then at1 gs m else 0).map V.int).set i (.int (at1 gs (i + 1)))))) l = some (.lst ((tab n fun m => if m ≤ i + 1 then at1 gs m else 0).map V.int)) := by
        rw [upd_same]
        have := tab_setV (n := n) (F := fun m => if m ≤ i then at1 gs m else 0) (m := i + 1) (v := at1 gs (i + 1)) (by omega)
        rw [show i + 1 - 1 = i by omega] at this
        rw [this]
        refine congrArg (fun z : List Int => some (HO.lst (z.map V.int))) (tab_congr fun m _ _ => ?_)
        by_cases e : m = i + 1
        · subst e
          rw [if_pos rfl, if_pos (Nat.le_refl _)]
        · rw [if_neg e]
          by_cases e2 : m ≤ i
          · rw [if_pos e2, if_pos (by omega)]
          · rw [if_neg e2, if_neg (by omega)]
      have e8' : Ex H3 (upd H8 l (.lst (((tab n fun m => if m ≤ i then at1 gs m else 0).map V.int).set i (.int (at1 gs (i + 1)))))) := Ex.mut (e6.trans e78) l0
      generalize upd H8 l (.lst (((tab n fun m => if m ≤ i then at1 gs m else 0).map V.int).set i (.int (at1 gs (i + 1))))) = H9 at *
      have hp9 := ex_l e8' hp3
      have hq : ((n : Int) / (1 + (i : Int))) = ((n / (i + 1) : Nat) : Int) := by
        rw [Int.natCast_ediv, Int.add_comm]
        rfl
      have hqn : n / (i + 1) ≤ n := Nat.div_le_self _ _
      have hq1 : 1 ≤ n / (i + 1) := Nat.div_pos (by omega) (by omega)
      have hqe : ∀ k, k < n / (i + 1) → (i + 1) * (k + 1) ≤ n := fun k h => div_pair h
      have hqf : ∀ b m, (i + 1) * b = m → m ≤ n → b ≤ n / (i + 1) := fun b m h1 h2 => pair_div (by omega) h1 h2
      generalize n / (i + 1) = qq at *
      refine s_forR2 (lo := 2) (n := ((qq : Nat) : Int) + 1) (ea_cons ev_c (ea_cons (ev_op (ev_is (ev_op (ev_is (ev_lenL (ev_var rfl) hp9) (by rw [hlen])) (ev_var rfl) (rv_I (cdiv_w (by omega) (by omega)))) (by rw [hq])) ev_c rv_I0) ea_nil)) (by omega)
        (fun j σ' H' => ∃ y5 : Option V, σ' = [some (.ref p), some (.ref l), some (.ref k), some (.int (1 + (i : Int))), some (.int (at1 gs (i + 1))), y5] ∧ Ex H3 H' ∧ H' l = some (.lst ((tab n fun m => if m ≤ i + 1 then at1 gs m else 0).map V.int)) ∧
          H' k = some (.lst ((tab n fun m => u1 m - S1 i (fun a => S1 n fun d => if 2 ≤ d ∧ a * d = m then at1 gs a * at1 fs d else 0) - S1 (j + 1) fun d => if 2 ≤ d ∧ (i + 1) * d = m then at1 gs (i + 1) * at1 fs d else 0).map V.int)))
        (fun H10 e10 => ⟨_, rfl, e8'.trans e10, e10 l _ h8l, by
          rw [e10 k _ h8k]
          refine congrArg (fun z : List Int => some (HO.lst (z.map V.int))) (tab_congr fun m _ _ => ?_)
          simp only [S1]
          rw [if_neg (by omega)]
          omega⟩) ?_ ?_
      · rintro j σ' H10 hj ⟨y5, rfl, e10, h10l, h10k⟩
        have hik := hqe (j + 1) (by omega)
        have hpos : 1 ≤ (i + 1) * (j + 2) := Nat.mul_pos (Nat.succ_pos i) (Nat.succ_pos _)
        have hik' : (i + 1) * (j + 2) ≤ n := hik
        have hix : Ev (tOp oSub (tOp oMul (tVar 3) (tVar 5)) (tC (.int 1))) [some (.ref p), some (.ref l), some (.ref k), some (.int (1 + (i : Int))), some (.int (at1 gs (i + 1))), some (.int (2 + (j : Int)))] H10 (.int (((i + 1) * (j + 2) - 1 : Nat) : Int)) := by
          rw [← pair_ix2]
          walk_at "ev"
          exact cm_l (by omega) (by omega)
        refine s_setL h10k (ev_op (ev_op (ev_var rfl) hix (rv_ixL (sq_of h10k) (ix_tab (by omega)))) (ev_op (ev_var rfl) (ev_op (ev_var rfl) (ev_is (w := .int ((j + 1 : Nat) : Int)) (ev_op (ev_var rfl) ev_c rv_I0) (by congr 1; omega)) (rv_ixL (ex_l e10 hp3) (ix_at (by omega)))) (rv_I (hsm _ _ (by omega) (by omega) (by omega) (by omega)))) rv_I0) (ev_var rfl) hix (by rw [tabV_len]; omega) fun H11 e11 => ?_
        refine ⟨_, rfl, Ex.mut (e10.trans e11) k00, by rw [upd_ne hkl]; exact e11 l _ h10l, ?_⟩
        rw [upd_same, tab_setV (by omega), show (i + 1) * (j + 2) - 1 + 1 = (i + 1) * (j + 2) by omega]
        refine congrArg (fun z : List Int => some (HO.lst (z.map V.int))) (tab_congr fun m _ _ => ?_)
        show _ = u1 m - S1 i (fun a => S1 n fun d => if 2 ≤ d ∧ a * d = m then at1 gs a * at1 fs d else 0) - (S1 (j + 1) (fun d => if 2 ≤ d ∧ (i + 1) * d = m then at1 gs (i + 1) * at1 fs d else 0) + if 2 ≤ j + 1 + 1 ∧ (i + 1) * (j + 1 + 1) = m then at1 gs (i + 1) * at1 fs (j + 1 + 1) else 0)
        by_cases e : m = (i + 1) * (j + 2)
        · subst e
          rw [if_pos rfl, if_pos ⟨by omega, rfl⟩]
          omega
        · rw [if_neg e, if_neg (fun z => e z.2.symm)]
          omega
      · rintro σ' H10 ⟨y5, rfl, e10, h10l, h10k⟩
        refine ⟨_, _, _, rfl, e10, h10l, ?_⟩
        rw [h10k]
        refine congrArg (fun z : List Int => some (HO.lst (z.map V.int))) (tab_congr fun m _ hm => ?_)
        rw [show (((qq : Nat) : Int) + 1 - 2).toNat + 1 = qq by omega, ← S1_cut hqn fun b h1 _ => if_neg fun z => ?_]
        · show _ = u1 m - (S1 i (fun a => S1 n fun d => if 2 ≤ d ∧ a * d = m then at1 gs a * at1 fs d else 0) + S1 n fun d => if 2 ≤ d ∧ (i + 1) * d = m then at1 gs (i + 1) * at1 fs d else 0)
          omega
        · have := hqf _ _ z.2 hm
          omega
    · rintro σ' H6 ⟨y3, y4, y5, rfl, e6, h6l, h6k⟩
      refine s_ret (ev_var rfl) fun H7 e7 => q3 l H7 l0 (e6.trans e7) ?_
      rw [e7 l _ h6l]
      refine congrArg (fun z : List Int => some (HO.lst (z.map V.int))) ?_
      rw [show ((n : Int) + 1 - 1).toNat = n by omega]
      rw [tab_congr (G := at1 gs) fun m _ h2 => if_pos h2, ← hgl, tab_self]
  · exact q_call1 (ev_var rfl) fun H1 e1 => .inr ⟨ho.ex e1, no.ex e1⟩
  · refine q_call1 (ev_var rfl) fun H1 e1 => .inl ⟨fs, hx.ex e1, fun H2 e2 => ?_⟩
    obtain ⟨p, rfl, hp2, l1, l2⟩ := hx.ex (e1.trans e2)
    exact q_call1 (ev_op (ev_var rfl) ev_c (rv_ixL hp2 (ix_at (xs := fs) (i := 0) (by omega)))) fun H3 e3 => ⟨_, rfl, .inr ⟨hsg, no.ex ((e1.trans e2).trans e3)⟩⟩
end Sv

set_option Elab.async false
set_option linter.all false
set_option maxRecDepth 100000
set_option maxHeartbeats 4000000
namespace Sv
open PySem PySem.Spec PyProof.Rows L2 Evl HotX L2H LamX
local macro_rules | `(tactic| walk_at "ev") => `(tactic| (repeat' (first | exact ev_var rfl | exact ev_c | exact rv_I0 | exact ea_nil | exact ru_neg | exact rv_eq rfl | exact rv_ne rfl | apply ev_op | apply rv_I | apply ev_un | apply et_test | apply et_B | apply et_not | apply ea_cons | apply ev_maxI | apply ev_minI)))
def errsL (G : Pm) : List (Addr × Str) := [(G.BadTable, "BadTable"), (G.Unlike, "Unlike"), (G.NoWay, "NoWay"), (G.BadName, "BadName"), (G.BadNumber, "BadNumber"), (G.BadSums, "BadSums")]
def WE (G : Pm) (C : Addr) (nm : Str) : Prop := (C, nm) ∈ errsL G
/-! ### the law's own table, its own going through divisors -/
def ltF (M : Int) (i : Nat) : Int := if M % 4 = 0 then drawn M i % 11 - 5 else if M % 4 = 1 then drawn M i % 2 else if M % 4 = 2 then (i : Int) + 1 else 1
def ltab (M : Int) (n : Nat) : List Int := tab n fun m => ltF M (m - 1)
theorem ltab_len {M : Int} {n : Nat} : (ltab M n).length = n := tab_len
theorem tab_mem {n : Nat} {F : Nat → Int} {z : Int} (h : z ∈ tab n F) : ∃ m, 1 ≤ m ∧ m ≤ n ∧ z = F m := by
  obtain ⟨i, hi, rfl⟩ := List.mem_map.mp h
  exact ⟨i + 1, by omega, by have := List.mem_range.mp hi; omega, rfl⟩
theorem ltab_sm {M : Int} {n : Nat} (hn : n ≤ 500) : Sm (ltab M n) := fun z hz => by
  obtain ⟨m, h1, h2, rfl⟩ := tab_mem hz
  have a0 := Int.emod_nonneg (drawn M (((m - 1 : Nat)) : Int)) (show (11 : Int) ≠ 0 by decide)
  have a1 := Int.emod_lt_of_pos (drawn M (((m - 1 : Nat)) : Int)) (show (0 : Int) < 11 by decide)
  have b0 := Int.emod_nonneg (drawn M (((m - 1 : Nat)) : Int)) (show (2 : Int) ≠ 0 by decide)
  have b1 := Int.emod_lt_of_pos (drawn M (((m - 1 : Nat)) : Int)) (show (0 : Int) < 2 by decide)
  dsimp only [ltF]
  split
  · omega
  · split
    · omega
    · split <;> omega
def R__law_table (G : Pm) : R2' := fun x y H Q _ => ∃ (M : Int) (n : Nat), x = .int M ∧ y = .int (n : Int) ∧ n ≤ 500 ∧ RetL ((ltab M n).map V.int) H Q
def R_common (_ : Pm) : R2' := fun x y H Q _ => ∃ a b : Nat, x = .int (a : Int) ∧ y = .int (b : Int) ∧ RetV (.int ((Nat.gcd a b : Nat) : Int)) H Q
def R_by_shares (G : Pm) : R1 := fun x H Q E => (∃ xs, IsTab G.K H x xs ∧ Cmp xs xs ∧ ∀ b : Bool, (b = true ↔ Ml xs.length (at1 xs)) → RetV (.bl b) H Q) ∨ (Odd G.K H x ∧ No G.BadTable H E)
def R__law_is_so (G : Pm) : R1 := fun x H Q _ => ∃ xs, IsTab G.K H x xs ∧ Cmp xs xs ∧ ∀ b : Bool, (b = true ↔ Ml xs.length (at1 xs)) → RetV (.bl b) H Q
def R__law_first (G : Pm) : R1 := fun x H Q _ => ∃ n : Nat, x = .int (n : Int) ∧ 2 ≤ n ∧ n ≤ 500 ∧ ∀ q : Nat, IsPart n q → RetV (.int (q : Int)) H Q
def R__law_built (G : Pm) : R2' := fun x y H Q _ => ∃ (M : Int) (n : Nat), x = .int M ∧ y = .int (n : Int) ∧ 1 ≤ n ∧ n ≤ 60 ∧ ∀ F, Bu n F → RetL ((tab n F).map V.int) H Q
abbrev n__law_word : List Str := ["_law_e", "_law_flags", "_law_flag"]
abbrev p__law_word : List Str := ["_law_e"]
def t__law_word (G : Pm) (e C : Addr) : TS :=
  (tSeq (tAsg (tLst (tCons (tCB (rIsE G.K C e) (tCons (tVar 0) (tCons (tC (.ref G.BadTable)) tNil))) (tCons (tCB (rIsE G.K C e) (tCons (tVar 0) (tCons (tC (.ref G.Unlike)) tNil))) (tCons (tCB (rIsE G.K C e) (tCons (tVar 0) (tCons (tC (.ref G.NoWay)) tNil))) tNil)))) (gName 1))
  (tSeq (tAsg (tOp rCat (tVar 1) (tLst (tCons (tCB (rIsE G.K C e) (tCons (tVar 0) (tCons (tC (.ref G.BadName)) tNil))) tNil))) (gName 1))
  (tSeq (tAsg (tOp rCat (tVar 1) (tLst (tCons (tCB (rIsE G.K C e) (tCons (tVar 0) (tCons (tC (.ref G.BadNumber)) tNil))) (tCons (tCB (rIsE G.K C e) (tCons (tVar 0) (tCons (tC (.ref G.BadSums)) tNil))) tNil)))) (gName 1))
  (tSeq (tIfS (tOr (tTest (tOp rNe (tCB (rSum G.K) (tCons (tIntsH G.K (tVar 1)) tNil)) (tC (.int 1)))) (tNot (tB (tCB (rIsE G.K C e) (tCons (tVar 0) (tCons (tC (.ty "ValueError")) tNil))))))
  (tRet (tC (.str "other")))
  tNext)
  (tRet (tOp (rIxL G.K) (tLst (tCons (tC (.str "BadTable")) (tCons (tC (.str "Unlike")) (tCons (tC (.str "NoWay")) (tCons (tC (.str "BadName")) (tCons (tC (.str "BadNumber")) (tCons (tC (.str "BadSums")) tNil))))))) (tBM G.K "list" (rIndex G.K) (tVar 1) (tCons (tC (.bl true)) tNil))))))))
def P__law_word (G : Pm) : Prop := ∀ (e C : Addr) (nm : Str) (H : Hp) (Q : VK), WE G C nm → (∀ H', Ex H H' → Q (.str nm) H') → t__law_word G e C (dn Q) (start n__law_word [.ref e]) H
abbrev n__law_table : List Str := ["_law_more", "_law_size", "_law_j"]
abbrev p__law_table : List Str := ["_law_more", "_law_size"]
def sp__law_table (G : Pm) : Sp := sp2 (R__law_table G)
def t__law_table (G : Pm) (E : XK) : TS :=
  (tRet (tLc (iRng1 (tCons (tVar 1) tNil)) (gName 2) tYes (tOp (rIxL G.K) (tLst (tCons (tOp oSub (tOp oMod (tCall (sp__law_drawn G) [] E0 (tCons (tVar 0) (tCons (tVar 2) tNil))) (tC (.int 11))) (tC (.int 5))) (tCons (tOp oMod (tCall (sp__law_drawn G) [] E0 (tCons (tVar 0) (tCons (tVar 2) tNil))) (tC (.int 2))) (tCons (tOp oAdd (tVar 2) (tC (.int 1))) (tCons (tC (.int 1)) tNil))))) (tOp oMod (tVar 0) (tC (.int 4)))) [2]))
def P__law_table (G : Pm) : Prop := ∀ x0 x1 H Q E, R__law_table G x0 x1 H Q E → t__law_table G E (dn Q) (start n__law_table [x0, x1]) H
abbrev n_common : List Str := ["one", "other"]
abbrev p_common : List Str := ["one", "other"]
def sp_common (G : Pm) : Sp := sp2 (R_common G)
def t_common (G : Pm) (E : XK) : TS :=
  (tSeq (tWhile (tTest (tOp cGt (tVar 1) (tC (.int 0))))
  (tPar 0 1 (tCons (tVar 1) (tCons (tOp oMod (tVar 0) (tVar 1)) tNil))))
  (tRet (tVar 0)))
def P_common (G : Pm) : Prop := ∀ x0 x1 H Q E, R_common G x0 x1 H Q E → t_common G E (dn Q) (start n_common [x0, x1]) H
abbrev n_by_shares : List Str := ["table", "one", "other"]
abbrev p_by_shares : List Str := ["table"]
def sp_by_shares (G : Pm) : Sp := sp1 (R_by_shares G)
def t_by_shares (G : Pm) (E : XK) : TS :=
  (tSeq (tDrop (tCall (sp_need_table G) [] E (tCons (tVar 0) tNil)))
  (tSeq (tIfS (tTest (tOp rNe (tOp (rIxL G.K) (tVar 0) (tC (.int 0))) (tC (.int 1))))
  (tRet (tC (.bl false)))
  tNext)
  (tSeq (tFor (iRng2 (tCons (tC (.int 2)) (tCons (tOp oAdd (tCB (bLenQ G.K) (tCons (tVar 0) tNil)) (tC (.int 1))) tNil))) (gName 1)
  (tFor (iRng2 (tCons (tC (.int 2)) (tCons (tOp oAdd (tOp oDiv (tCB (bLenQ G.K) (tCons (tVar 0) tNil)) (tVar 1)) (tC (.int 1))) tNil))) (gName 2)
  (tIfS (tAnd (tTest (tOp rEq (tCall (sp_common G) [] E (tCons (tVar 1) (tCons (tVar 2) tNil))) (tC (.int 1)))) (tTest (tOp rNe (tOp (rIxL G.K) (tVar 0) (tOp oSub (tOp oMul (tVar 1) (tVar 2)) (tC (.int 1)))) (tOp oMul (tOp (rIxL G.K) (tVar 0) (tOp oSub (tVar 1) (tC (.int 1)))) (tOp (rIxL G.K) (tVar 0) (tOp oSub (tVar 2) (tC (.int 1))))))))
  (tRet (tC (.bl false)))
  tNext)))
  (tRet (tC (.bl true))))))
def P_by_shares (G : Pm) : Prop := ∀ x0 H Q E, R_by_shares G x0 H Q E → t_by_shares G E (dn Q) (start n_by_shares [x0]) H
abbrev n__law_is_so : List Str := ["_law_table_here", "_law_a", "_law_b", "_law_shared", "_law_due", "_law_d"]
abbrev p__law_is_so : List Str := ["_law_table_here"]
def sp__law_is_so (G : Pm) : Sp := sp1 (R__law_is_so G)
def t__law_is_so (G : Pm) (E : XK) : TS :=
  (tSeq (tIfS (tTest (tOp rNe (tOp (rIxL G.K) (tVar 0) (tC (.int 0))) (tC (.int 1))))
  (tRet (tC (.bl false)))
  tNext)
  (tSeq (tFor (iRng2 (tCons (tC (.int 1)) (tCons (tOp oAdd (tCB (bLenQ G.K) (tCons (tVar 0) tNil)) (tC (.int 1))) tNil))) (gName 1)
  (tFor (iRng2 (tCons (tC (.int 1)) (tCons (tOp oAdd (tOp oDiv (tCB (bLenQ G.K) (tCons (tVar 0) tNil)) (tVar 1)) (tC (.int 1))) tNil))) (gName 2)
  (tSeq (tAsg (tLc (iRng2 (tCons (tC (.int 2)) (tCons (tOp oAdd (tCB bMin2 (tCons (tVar 1) (tCons (tVar 2) tNil))) (tC (.int 1))) tNil))) (gName 5) (tAnd (tTest (tOp rEq (tOp oMod (tVar 1) (tVar 5)) (tC (.int 0)))) (tTest (tOp rEq (tOp oMod (tVar 2) (tVar 5)) (tC (.int 0))))) (tVar 5) [5]) (gName 3))
  (tSeq (tAsg (tOp oMul (tOp (rIxL G.K) (tVar 0) (tOp oSub (tVar 1) (tC (.int 1)))) (tOp (rIxL G.K) (tVar 0) (tOp oSub (tVar 2) (tC (.int 1))))) (gName 4))
  (tIfS (tAnd (tTest (tOp (rEqD G.K) (tVar 3) (tLst tNil))) (tTest (tOp rNe (tOp (rIxL G.K) (tVar 0) (tOp oSub (tOp oMul (tVar 1) (tVar 2)) (tC (.int 1)))) (tVar 4))))
  (tRet (tC (.bl false)))
  tNext)))))
  (tRet (tC (.bl true)))))
def P__law_is_so (G : Pm) : Prop := ∀ x0 H Q E, R__law_is_so G x0 H Q E → t__law_is_so G E (dn Q) (start n__law_is_so [x0]) H
abbrev n__law_first : List Str := ["_law_n", "_law_prime", "_law_found", "_law_d"]
abbrev p__law_first : List Str := ["_law_n"]
def sp__law_first (G : Pm) : Sp := sp1 (R__law_first G)
def t__law_first (G : Pm) (E : XK) : TS :=
  (tSeq (tAsg (tOp (rIxL G.K) (tLc (iRng2 (tCons (tC (.int 2)) (tCons (tOp oAdd (tVar 0) (tC (.int 1))) tNil))) (gName 3) (tTest (tOp rEq (tOp oMod (tVar 0) (tVar 3)) (tC (.int 0)))) (tVar 3) [3]) (tC (.int 0))) (gName 1))
  (tSeq (tAsg (tVar 1) (gName 2))
  (tSeq (tWhile (tTest (tOp rEq (tOp oMod (tVar 0) (tOp oMul (tVar 2) (tVar 1))) (tC (.int 0))))
  (tAsg (tOp oMul (tVar 2) (tVar 1)) (gName 2)))
  (tRet (tVar 2)))))
def P__law_first (G : Pm) : Prop := ∀ x0 H Q E, R__law_first G x0 H Q E → t__law_first G E (dn Q) (start n__law_first [x0]) H
abbrev n__law_built : List Str := ["_law_more", "_law_size", "_law_found", "_law_n", "_law_part"]
abbrev p__law_built : List Str := ["_law_more", "_law_size"]
def sp__law_built (G : Pm) : Sp := sp2 (R__law_built G)
def t__law_built (G : Pm) (E : XK) : TS :=
  (tSeq (tAsg (tLst (tCons (tC (.int 1)) tNil)) (gName 2))
  (tSeq (tFor (iRng2 (tCons (tC (.int 2)) (tCons (tOp oAdd (tVar 1) (tC (.int 1))) tNil))) (gName 3)
  (tSeq (tAsg (tCall (sp__law_first G) [] E (tCons (tVar 3) tNil)) (gName 4))
  (tIfS (tTest (tOp rEq (tVar 4) (tVar 3)))
  (tDrop (tBM G.K "list" rAppend (tVar 2) (tCons (tOp oSub (tOp oMod (tCall (sp__law_drawn G) [] E (tCons (tVar 0) (tCons (tVar 3) tNil))) (tC (.int 7))) (tC (.int 3))) tNil)))
  (tDrop (tBM G.K "list" rAppend (tVar 2) (tCons (tOp oMul (tOp (rIxL G.K) (tVar 2) (tOp oSub (tVar 4) (tC (.int 1)))) (tOp (rIxL G.K) (tVar 2) (tOp oSub (tOp oDiv (tVar 3) (tVar 4)) (tC (.int 1))))) tNil))))))
  (tRet (tVar 2))))
def P__law_built (G : Pm) : Prop := ∀ x0 x1 H Q E, R__law_built G x0 x1 H Q E → t__law_built G E (dn Q) (start n__law_built [x0, x1]) H
theorem pure__law_word (G : Pm) (h : ErrsOk G.K G.SieveError ((errsL G).map (·.1))) : P__law_word G := by
  intro e C nm H Q hw q
  obtain ⟨j, hj⟩ := List.getElem?_of_mem hw
  have hC : ((errsL G).map (·.1))[j]? = some C := by
    rw [List.getElem?_map, hj]
    rfl
  have mC := List.mem_of_getElem? hC
  obtain ⟨f1, f2, f3⟩ := one_flag C _ j h.nd hC
  have kk := fun D (hD : D ∈ (errsL G).map (·.1)) => h.two C mC D hD
  refine q_asgL (xs := [V.bl (decide (C = G.BadTable)), V.bl (decide (C = G.Unlike)), V.bl (decide (C = G.NoWay))]) (el_lst (ea_cons (ev_isE rfl (kk _ (by simp [errsL]))) (ea_cons (ev_isE rfl (kk _ (by simp [errsL]))) (ea_cons (ev_isE rfl (kk _ (by simp [errsL]))) (ea_nil)))) (by show 3 ≤ 100000; decide)) fun l0 H0 _ e0 h0 => ?_
  refine q_asgL (xs := [V.bl (decide (C = G.BadTable)), V.bl (decide (C = G.Unlike)), V.bl (decide (C = G.NoWay)), V.bl (decide (C = G.BadName))]) (el_cat (ev_var rfl) h0 (el_lst (ea_cons (ev_isE rfl (kk _ (by simp [errsL]))) (ea_nil)) (by show 1 ≤ 100000; decide)) (by simp)) fun l1 H1 _ e1 h1 => ?_
  refine q_asgL (xs := [V.bl (decide (C = G.BadTable)), V.bl (decide (C = G.Unlike)), V.bl (decide (C = G.NoWay)), V.bl (decide (C = G.BadName)), V.bl (decide (C = G.BadNumber)), V.bl (decide (C = G.BadSums))]) (el_cat (ev_var rfl) h1 (el_lst (ea_cons (ev_isE rfl (kk _ (by simp [errsL]))) (ea_cons (ev_isE rfl (kk _ (by simp [errsL]))) (ea_nil))) (by show 2 ≤ 100000; decide)) (by simp)) fun l2 H2 _ e2 h2 => ?_
  have hf : SqL G.K H2 l2 (((((errsL G).map (·.1)).map fun D => decide (C = D))).map V.bl) := sq_of h2
  refine q_when (b := !decide (V.int 1 = V.int 1) || !true) (et_or (et_test (ev_op (ev_is (ev_sumB (el_intsH (ev_var rfl) hf)) (by rw [f1])) ev_c (rv_ne rfl))) fun _ => et_not (et_B (ev_isET rfl (h.one C mC).ve))) (fun hb => by cases hb) fun _ Hn en => ?_
  have hj2 : ([V.str "BadTable", V.str "Unlike", V.str "NoWay", V.str "BadName", V.str "BadNumber", V.str "BadSums"])[j]? = some (.str nm) := by
    have z : ((errsL G).map fun p => V.str p.2)[j]? = some (.str nm) := by
      rw [List.getElem?_map, hj]
      rfl
    exact z
  refine s_ret (v := .str nm) (ev_opL1 (xs := [V.str "BadTable", V.str "Unlike", V.str "NoWay", V.str "BadName", V.str "BadNumber", V.str "BadSums"]) (el_lst (ea_cons ev_c (ea_cons ev_c (ea_cons ev_c (ea_cons ev_c (ea_cons ev_c (ea_cons ev_c (ea_nil))))))) (by show 6 ≤ 100000; decide)) (fun H1 e1 => ev_idx (ev_var rfl) (ex_l (en.trans e1) hf) f2 f3) fun p H1 h1 _ => rv_ixL (sq_of h1) (atI_nat hj2)) fun Hz ez => q Hz (((e0.trans e1).trans e2).trans (en.trans ez))
theorem given_tab (n : Nat) (F : Nat → Int) : given n (fun _ => true) (fun i => V.int (F (i + 1))) = (tab n F).map V.int := by
  rw [given_all, tab, List.map_map]
  rfl
theorem pure__law_table (G : Pm) : P__law_table G := by
  intro x0 x1 H Q E h
  obtain ⟨M, n, rfl, rfl, hn, q⟩ := h
  refine s_retL (xs := (ltab M n).map V.int) ?_ fun p H1 h1 e1 hp => q p H1 h1 e1 hp
  unfold ltab
  rw [← given_tab]
  refine el_lcR1 (n := (n : Int)) (fun _ => true) (fun i => V.int (ltF M (i + 1 - 1))) (ea_cons (ev_var rfl) ea_nil) (by omega) (fun x => rfl) (fun i H1 e1 hi => et_yes) fun i H1 e1 hi _ => ?_
  have dr : Ev (tCall (sp__law_drawn G) [] E0 (tCons (tVar 0) (tCons (tVar 2) tNil))) [some (.int M), some (.int (n : Int)), some (.int (i : Int))] H1 (.int (drawn M (i : Int))) :=
    ev_ca2 (ev_var rfl) (ev_var rfl) fun H2 e2 Q' q' => ⟨_, _, rfl, rfl, by omega, by omega, q'⟩
  refine ev_opL1 (el_lst (ea_cons (ev_op (ev_op dr ev_c (rv_I (by decide))) ev_c rv_I0) (ea_cons (ev_op dr ev_c (rv_I (by decide))) (ea_cons (ev_op (ev_var rfl) ev_c rv_I0) (ea_cons ev_c ea_nil)))) (by show 4 ≤ 100000; decide)) (fun H2 _ => ev_op (ev_var rfl) ev_c (rv_I (by decide))) fun p H2 h2 _ => rv_ixL (sq_of h2) ?_
  show _ = some (V.int (ltF M i))
  unfold ltF
  have : M % 4 = 0 ∨ M % 4 = 1 ∨ M % 4 = 2 ∨ M % 4 = 3 := by omega
  rcases this with e | e | e | e <;> rw [e] <;> rfl
theorem sum_given (n : Nat) (f : Nat → Bool) (g : Nat → Int) : (((List.range n).filter f).map g).sum = S1 n fun a => if f (a - 1) = true then g (a - 1) else 0 := by
  induction n with
  | zero => rfl
  | succ n ih =>
    rw [List.range_succ, List.filter_append, List.map_append, List.sum_append, ih]
    simp only [S1, Nat.add_sub_cancel]
    cases h : f n <;> simp [List.filter, h]
theorem given_mem {n i : Nat} {f : Nat → Bool} {v : Nat → V} {x : V} (h : (given n f v)[i]? = some x) : ∃ k, ((List.range n).filter f)[i]? = some k ∧ x = v k ∧ k < n ∧ f k = true := by
  unfold given at h
  rw [List.getElem?_map] at h
  cases hk : ((List.range n).filter f)[i]? with
  | none =>
    rw [hk] at h
    cases h
  | some k =>
    rw [hk] at h
    have m := List.mem_filter.mp (List.mem_of_getElem? hk)
    exact ⟨k, rfl, (Option.some.inj h).symm, List.mem_range.mp m.1, m.2⟩
theorem gcd_loop {tz : TS} {D : Ends} {H : Hp} (a b : Nat) (k : ∀ H1, Ex H H1 → ∀ y : Nat, tz D [some (.int ((Nat.gcd a b : Nat) : Int)), some (.int (y : Int))] H1) :
    tSeq (tWhile (tTest (tOp cGt (tVar 1) (tC (.int 0)))) (tPar 0 1 (tCons (tVar 1) (tCons (tOp oMod (tVar 0) (tVar 1)) tNil)))) tz D [some (.int (a : Int)), some (.int (b : Int))] H := by
  refine q_whl (fun m σ' H' => ∃ a' b' : Nat, σ' = [some (.int (a' : Int)), some (.int (b' : Int))] ∧ m = b' ∧ Nat.gcd a' b' = Nat.gcd a b ∧ Ex H H') b ⟨a, b, rfl, rfl, rfl, Ex.refl H⟩ ?_
  rintro m σ' H' ⟨a', b', rfl, rfl, hg, e⟩
  refine ⟨decide ((0 : Int) < (m : Int)), ?_, fun hb H1 e1 => ?_, fun hb H1 e1 => ?_⟩
  · walk_at "ev"
  · have hp : 0 < m := by
      have := of_decide_eq_true hb
      omega
    refine s_par (v := .int (m : Int)) (w := .int ((a' % m : Nat) : Int)) (ev_var rfl) ?_ fun H2 e2 => ?_
    · rw [Int.natCast_emod]
      walk_at "ev"
      omega
    · refine ⟨a' % m, Nat.mod_lt _ hp, m, a' % m, rfl, rfl, ?_, (e.trans e1).trans e2⟩
      rw [← hg, Nat.gcd_comm a' m, Nat.gcd_rec m a', Nat.gcd_comm]
  · have h0 : m = 0 := by
      have := of_decide_eq_false hb
      omega
    subst h0
    rw [Nat.gcd_zero_right] at hg
    have := k H1 (e.trans e1) 0
    rw [← hg] at this
    exact this
theorem pure_common (G : Pm) : P_common G := by
  intro x0 x1 H Q E h
  obtain ⟨a, b, rfl, rfl, q⟩ := h
  exact gcd_loop a b fun H1 e1 y => s_ret (ev_var rfl) fun H2 e2 => q.go (e1.trans e2)
/-! ### by_shares -/
theorem pair_ix3 (i k : Nat) : (2 + (i : Int)) * (2 + (k : Int)) - 1 = (((i + 2) * (k + 2) - 1 : Nat) : Int) := by
  have := pair_ix (i + 1) (k + 1)
  rw [show (1 + (((i + 1 : Nat)) : Int)) = 2 + (i : Int) by omega, show (1 + (((k + 1 : Nat)) : Int)) = 2 + (k : Int) by omega] at this
  exact this
theorem ml_of {n : Nat} {f : Nat → Int} (h1 : f 1 = 1) (h : ∀ a b, 2 ≤ a → 2 ≤ b → a * b ≤ n → Nat.gcd a b = 1 → f (a * b) = f a * f b) : Ml n f := ⟨h1, fun a b ha hb hab co => by
  by_cases e1 : a = 1
  · rw [e1, Nat.one_mul, h1, Int.one_mul]
  by_cases e2 : b = 1
  · rw [e2, Nat.mul_one, h1, Int.mul_one]
  exact h a b (by omega) (by omega) hab co⟩
theorem ml_no {n : Nat} {f : Nat → Int} {a b : Nat} (ha : 1 ≤ a) (hb : 1 ≤ b) (hab : a * b ≤ n) (co : Nat.gcd a b = 1) (ne : f (a * b) ≠ f a * f b) : ¬ Ml n f := fun h => ne (h.2 a b ha hb hab co)
theorem mul_le_l {a b n : Nat} (hb : 1 ≤ b) (h : a * b ≤ n) : a ≤ n := Nat.le_trans (Nat.le_mul_of_pos_right a hb) h
theorem mul_le_r {a b n : Nat} (ha : 1 ≤ a) (h : a * b ≤ n) : b ≤ n := Nat.le_trans (Nat.le_mul_of_pos_left b ha) h
theorem bf_iff {p : Prop} (h : ¬ p) : (false = true ↔ p) := ⟨fun z => (by cases z), fun z => (h z).elim⟩
theorem bt_iff {p : Prop} (h : p) : (true = true ↔ p) := ⟨fun _ => h, fun _ => rfl⟩
theorem pure_by_shares (G : Pm) : P_by_shares G := by
  intro x0 H Q E h
  rcases h with ⟨xs, hx, hc, q⟩ | ⟨ho, no⟩
  · refine q_call1 (ev_var rfl) fun H1 e1 => .inl ⟨xs, hx.ex e1, fun H2 e2 => ?_⟩
    obtain ⟨p, rfl, hp, l1, l2⟩ := hx.ex (e1.trans e2)
    have q2 : ∀ b : Bool, (b = true ↔ Ml xs.length (at1 xs)) → RetV (.bl b) H2 Q := fun b hb => RetV.ex (e1.trans e2) (q b hb)
    clear q hx
    have hlen : (xs.map V.int).length = xs.length := List.length_map ..
    have hcm : ∀ a b, 1 ≤ a → a ≤ xs.length → 1 ≤ b → b ≤ xs.length → CM (at1 xs a) (at1 xs b) := fun a b => sm_cm hc
    have hix : ∀ i, i < xs.length → atI (xs.map V.int) (i : Int) = some (.int (at1 xs (i + 1))) := fun i hi => ix_at hi
    generalize hn : xs.length = n at *
    refine q_when (b := !decide (V.int (at1 xs 1) = V.int 1)) (et_test (ev_op (ev_op (ev_var rfl) ev_c (rv_ixL hp (hix 0 (by omega)))) ev_c (rv_ne rfl))) (fun hb H3 e3 => s_ret ev_c fun H4 e4 => q2 false (bf_iff fun z => ?_) H4 (e3.trans e4)) fun hb H3 e3 => ?_
    · rw [z.1] at hb
      simp at hb
    have f1 : at1 xs 1 = 1 := by
      simpa using hb
    refine q_forR2 (lo := 2) (n := (n : Int) + 1) (ea_cons ev_c (ea_cons (ev_op (ev_is (ev_lenL (ev_var rfl) (ex_l e3 hp)) (by rw [hlen])) ev_c rv_I0) ea_nil)) (by omega)
      (fun i σ' H' => ∃ y1 y2 : Option V, σ' = [some (.ref p), y1, y2] ∧ Ex H2 H' ∧ ∀ a b, 2 ≤ a → a < i + 2 → 2 ≤ b → a * b ≤ n → Nat.gcd a b = 1 → at1 xs (a * b) = at1 xs a * at1 xs b)
      (fun H4 e4 => ⟨_, _, rfl, e3.trans e4, fun a b h1 h2 => by omega⟩) ?_ ?_
    · rintro i σ' H4 hi ⟨y1, y2, rfl, e4, inv⟩
      have hi2 : i + 2 ≤ n := by omega
      have hp4 := ex_l e4 hp
      have hq : ((n : Int) / (2 + (i : Int))) = ((n / (i + 2) : Nat) : Int) := by
        rw [Int.natCast_ediv, Int.add_comm]
        rfl
      have hqn : n / (i + 2) ≤ n := Nat.div_le_self _ _
      have hqe : ∀ k, k < n / (i + 2) → (i + 2) * (k + 1) ≤ n := fun k h => div_pair (i := i + 1) h
      have hqf : ∀ b m, (i + 2) * b = m → m ≤ n → b ≤ n / (i + 2) := fun b m h1 h2 => pair_div (by omega) h1 h2
      generalize n / (i + 2) = qq at *
      refine s_forR2 (lo := 2) (n := ((qq : Nat) : Int) + 1) (ea_cons ev_c (ea_cons (ev_op (ev_is (ev_op (ev_is (ev_lenL (ev_var rfl) hp4) (by rw [hlen])) (ev_var rfl) (rv_I (cdiv_w (by omega) (by omega)))) (by rw [hq])) ev_c rv_I0) ea_nil)) (by omega)
        (fun k σ' H' => ∃ y2 : Option V, σ' = [some (.ref p), some (.int (2 + (i : Int))), y2] ∧ Ex H2 H' ∧ ∀ b, 2 ≤ b → b < k + 2 → (i + 2) * b ≤ n → Nat.gcd (i + 2) b = 1 → at1 xs ((i + 2) * b) = at1 xs (i + 2) * at1 xs b)
        (fun H5 e5 => ⟨_, rfl, e4.trans e5, fun b h1 h2 => by omega⟩) ?_ ?_
      · rintro k σ' H5 hk ⟨y2, rfl, e5, inv2⟩
        have hp5 := ex_l e5 hp
        have hik : (i + 2) * (k + 2) ≤ n := hqe (k + 1) (by omega)
        have hpos : 1 ≤ (i + 2) * (k + 2) := Nat.mul_pos (Nat.succ_pos _) (Nat.succ_pos _)
        have hkn : k + 2 ≤ n := mul_le_r (by omega) hik
        have va : ∀ (σ : L2.St) (H' : Hp) (j m : Nat), σ[j]? = some (some (.int (2 + (m : Int)))) → Ev (tVar j) σ H' (.int ((m + 2 : Nat) : Int)) := fun σ H' j m h => ev_is (ev_var h) (by congr 1; omega)
        have vs : ∀ (σ : L2.St) (H' : Hp) (j m : Nat), σ[j]? = some (some (.int (2 + (m : Int)))) → Ev (tOp oSub (tVar j) (tC (.int 1))) σ H' (.int ((m + 1 : Nat) : Int)) := fun σ H' j m h => ev_is (ev_op (ev_var h) ev_c rv_I0) (by congr 1; omega)
        have ij : Ev (tOp oSub (tOp oMul (tVar 1) (tVar 2)) (tC (.int 1))) [some (.ref p), some (.int (2 + (i : Int))), some (.int (2 + (k : Int)))] H5 (.int (((i + 2) * (k + 2) - 1 : Nat) : Int)) := by
          rw [← pair_ix3]
          walk_at "ev"
          exact cm_l (by omega) (by omega)
        have hA := hix ((i + 2) * (k + 2) - 1) (by omega)
        rw [show (i + 2) * (k + 2) - 1 + 1 = (i + 2) * (k + 2) by omega] at hA
        refine s_when (b := decide (V.int ((Nat.gcd (i + 2) (k + 2) : Nat) : Int) = V.int 1) && !decide (V.int (at1 xs ((i + 2) * (k + 2))) = V.int (at1 xs (i + 2) * at1 xs (k + 2)))) ?_ (fun hb H6 e6 => s_ret ev_c fun H7 e7 => q2 false (bf_iff ?_) H7 (e5.trans (e6.trans e7))) fun hb H6 e6 => ⟨_, rfl, e5.trans e6, fun b h1 h2 h3 h4 => ?_⟩
        · refine et_and (et_test (ev_op (ev_ca2 (va _ _ 1 i rfl) (va _ _ 2 k rfl) fun H6 e6 Q' q' => ⟨i + 2, k + 2, rfl, rfl, q'⟩) ev_c (rv_eq rfl))) fun _ => et_test (ev_op (ev_op (ev_var rfl) ij (rv_ixL hp5 hA)) (ev_op (ev_op (ev_var rfl) (vs _ _ 1 i rfl) (rv_ixL hp5 (hix (i + 1) (by omega)))) (ev_op (ev_var rfl) (vs _ _ 2 k rfl) (rv_ixL hp5 (hix (k + 1) (by omega)))) (rv_I (hcm _ _ (by omega) (by omega) (by omega) (by omega)))) (rv_ne rfl))
        · simp only [Bool.and_eq_true, decide_eq_true_eq, Bool.not_eq_true', decide_eq_false_iff_not, V.int.injEq] at hb
          exact ml_no (by omega) (by omega) hik (by omega) hb.2
        · by_cases eb : b = k + 2
          · subst eb
            have g1 : decide (V.int ((Nat.gcd (i + 2) (k + 2) : Nat) : Int) = V.int 1) = true := by
              rw [h4]
              rfl
            rw [g1] at hb
            simpa using hb
          · exact inv2 b h1 (by omega) h3 h4
      · rintro σ' H5 ⟨y2, rfl, e5, inv2⟩
        refine ⟨_, _, rfl, e5, fun a b h1 h2 h3 h4 h5 => ?_⟩
        by_cases ea : a = i + 2
        · subst ea
          have := hqf b _ rfl h4
          exact inv2 b h3 (by omega) h4 h5
        · exact inv a b h1 (by omega) h3 h4 h5
    · rintro σ' H4 ⟨y1, y2, rfl, e4, inv⟩
      refine s_ret ev_c fun H5 e5 => q2 true (bt_iff (ml_of f1 fun a b h1 h2 h3 h4 => ?_)) H5 (e4.trans e5)
      have := mul_le_l (by omega) h3
      exact inv a b h1 (by omega) h2 h3 h4
  · exact q_call1 (ev_var rfl) fun H1 e1 => .inr ⟨ho.ex e1, no.ex e1⟩
/-! ### _law_is_so -/
theorem given_nil {n : Nat} {f : Nat → Bool} {v : Nat → V} : given n f v = [] ↔ ∀ k, k < n → f k = false := by
  unfold given
  rw [List.map_eq_nil_iff, List.filter_eq_nil_iff]
  constructor
  · intro h k hk
    have := h k (List.mem_range.mpr hk)
    simpa using this
  · intro h k hk
    rw [h k (List.mem_range.mp hk)]
    decide
theorem shared_nil (a b : Nat) (ha : 1 ≤ a) (hb : 1 ≤ b) : (∀ k, k < min a b - 1 → ¬ ((a % (k + 2) = 0) ∧ b % (k + 2) = 0)) ↔ Nat.gcd a b = 1 := by
  constructor
  · intro h
    have gp : 0 < Nat.gcd a b := Nat.gcd_pos_of_pos_left _ ha
    rcases Nat.lt_or_ge (Nat.gcd a b) 2 with z | z
    · omega
    · have l1 := Nat.gcd_le_left b ha
      have l2 := Nat.gcd_le_right a hb
      refine absurd ⟨?_, ?_⟩ (h (Nat.gcd a b - 2) (by omega))
      · rw [show Nat.gcd a b - 2 + 2 = Nat.gcd a b by omega]
        exact mod_dvd.mpr (Nat.gcd_dvd_left a b)
      · rw [show Nat.gcd a b - 2 + 2 = Nat.gcd a b by omega]
        exact mod_dvd.mpr (Nat.gcd_dvd_right a b)
  · rintro h k hk ⟨h1, h2⟩
    have := Nat.dvd_gcd (mod_dvd.mp h1) (mod_dvd.mp h2)
    rw [h] at this
    have := Nat.le_of_dvd (by decide) this
    omega
theorem int_mod_dec (a c : Nat) : decide (V.int ((a : Int) % (c : Int)) = V.int 0) = decide (a % c = 0) := by
  rw [← Int.natCast_emod]
  by_cases z : a % c = 0
  · rw [z]
    rfl
  · rw [decide_eq_false z, decide_eq_false]
    intro y
    have := V.int.inj y
    omega
theorem pure__law_is_so (G : Pm) : P__law_is_so G := by
  intro x0 H Q E h
  obtain ⟨xs, ⟨p, rfl, hp, l1, l2⟩, hc, q⟩ := h
  have hlen : (xs.map V.int).length = xs.length := List.length_map ..
  have hcm : ∀ a b, 1 ≤ a → a ≤ xs.length → 1 ≤ b → b ≤ xs.length → CM (at1 xs a) (at1 xs b) := fun a b => sm_cm hc
  have hix : ∀ i, i < xs.length → atI (xs.map V.int) (i : Int) = some (.int (at1 xs (i + 1))) := fun i hi => ix_at hi
  generalize hn : xs.length = n at *
  refine q_when (b := !decide (V.int (at1 xs 1) = V.int 1)) (et_test (ev_op (ev_op (ev_var rfl) ev_c (rv_ixL hp (hix 0 (by omega)))) ev_c (rv_ne rfl))) (fun hb H3 e3 => s_ret ev_c fun H4 e4 => q false (bf_iff fun z => ?_) H4 (e3.trans e4)) fun hb H3 e3 => ?_
  · rw [z.1] at hb
    simp at hb
  have f1 : at1 xs 1 = 1 := by
    simpa using hb
  refine q_forR2 (lo := 1) (n := (n : Int) + 1) (ea_cons ev_c (ea_cons (ev_op (ev_is (ev_lenL (ev_var rfl) (ex_l e3 hp)) (by rw [hlen])) ev_c rv_I0) ea_nil)) (by omega)
    (fun i σ' H' => ∃ y1 y2 y3 y4 y5 : Option V, σ' = [some (.ref p), y1, y2, y3, y4, y5] ∧ Ex H H' ∧ ∀ a b, 1 ≤ a → a < i + 1 → 1 ≤ b → a * b ≤ n → Nat.gcd a b = 1 → at1 xs (a * b) = at1 xs a * at1 xs b)
    (fun H4 e4 => ⟨_, _, _, _, _, rfl, e3.trans e4, fun a b h1 h2 => by omega⟩) ?_ ?_
  · rintro i σ' H4 hi ⟨y1, y2, y3, y4, y5, rfl, e4, inv⟩
    have hi2 : i + 1 ≤ n := by omega
    have hp4 := ex_l e4 hp
    have hq : ((n : Int) / (1 + (i : Int))) = ((n / (i + 1) : Nat) : Int) := by
      rw [Int.natCast_ediv, Int.add_comm]
      rfl
    have hqn : n / (i + 1) ≤ n := Nat.div_le_self _ _
    have hqe : ∀ k, k < n / (i + 1) → (i + 1) * (k + 1) ≤ n := fun k h => div_pair h
    have hqf : ∀ b m, (i + 1) * b = m → m ≤ n → b ≤ n / (i + 1) := fun b m h1 h2 => pair_div (by omega) h1 h2
    generalize n / (i + 1) = qq at *
    refine s_forR2 (lo := 1) (n := ((qq : Nat) : Int) + 1) (ea_cons ev_c (ea_cons (ev_op (ev_is (ev_op (ev_is (ev_lenL (ev_var rfl) hp4) (by rw [hlen])) (ev_var rfl) (rv_I (cdiv_w (by omega) (by omega)))) (by rw [hq])) ev_c rv_I0) ea_nil)) (by omega)
      (fun k σ' H' => ∃ y2 y3 y4 y5 : Option V, σ' = [some (.ref p), some (.int (1 + (i : Int))), y2, y3, y4, y5] ∧ Ex H H' ∧ ∀ b, 1 ≤ b → b < k + 1 → (i + 1) * b ≤ n → Nat.gcd (i + 1) b = 1 → at1 xs ((i + 1) * b) = at1 xs (i + 1) * at1 xs b)
      (fun H5 e5 => ⟨_, _, _, _, rfl, e4.trans e5, fun b h1 h2 => by omega⟩) ?_ ?_
    · rintro k σ' H5 hk ⟨y2, y3, y4, y5, rfl, e5, inv2⟩
      have hp5 := ex_l e5 hp
      have hik : (i + 1) * (k + 1) ≤ n := hqe k (by omega)
      have hpos : 1 ≤ (i + 1) * (k + 1) := Nat.mul_pos (Nat.succ_pos _) (Nat.succ_pos _)
      have hkn : k + 1 ≤ n := mul_le_r (by omega) hik
      have vs : ∀ (σ : L2.St) (H' : Hp) (j m : Nat), σ[j]? = some (some (.int (1 + (m : Int)))) → Ev (tOp oSub (tVar j) (tC (.int 1))) σ H' (.int (m : Int)) := fun σ H' j m h => ev_is (ev_op (ev_var h) ev_c rv_I0) (by congr 1; omega)
      have mo : ∀ (m c : Nat), (1 + (m : Int)) % (2 + (c : Int)) = ((m + 1 : Nat) : Int) % ((c + 2 : Nat) : Int) := fun m c => by
        rw [show (1 + (m : Int)) = ((m + 1 : Nat) : Int) by omega, show (2 + (c : Int)) = ((c + 2 : Nat) : Int) by omega]
      let f : Nat → Bool := fun c => decide ((i + 1) % (c + 2) = 0) && decide ((k + 1) % (c + 2) = 0)
      refine q_asgL (xs := given (min (i + 1) (k + 1) - 1) f fun c => V.int (2 + (c : Int))) ?_ fun sh H6 _ e6 h6 => ?_
      · have := el_lcR2 (σ := [some (.ref p), some (.int (1 + (i : Int))), some (.int (1 + (k : Int))), y3, y4, y5]) (H := H5) (ta := tCons (tC (.int 2)) (tCons (tOp oAdd (tCB bMin2 (tCons (tVar 1) (tCons (tVar 2) tNil))) (tC (.int 1))) tNil)) (j := 5) (vs := [5]) (u := tAnd (tTest (tOp rEq (tOp oMod (tVar 1) (tVar 5)) (tC (.int 0)))) (tTest (tOp rEq (tOp oMod (tVar 2) (tVar 5)) (tC (.int 0))))) (te := tVar 5) (lo := 2) (n := (if 1 + (k : Int) < 1 + (i : Int) then 1 + (k : Int) else 1 + (i : Int)) + 1) f (fun c => V.int (2 + (c : Int))) (ea_cons ev_c (ea_cons (ev_op (ev_minI (ev_var rfl) (ev_var rfl)) ev_c rv_I0) ea_nil)) (by omega) (fun x => rfl)
          (fun c H7 e7 hc => et_and (et_is (et_test (ev_op (ev_op (ev_var rfl) (ev_var rfl) (rv_I (by omega))) ev_c (rv_eq rfl))) (by rw [mo, int_mod_dec])) fun _ => et_is (et_test (ev_op (ev_op (ev_var rfl) (ev_var rfl) (rv_I (by omega))) ev_c (rv_eq rfl))) (by rw [mo, int_mod_dec])) fun c H7 e7 hc _ => ev_var rfl
        rwa [show ((if 1 + (k : Int) < 1 + (i : Int) then 1 + (k : Int) else 1 + (i : Int)) + 1 - 2).toNat = min (i + 1) (k + 1) - 1 by omega] at this
      have nilg : given (min (i + 1) (k + 1) - 1) f (fun c => V.int (2 + (c : Int))) = [] ↔ Nat.gcd (i + 1) (k + 1) = 1 := by
        rw [given_nil, ← shared_nil (i + 1) (k + 1) (by omega) (by omega)]
        constructor
        · intro h c hc ⟨z1, z2⟩
          have := h c hc
          simp [f, z1, z2] at this
        · intro h c hc
          have := h c hc
          by_cases z1 : (i + 1) % (c + 2) = 0 <;> by_cases z2 : (k + 1) % (c + 2) = 0 <;> simp [f, z1, z2]
          exact (this ⟨z1, z2⟩).elim
      have gi : given (min (i + 1) (k + 1) - 1) f (fun c => V.int (2 + (c : Int))) = (((List.range (min (i + 1) (k + 1) - 1)).filter f).map fun c : Nat => (2 + (c : Int) : Int)).map V.int := by
        rw [List.map_map]
        rfl
      have nili : ((((List.range (min (i + 1) (k + 1) - 1)).filter f).map fun c : Nat => (2 + (c : Int) : Int)) = []) ↔ Nat.gcd (i + 1) (k + 1) = 1 := by
        rw [← nilg, gi]
        simp
      rw [gi] at h6
      generalize (((List.range (min (i + 1) (k + 1) - 1)).filter f).map fun c : Nat => (2 + (c : Int) : Int)) = ds at *
      have hp6 := ex_l e6 hp5
      have ij : ∀ (y4 y5 : Option V) H', Ev (tOp oSub (tOp oMul (tVar 1) (tVar 2)) (tC (.int 1))) [some (.ref p), some (.int (1 + (i : Int))), some (.int (1 + (k : Int))), some (.ref sh), y4, y5] H' (.int (((i + 1) * (k + 1) - 1 : Nat) : Int)) := fun y4 y5 H' => by
        rw [← pair_ix]
        walk_at "ev"
        exact cm_l (by omega) (by omega)
      have hA := hix ((i + 1) * (k + 1) - 1) (by omega)
      rw [show (i + 1) * (k + 1) - 1 + 1 = (i + 1) * (k + 1) by omega] at hA
      refine q_asg (v := .int (at1 xs (i + 1) * at1 xs (k + 1))) (ev_op (ev_op (ev_var rfl) (vs _ _ 1 i rfl) (rv_ixL hp6 (hix i (by omega)))) (ev_op (ev_var rfl) (vs _ _ 2 k rfl) (rv_ixL hp6 (hix k (by omega)))) (rv_I (hcm _ _ (by omega) (by omega) (by omega) (by omega)))) fun H7 e7 => ?_
      have hp7 := ex_l e7 hp6
      refine s_when (b := decide (ds = []) && !decide (V.int (at1 xs ((i + 1) * (k + 1))) = V.int (at1 xs (i + 1) * at1 xs (k + 1)))) ?_ (fun hb H8 e8 => s_ret ev_c fun H9 e9 => q false (bf_iff ?_) H9 ((e5.trans (e6.trans e7)).trans (e8.trans e9))) fun hb H8 e8 => ⟨_, _, _, _, rfl, (e5.trans (e6.trans e7)).trans e8, fun b h1 h2 h3 h4 => ?_⟩
      · refine et_and (et_test (ev_opL (ev_var rfl) (el_lst ea_nil (Nat.zero_le _)) fun r H8 h8 e8 => rv_eqI (sq_of (e8 sh _ (e7 sh _ h6))) (ms := []) (sq_of h8))) fun _ => et_test (ev_op (ev_op (ev_var rfl) (ij _ _ _) (rv_ixL hp7 hA)) (ev_var rfl) (rv_ne rfl))
      · simp only [Bool.and_eq_true, decide_eq_true_eq, Bool.not_eq_true', decide_eq_false_iff_not, V.int.injEq] at hb
        exact ml_no (by omega) (by omega) hik (nili.mp hb.1) hb.2
      · by_cases eb : b = k + 1
        · subst eb
          rw [decide_eq_true (nili.mpr h4)] at hb
          simpa using hb
        · exact inv2 b h1 (by omega) h3 h4
    · rintro σ' H5 ⟨y2, y3, y4, y5, rfl, e5, inv2⟩
      refine ⟨_, _, _, _, _, rfl, e5, fun a b h1 h2 h3 h4 h5 => ?_⟩
      by_cases ea : a = i + 1
      · subst ea
        have := hqf b _ rfl h4
        exact inv2 b h3 (by omega) h4 h5
      · exact inv a b h1 (by omega) h3 h4 h5
  · rintro σ' H4 ⟨y1, y2, y3, y4, y5, rfl, e4, inv⟩
    refine s_ret ev_c fun H5 e5 => q true (bt_iff ⟨f1, fun a b h1 h2 h3 h4 => ?_⟩) H5 (e4.trans e5)
    have := mul_le_l (by omega) h3
    exact inv a b h1 (by omega) h2 h3 h4
/-! ### _law_first, _law_built -/
theorem given_first {n : Nat} {f : Nat → Bool} {v : Nat → V} (m : Nat) (hm : m < n) (hf : f m = true) : ∃ c, c < n ∧ f c = true ∧ (∀ d, d < c → f d = false) ∧ (given n f v)[0]? = some (v c) := by
  have e : ((List.range n).filter f)[0]? = (List.range n).find? f := by rw [← List.head?_filter, List.head?_eq_getElem?]
  cases h : (List.range n).find? f with
  | none =>
    have := List.find?_eq_none.mp h m (List.mem_range.mpr hm)
    exact absurd hf this
  | some c =>
    obtain ⟨h1, h2, h3⟩ := List.find?_range_eq_some.mp h
    refine ⟨c, List.mem_range.mp h2, h1, fun d hd => by simpa using h3 d hd, ?_⟩
    unfold given
    rw [List.getElem?_map, e, h]
    rfl
theorem pure__law_first (G : Pm) : P__law_first G := by
  intro x0 H Q E h
  obtain ⟨n, rfl, n2, n5, q⟩ := h
  obtain ⟨c, hc, hfc, hmin, h0⟩ := given_first (n := n - 1) (f := fun c => decide (n % (c + 2) = 0)) (v := fun c => V.int (2 + (c : Int))) (n - 2) (by omega) (by rw [show n - 2 + 2 = n by omega, Nat.mod_self]; rfl)
  have pd : c + 2 ∣ n := mod_dvd.mp (of_decide_eq_true hfc)
  have least : ∀ d, 2 ≤ d → d ∣ n → c + 2 ≤ d := fun d h1 h2 => by
    rcases Nat.lt_or_ge d (c + 2) with z | z
    · have := hmin (d - 2) (by omega)
      rw [show d - 2 + 2 = d by omega, mod_dvd.mpr h2] at this
      cases this
    · exact z
  have mo : ∀ k : Nat, (n : Int) % (2 + (k : Int)) = (n : Int) % ((k + 2 : Nat) : Int) := fun k => by
    rw [show (2 + (k : Int)) = ((k + 2 : Nat) : Int) by omega]
  refine q_asg (v := .int ((c + 2 : Nat) : Int)) (ev_opL1 (xs := given (n - 1) (fun c => decide (n % (c + 2) = 0)) fun c => V.int (2 + (c : Int))) ?_ (fun H1 e1 => ev_c) fun p H1 h1 _ => rv_ixL (sq_of h1) ?_) fun H1 e1 => ?_
  · have := el_lcR2 (σ := [some (.int (n : Int)), none, none, none]) (H := H) (ta := tCons (tC (.int 2)) (tCons (tOp oAdd (tVar 0) (tC (.int 1))) tNil)) (j := 3) (vs := [3]) (u := tTest (tOp rEq (tOp oMod (tVar 0) (tVar 3)) (tC (.int 0)))) (te := tVar 3) (lo := 2) (n := (n : Int) + 1) (fun c => decide (n % (c + 2) = 0)) (fun c => V.int (2 + (c : Int))) (ea_cons ev_c (ea_cons (ev_op (ev_var rfl) ev_c rv_I0) ea_nil)) (by omega) (fun x => rfl)
      (fun k H7 e7 hk => et_is (et_test (ev_op (ev_op (ev_var rfl) (ev_var rfl) (rv_I (by omega))) ev_c (rv_eq rfl))) (by rw [mo, int_mod_dec])) fun k H7 e7 hk _ => ev_var rfl
    rwa [show ((n : Int) + 1 - 2).toNat = n - 1 by omega] at this
  · rw [show ((c + 2 : Nat) : Int) = 2 + (c : Int) by omega]
    exact atI_nat h0
  generalize hp : c + 2 = p at *
  have p2 : 2 ≤ p := by omega
  have pn : p ≤ n := Nat.le_of_dvd (by omega) pd
  refine q_asg (v := .int (p : Int)) (ev_var rfl) fun H2 e2 => ?_
  refine q_whl (fun m σ' H' => ∃ k, 1 ≤ k ∧ σ' = [some (.int (n : Int)), some (.int (p : Int)), some (.int ((p ^ k : Nat) : Int)), none] ∧ p ^ k ∣ n ∧ m = n - p ^ k ∧ Ex H H') (n - p ^ 1) ⟨1, Nat.le_refl 1, by rw [Nat.pow_one]; rfl, by rw [Nat.pow_one]; exact pd, rfl, e1.trans e2⟩ ?_
  rintro m σ' H' ⟨k, k1, rfl, kd, rfl, e⟩
  have kn : p ^ k ≤ n := Nat.le_of_dvd (by omega) kd
  have kp : 0 < p ^ k := Nat.pow_pos (by omega)
  have cst : ((p ^ k : Nat) : Int) * (p : Int) = ((p ^ (k + 1) : Nat) : Int) := by rw [Nat.pow_succ, Int.natCast_mul]
  have klt : p ^ k < p ^ (k + 1) := Nat.pow_lt_pow_right (by omega) (Nat.lt_succ_self k)
  refine ⟨decide (n % p ^ (k + 1) = 0), ?_, fun hb H3 e3 => ?_, fun hb H3 e3 => ?_⟩
  · refine et_is (et_test (ev_op (ev_op (ev_var rfl) (ev_is (ev_op (ev_var rfl) (ev_var rfl) (rv_I (cm_l (by omega) (by omega)))) (by rw [cst])) (rv_I (by omega))) ev_c (rv_eq rfl))) (by rw [int_mod_dec])
  · have d := mod_dvd.mp (of_decide_eq_true hb)
    have dn : p ^ (k + 1) ≤ n := Nat.le_of_dvd (by omega) d
    refine s_asg (v := .int ((p ^ (k + 1) : Nat) : Int)) (ev_is (ev_op (ev_var rfl) (ev_var rfl) (rv_I (cm_l (by omega) (by omega)))) (by rw [cst])) fun H4 e4 => ⟨n - p ^ (k + 1), by omega, k + 1, by omega, rfl, d, rfl, (e.trans e3).trans e4⟩
  · have nd : ¬ p ^ (k + 1) ∣ n := fun z => of_decide_eq_false hb (mod_dvd.mpr z)
    exact s_ret (ev_var rfl) fun H4 e4 => q _ ⟨p, k, p2, pd, least, k1, rfl, kd, nd⟩ H4 ((e.trans e3).trans e4)
theorem tab_snoc (n : Nat) (F : Nat → Int) : tab (n + 1) F = tab n F ++ [F (n + 1)] := by
  rw [tab, List.range_succ, List.map_append]
  rfl
theorem bu_snoc {n q : Nat} {F : Nat → Int} {v : Int} (h : Bu n F) (n1 : 1 ≤ n) (hq : IsPart (n + 1) q) (h1 : q = n + 1 → -3 ≤ v ∧ v ≤ 3) (h2 : q ≠ n + 1 → v = F q * F ((n + 1) / q)) : Bu (n + 1) fun m => if m = n + 1 then v else F m := by
  have old : ∀ m, m ≤ n → (if m = n + 1 then v else F m) = F m := fun m hm => if_neg (by omega)
  refine ⟨(old 1 n1).trans h.1, fun m h3 h4 => ?_⟩
  dsimp only
  by_cases e : m = n + 1
  · subst e
    have l : q ≤ n + 1 := Nat.le_of_dvd (by omega) hq.dvd
    refine ⟨q, hq, fun z => by rw [if_pos rfl]; exact h1 z, fun z => ?_⟩
    have dq : (n + 1) / q < n + 1 := Nat.div_lt_self (by omega) hq.two
    rw [if_pos rfl, old q (by omega), old _ (by omega)]
    exact h2 z
  · obtain ⟨r, hr, a1, a2⟩ := h.2 m h3 (by omega)
    have l : r ≤ m := Nat.le_of_dvd (by omega) hr.dvd
    have l2 : m / r ≤ m := Nat.div_le_self _ _
    refine ⟨r, hr, fun z => by rw [old m (by omega)]; exact a1 z, fun z => ?_⟩
    rw [old m (by omega), old r (by omega), old _ (by omega)]
    exact a2 z
theorem bu_lt {n : Nat} {F : Nat → Int} (h : Bu n F) (hn : n ≤ 60) (m : Nat) (h1 : 1 ≤ m) (h2 : m ≤ n) : (F m).natAbs < 2 ^ 121 := by
  refine Nat.lt_of_le_of_lt (bu_abs h m h1 h2) ?_
  exact Nat.pow_lt_pow_right (by decide) (by omega)
theorem pure__law_built (G : Pm) : P__law_built G := by
  intro x0 x1 H Q E h
  obtain ⟨M, n, rfl, rfl, n1, n6, q⟩ := h
  refine q_asgL (xs := (tab 1 fun _ => 1).map V.int) (el_lst (ea_cons ev_c ea_nil) (by show 1 ≤ 100000; decide)) fun l H1 l0 e1 h1 => ?_
  refine q_forR2 (lo := 2) (n := (n : Int) + 1) (ea_cons ev_c (ea_cons (ev_op (ev_var rfl) ev_c rv_I0) ea_nil)) (by omega)
    (fun i σ' H' => ∃ (F : Nat → Int) (y3 y4 : Option V), σ' = [some (.int M), some (.int (n : Int)), some (.ref l), y3, y4] ∧ Ex H H' ∧ H' l = some (.lst ((tab (i + 1) F).map V.int)) ∧ Bu (i + 1) F)
    (fun H2 e2 => ⟨_, _, _, rfl, e1.trans e2, e2 l _ h1, rfl, fun m h1 h2 => by omega⟩) ?_ ?_
  · rintro i σ' H2 hi ⟨F, y3, y4, rfl, e2, h2, hB⟩
    have hi2 : i + 2 ≤ n := by omega
    refine q_asgC1 (ev_is (w := .int ((i + 2 : Nat) : Int)) (ev_var rfl) (by congr 1; omega)) fun H3 e3 => ⟨i + 2, rfl, by omega, by omega, fun qq hq H4 e4 => ?_⟩
    have q2 := hq.two
    have ql : qq ≤ i + 2 := Nat.le_of_dvd (by omega) hq.dvd
    have e34 := e3.trans e4
    have hl4 := e34 l _ h2
    have fin2 : ∀ (v : Int) H5, Ex H4 H5 → (qq = i + 2 → -3 ≤ v ∧ v ≤ 3) → (qq ≠ i + 2 → v = F qq * F ((i + 2) / qq)) → ∃ (F' : Nat → Int) (y3 y4 : Option V), [some (V.int M), some (.int (n : Int)), some (.ref l), some (.int (2 + (i : Int))), some (.int (qq : Int))] = [some (.int M), some (.int (n : Int)), some (.ref l), y3, y4] ∧ Ex H (upd H5 l (.lst ((tab (i + 1) F).map V.int ++ [V.int v]))) ∧ (upd H5 l (.lst ((tab (i + 1) F).map V.int ++ [V.int v]))) l = some (.lst ((tab (i + 1 + 1) F').map V.int)) ∧ Bu (i + 1 + 1) F' := fun v H5 e5 a b => by
      refine ⟨fun m => if m = i + 1 + 1 then v else F m, _, _, rfl, Ex.mut (e2.trans (e34.trans e5)) l0, ?_, bu_snoc hB (by omega) hq a b⟩
      have t1 : tab (i + 1) (fun m => if m = i + 1 + 1 then v else F m) = tab (i + 1) F := tab_congr fun m _ h => if_neg (by omega)
      have t2 : (tab (i + 1 + 1) fun m => if m = i + 1 + 1 then v else F m) = tab (i + 1) F ++ [v] := by
        rw [tab_snoc, t1, if_pos rfl]
      rw [upd_same, t2, List.map_append]
      rfl
    refine s_if (b := decide (qq = i + 2)) (et_is (et_test (ev_op (ev_var rfl) (ev_is (w := .int ((i + 2 : Nat) : Int)) (ev_var rfl) (by congr 1; omega)) (rv_eq rfl))) ?_) (fun hb H5 e5 => ?_) fun hb H5 e5 => ?_
    · by_cases z : qq = i + 2
      · subst z
        simp
      · rw [decide_eq_false z, decide_eq_false]
        intro y
        have := V.int.inj y
        omega
    · refine s_app (v := .int (drawn M (2 + (i : Int)) % 7 - 3)) (e5 l _ hl4) (ev_var rfl) (ev_op (ev_op (ev_ca2 (ev_var rfl) (ev_var rfl) fun H6 e6 Q' q' => ⟨_, _, rfl, rfl, by omega, by omega, q'⟩) ev_c (rv_I (by decide))) ev_c rv_I0) (by rw [tabV_len]; omega) fun H6 e6 => fin2 _ H6 (e5.trans e6) (fun _ => by omega) fun z => (z (of_decide_eq_true hb)).elim
    · have ne := of_decide_eq_false hb
      have d1 : 1 ≤ (i + 2) / qq := Nat.div_pos ql (by omega)
      have d2 : (i + 2) / qq < i + 2 := Nat.div_lt_self (by omega) q2
      have dc : (2 + (i : Int)) / (qq : Int) = (((i + 2) / qq : Nat) : Int) := by
        rw [Int.natCast_ediv, show ((i + 2 : Nat) : Int) = 2 + (i : Int) by omega]
      have w1 := bu_lt hB (by omega) qq (by omega) (by omega)
      have w2 := bu_lt hB (by omega) ((i + 2) / qq) d1 (by omega)
      have f2 := fin2 (F qq * F ((i + 2) / qq))
      generalize (i + 2) / qq = r at *
      have hi1 := ix_tab (n := i + 1) (i := qq - 1) (F := F) (by omega)
      have hi2 := ix_tab (n := i + 1) (i := r - 1) (F := F) (by omega)
      rw [show qq - 1 + 1 = qq by omega] at hi1
      rw [show r - 1 + 1 = r by omega] at hi2
      have hl5 := e5 l _ hl4
      refine s_app (v := .int (F qq * F r)) hl5 (ev_var rfl) (ev_op (ev_op (ev_var rfl) (ev_is (w := .int ((qq - 1 : Nat) : Int)) (ev_op (ev_var rfl) ev_c rv_I0) (by congr 1; omega)) (rv_ixL (sq_of hl5) hi1)) (ev_op (ev_var rfl) (ev_is (w := .int ((r - 1 : Nat) : Int)) (ev_op (ev_op (ev_var rfl) (ev_var rfl) (rv_I (cdiv_w (by omega) (by omega)))) ev_c rv_I0) (by rw [dc]; congr 1; omega)) (rv_ixL (sq_of hl5) hi2)) (rv_I (.inr (wide_mul w1 w2 (by decide) (by decide) (by decide))))) (by rw [tabV_len]; omega) fun H6 e6 => f2 H6 (e5.trans e6) (fun z => (ne z).elim) fun _ => rfl
  · rintro σ' H2 ⟨F, y3, y4, rfl, e2, h2, hB⟩
    rw [show ((n : Int) + 1 - 2).toNat + 1 = n by omega] at h2 hB
    exact s_ret (ev_var rfl) fun H3 e3 => q F hB l H3 l0 (e2.trans e3) (e3 l _ h2)
end Sv

set_option Elab.async false
set_option linter.all false
set_option maxRecDepth 100000
set_option maxHeartbeats 4000000
namespace Sv
open PySem PySem.Spec PyProof.Rows L2 Evl HotX L2H LamX
local macro_rules | `(tactic| walk_at "ev") => `(tactic| (repeat' (first | exact ev_var rfl | exact ev_c | exact rv_I0 | exact ea_nil | exact ru_neg | exact rv_eq rfl | exact rv_ne rfl | apply ev_op | apply rv_I | apply ev_un | apply et_test | apply et_B | apply et_not | apply ea_cons | apply ev_maxI | apply ev_minI)))
def R_law (G : Pm) (T : List (Addr × Str)) : R1 := LawR G T
abbrev n_law : List Str := ["_law_script", "_law_k", "_law_more", "_law_size", "_law_table_here", "_law_other", "_law_bent", "_law_at", "_law_row", "_law_found"]
abbrev p_law : List Str := ["_law_script"]
def sp_law (G : Pm) (T : List (Addr × Str)) : Sp := sp1 (R_law G T)
def t_law (G : Pm) (T : List (Addr × Str)) (E : XK) : TS :=
  (tSeq (tFor (iRng1 (tCons (tCB bMax2 (tCons (tC (.int 1)) (tCons (tCB bMin2 (tCons (tC (.int 4)) (tCons (tCB (bLenQ G.K) (tCons (tVar 0) tNil)) tNil))) tNil))) tNil)) (gName 1)
  (tSeq (tAsg (tCall (sp__law_drawn G) [] E (tCons (tCall (sp__law_cell G) [] E (tCons (tVar 0) (tCons (tVar 1) tNil))) (tCons (tVar 1) tNil))) (gName 2))
  (tSeq (tAsg (tOp oAdd (tC (.int 1)) (tOp oMod (tOp oDiv (tVar 2) (tC (.int 8))) (tC (.int 60)))) (gName 3))
  (tSeq (tAsg (tCall (sp__law_built G) [] E (tCons (tOp oDiv (tVar 2) (tC (.int 512))) (tCons (tVar 3) tNil))) (gName 4))
  (tSeq (tAsg (tCall (sp__law_built G) [] E (tCons (tOp oDiv (tVar 2) (tOp oPow (tC (.int 2)) (tC (.int 12)))) (tCons (tVar 3) tNil))) (gName 5))
  (tSeq (tIfS (tOr (tTest (tOp rNotBl (tCall (sp_by_shares G) [] E (tCons (tCB (bListOf G.K) (tCons (tVar 4) tNil)) tNil)) (tC (.bl true)))) (tTest (tOp rNotBl (tCall (sp_by_shares G) [] E (tCons (tCall (sp_together G) [] E (tCons (tVar 4) (tCons (tVar 5) tNil))) tNil)) (tC (.bl true)))))
  (tRet (tC (.bl false)))
  tNext)
  (tSeq (tIfS (tTest (tOp rNotBl (tCall (sp_by_shares G) [] E (tCons (tCall (sp_taken_back G) [] E (tCons (tVar 4) tNil)) tNil)) (tC (.bl true))))
  (tRet (tC (.bl false)))
  tNext)
  (tSeq (tAsg (tCB (bListOf G.K) (tCons (tVar 4) tNil)) (gName 6))
  (tSeq (tAsg (tOp oMod (tOp oDiv (tVar 2) (tOp oPow (tC (.int 2)) (tC (.int 20)))) (tVar 3)) (gName 7))
  (tSeq (tAsg (tOp oAdd (tOp oAdd (tOp (rIxL G.K) (tVar 6) (tVar 7)) (tC (.int 1))) (tOp oMod (tOp oDiv (tVar 2) (tOp oPow (tC (.int 2)) (tC (.int 28)))) (tC (.int 3)))) (gSub (tVar 6) (tVar 7) rSetL))
  (tSeq (tFor (iList G.K (tLst (tCons (tVar 6) (tCons (tCall (sp__law_table G) [] E (tCons (tOp oDiv (tVar 2) (tC (.int 64))) (tCons (tVar 3) tNil))) tNil)))) (gName 8)
  (tSeq (tAsg (tCall (sp_by_shares G) [] E (tCons (tVar 8) tNil)) (gName 9))
  (tIfS (tOr (tNot (tB (tCB (rIsi G.K) (tCons (tVar 9) (tCons (tC (.ty "bool")) tNil))))) (tTest (tOp rNe (tVar 9) (tCall (sp__law_is_so G) [] E (tCons (tVar 8) tNil)))))
  (tRet (tC (.bl false)))
  tNext)))
  (tIfS (tTest (tOp rNe (tTold T (WE G) fun E => (tCall (sp_by_shares G) [] E (tCons (tOp (rIxL G.K) (tLst (tCons (tLst tNil) (tCons (tC .non) (tCons (tLst (tCons (tC (.bl true)) tNil)) tNil)))) (tOp oMod (tVar 2) (tC (.int 3)))) tNil))) (tC (.str "BadTable"))))
  (tRet (tC (.bl false)))
  tNext))))))))))))
  (tRet (tC (.bl true))))
def P_law (G : Pm) : Prop := ∀ T x0 H Q E, R_law G T x0 H Q E → t_law G T E (dn Q) (start n_law [x0]) H
section
variable {K : PySem.W.Frag} {H H' : Hp} {T : List (Addr × Str)} {x : V} {ns : List Int}
theorem IsTab.nx (n : NX T H H') (h : IsTab K H x ns) : IsTab K H' x ns := by
  obtain ⟨p, h1, h2, h3, h4⟩ := h
  exact ⟨p, h1, n.l h2, h3, h4⟩
theorem isTab_of {p : Addr} (h : H p = some (.lst (ns.map V.int))) (h1 : 1 ≤ ns.length) (h2 : ns.length ≤ 500) : IsTab K H (.ref p) ns := ⟨p, rfl, sq_of h, h1, h2⟩
theorem IsTab.sq {p : Addr} (h : IsTab K H (.ref p) ns) : SqL K H p (ns.map V.int) := by
  obtain ⟨q, e, h2, _⟩ := h
  cases e
  exact h2
theorem oddS : ∀ v H H', Ex H H' → Odd K H v → Odd K H' v := fun _ _ _ e h => h.ex e
/-- what is odd stays so past what is told, if it's a list, a tuple or None -/
def OddN (K : PySem.W.Frag) (H : Hp) (x : V) : Prop := x = .non ∨ (∃ p xs, x = .ref p ∧ SqT K H p xs) ∨
  ∃ p xs, x = .ref p ∧ SqL K H p xs ∧ (xs.length = 0 ∨ 500 < xs.length ∨ (1 ≤ xs.length ∧ xs.length ≤ 500 ∧ xs.all flatV = true ∧ xs.all isI = false))
theorem OddN.odd (h : OddN K H x) : Odd K H x := by
  rcases h with rfl | ⟨p, xs, rfl, h⟩ | ⟨p, xs, rfl, h, h2⟩
  · exact .inl ⟨"NoneType", fun _ _ => .base .non, by decide +kernel⟩
  · exact .inl ⟨"tuple", fun _ e => ty_t (ex_t e h), by decide +kernel⟩
  · exact .inr ⟨p, xs, rfl, h, h2⟩
theorem OddN.nx (n : NX T H H') (h : OddN K H x) : OddN K H' x := by
  rcases h with rfl | ⟨p, xs, rfl, h⟩ | ⟨p, xs, rfl, h, h2⟩
  · exact .inl rfl
  · exact .inr (.inl ⟨p, xs, rfl, n.tq h⟩)
  · exact .inr (.inr ⟨p, xs, rfl, n.l h, h2⟩)
theorem oddNS : ∀ v H H', Ex H H' → OddN K H v → OddN K H' v := fun v H H' e h => by
  rcases h with rfl | ⟨p, xs, rfl, h⟩ | ⟨p, xs, rfl, h, h2⟩
  · exact .inl rfl
  · exact .inr (.inl ⟨p, xs, rfl, ex_t e h⟩)
  · exact .inr (.inr ⟨p, xs, rfl, ex_l e h, h2⟩)
end
section
variable {G : Pm} {σ : L2.St} {H : Hp} {ta tb : TE} {x y : V} {E : XK} {A B S : List Int}
theorem el_tog (ha : Ev ta σ H x) (hb : Ev tb σ H y) (hx : IsTab G.K H x A) (hy : IsTab G.K H y B) (hl : A.length = B.length) (hs : Sm A ∨ Sm B) : EvL (tCall (sp_together G) [] E (tCons ta (tCons tb tNil))) σ H ((conv A B).map V.int) :=
  el_ca2 ha hb fun H1 e1 Q' q' => .inl ⟨A, B, hx.ex e1, hy.ex e1, hl, cmpS hs, q'⟩
theorem el_togL (ha : Ev ta σ H x) (hb : EvL tb σ H (B.map V.int)) (hx : IsTab G.K H x A) (hB : 1 ≤ B.length ∧ B.length ≤ 500) (hl : A.length = B.length) (hs : Sm A ∨ Sm B) : EvL (tCall (sp_together G) [] E (tCons ta (tCons tb tNil))) σ H ((conv A B).map V.int) :=
  el_ca2L ha hb fun q H1 e1 h1 Q' q' => .inl ⟨A, B, hx.ex e1, isTab_of h1 hB.1 hB.2, hl, cmpS hs, q'⟩
theorem el_tb (ha : Ev ta σ H x) (hx : IsTab G.K H x A) (hb : Back A B) (h1 : at1 A 1 = 1 ∨ at1 A 1 = -1) (hs : Sm A ∨ Sm B) : EvL (tCall (sp_taken_back G) [] E (tCons ta tNil)) σ H (B.map V.int) :=
  el_ca1 ha fun H1 e1 Q' q' => .inl ⟨A, B, hx.ex e1, hb, h1, cmpS hs.symm, q'⟩
end
theorem drop_int (A : List Int) : (A.map V.int).drop 1 = (A.drop 1).map V.int := by rw [List.map_drop]
theorem sm_drop {A : List Int} (h : Sm A) : Sm (A.drop 1) := fun z hz => h z (List.mem_of_mem_drop hz)
theorem sm_cons {A : List Int} {z : Int} (h : Sm A) (h1 : -(2 ^ 64) < z) (h2 : z < 2 ^ 64) : Sm (z :: A) := fun y hy => by
  rcases List.mem_cons.mp hy with rfl | hy
  · exact ⟨h1, h2⟩
  · exact h y hy
theorem at1_cons (z : Int) (A : List Int) : at1 (z :: A) 1 = z := rfl
section
variable {G : Pm} {σ : L2.St} {H : Hp} {ta tb : TE} {x y : V} {E : XK} {A B S : List Int}
theorem el_togC (ha : Ev ta σ H x) (hb : Ev tb σ H y) (hx : IsTab G.K H x A) (hy : IsTab G.K H y B) (hl : A.length = B.length) (hs : Cmp A B) : EvL (tCall (sp_together G) [] E (tCons ta (tCons tb tNil))) σ H ((conv A B).map V.int) :=
  el_ca2 ha hb fun H1 e1 Q' q' => .inl ⟨A, B, hx.ex e1, hy.ex e1, hl, hs, q'⟩
theorem el_tbC (ha : Ev ta σ H x) (hx : IsTab G.K H x A) (hb : Back A B) (h1 : at1 A 1 = 1 ∨ at1 A 1 = -1) (hs : Cmp B A) : EvL (tCall (sp_taken_back G) [] E (tCons ta tNil)) σ H (B.map V.int) :=
  el_ca1 ha fun H1 e1 Q' q' => .inl ⟨A, B, hx.ex e1, hb, h1, hs, q'⟩
theorem ev_bsL (ha : EvL ta σ H (A.map V.int)) (h1 : 1 ≤ A.length) (h2 : A.length ≤ 500) (hc : Cmp A A) (hm : Ml A.length (at1 A)) : Ev (tCall (sp_by_shares G) [] E (tCons ta tNil)) σ H (.bl true) :=
  ev_ca1L ha fun p H1 e1 hp Q' q' => .inl ⟨A, isTab_of hp h1 h2, hc, fun b hb => by
    have : b = true := hb.mpr hm
    subst this
    exact q'⟩
end
theorem ml_congr {n : Nat} {f g : Nat → Int} (h : ∀ m, 1 ≤ m → m ≤ n → f m = g m) (n1 : 1 ≤ n) (hf : Ml n f) : Ml n g := ⟨by rw [← h 1 (Nat.le_refl 1) n1]; exact hf.1, fun a b ha hb hab co => by
  rw [← h _ (Nat.mul_pos ha hb) hab, ← h a ha (mul_le_l hb hab), ← h b hb (mul_le_r ha hab)]
  exact hf.2 a b ha hb hab co⟩
theorem tab_abs {n A : Nat} {F : Nat → Int} (h : ∀ m, 1 ≤ m → m ≤ n → (F m).natAbs < A) : ∀ z ∈ tab n F, z.natAbs < A := fun z hz => by
  obtain ⟨m, h1, h2, rfl⟩ := tab_mem hz
  exact h m h1 h2
theorem two_le {a b : Nat} (h : a ≤ b) : 2 ^ a ≤ 2 ^ b := Nat.pow_le_pow_right (by decide) h
/-- what is known of a table that the law built -/
structure Blt (n : Nat) (A : List Int) : Prop where
  len : A.length = n
  ml : Ml n (at1 A)
  lt : ∀ z ∈ A, z.natAbs < 2 ^ 121
theorem blt_of {n : Nat} {F : Nat → Int} (n1 : 1 ≤ n) (h6 : n ≤ 60) (h : Bu n F) : Blt n (tab n F) := ⟨tab_len, ml_congr (fun m h1 h2 => (tab_at h1 h2).symm) n1 (ml_bu h), tab_abs fun m h1 h2 => bu_lt h h6 m h1 h2⟩
theorem blt_at {n m : Nat} {A : List Int} (h : Blt n A) (h1 : 1 ≤ m) (h2 : m ≤ n) : (at1 A m).natAbs < 2 ^ 121 := h.lt _ (at1_mem h1 (by rw [h.len]; exact h2))
theorem blt_conv {n : Nat} {A B : List Int} (n6 : n ≤ 60) (hA : Blt n A) (hB : Blt n B) : Ml n (at1 (conv A B)) ∧ ∀ z ∈ conv A B, z.natAbs < 2 ^ 260 := by
  have e : conv A B = tab n (dv (at1 A) (at1 B)) := by
    unfold conv
    rw [hA.len]
  rw [e]
  refine ⟨?_, tab_abs fun m h1 h2 => ?_⟩
  · rcases Nat.eq_zero_or_pos n with z | n1
    · refine absurd hA.ml.1 ?_
      have := hA.len
      rw [z] at this
      rw [List.length_eq_zero_iff.mp this]
      decide
    exact ml_congr (fun m h1 h2 => (tab_at h1 h2).symm) n1 (ml_dv hA.ml hB.ml)
  · have := dv_abs (f := at1 A) (g := at1 B) (A := 2 ^ 121) (B := 2 ^ 121) h1 (fun a h3 h4 => Nat.le_of_lt (blt_at hA h3 (by omega))) (fun a h3 h4 => Nat.le_of_lt (blt_at hB h3 (by omega)))
    refine Nat.lt_of_le_of_lt this ?_
    refine Nat.lt_of_le_of_lt (Nat.mul_le_mul_right _ (Nat.le_trans h2 n6)) ?_
    decide
theorem blt_back {n : Nat} {A R : List Int} (n1 : 1 ≤ n) (n6 : n ≤ 60) (hA : Blt n A) (hR : Back A R) : Ml n (at1 R) ∧ ∀ z ∈ R, z.natAbs < 2 ^ 10000 := by
  have hl := hR.1
  have hb := hR.2
  rw [hA.len] at hl hb
  refine ⟨ml_inv hA.ml n1 hb, ?_⟩
  have e := tab_self R
  rw [hl] at e
  rw [← e]
  refine tab_abs fun m h1 h2 => ?_
  have := inv_abs (N := n) (by omega) hA.ml.1 (fun a h3 h4 => Nat.le_of_lt (Nat.lt_of_lt_of_le (blt_at hA h3 h4) (two_le (by decide)))) hb m h1 h2
  exact Nat.lt_of_le_of_lt this (Nat.pow_lt_pow_right (by decide) (by omega))
theorem set_int (A : List Int) (i : Nat) (v : Int) : (A.map V.int).set i (.int v) = (A.set i v).map V.int := by rw [List.map_set]
theorem pure_law (G : Pm) : P_law G := by
  intro T x0 H0 Q E h
  obtain ⟨a, ns, rfl, hS, hl, _, hT0, q⟩ := h
  have hlN : (ns.map V.int).length ≤ 63 := by
    rw [List.length_map]
    exact hl
  refine q_forR1 (n := if (if ((ns.map V.int).length : Int) < 4 then ((ns.map V.int).length : Int) else 4) > 1 then (if ((ns.map V.int).length : Int) < 4 then ((ns.map V.int).length : Int) else 4) else 1)
    (ea_cons (ev_maxI ev_c (ev_minI ev_c (ev_lenL (ev_var rfl) hS))) ea_nil) (by omega)
    (fun i σ' H' => ∃ y1 y2 y3 y4 y5 y6 y7 y8 y9 : Option V, σ' = [some (.ref a), y1, y2, y3, y4, y5, y6, y7, y8, y9] ∧ NX T H0 H') (fun H1 e1 => ⟨_, _, _, _, _, _, _, _, _, rfl, nx_of hT0 e1⟩) ?_ ?_
  · rintro i σ' H hi ⟨y1, y2, y3, y4, y5, y6, y7, y8, y9, rfl, nH⟩
    have hi4 : i ≤ 4 := by omega
    have hSH := nH.l hS
    refine q_asg (v := .int (drawn (cellS ns i) (i : Int))) (ev_ca2 (ev_ca2 (ev_var rfl) (ev_var rfl) fun H1 e1 Q' q' => ⟨a, ns, i, rfl, rfl, ex_l e1 hSH, hl, by omega, q'⟩) (ev_var rfl) fun H1 e1 Q' q' => ⟨_, _, rfl, rfl, by omega, by omega, q'⟩) fun H1 e1 => ?_
    have m0 := drawn_nn (cellS ns i) (i : Int)
    have m1 := drawn_lt (cellS ns i) (i : Int)
    generalize drawn (cellS ns i) (i : Int) = M at *
    obtain ⟨n, hn⟩ : ∃ n : Nat, 1 + M / 8 % 60 = (n : Int) := nat_of (by omega)
    have n1 : 1 ≤ n := by omega
    have n6 : n ≤ 60 := by omega
    refine q_asg (v := .int (n : Int)) ?_ fun H2 e2 => ?_
    · rw [← hn]
      walk_at "ev"
      · exact cdiv_w (by decide) (by decide)
      · decide
    refine q_asgC2 (ev_op (ev_var rfl) ev_c (rv_I (cdiv_w (by decide) (by decide)))) (ev_var rfl) fun H2' e2' => ⟨_, n, rfl, rfl, n1, n6, fun FA hFA o H3 _ e3' h3 => ?_⟩
    have bA := blt_of n1 n6 hFA
    generalize tab n FA = A at *
    refine q_asgC2 (ev_op (ev_var rfl) (ev_op ev_c ev_c (rv_I ⟨by decide, by decide, by decide⟩)) (rv_I (cdiv_w (by decide) (by decide)))) (ev_var rfl) fun H3' e3'' => ⟨_, n, rfl, rfl, n1, n6, fun FB hFB ot H4 _ e4' h4 => ?_⟩
    have bB := blt_of n1 n6 hFB
    generalize tab n FB = B at *
    have e34 := e3''.trans e4'
    have lA := bA.len
    have lB := bB.len
    have rA := e34 o _ h3
    have tA : IsTab G.K H4 (.ref o) A := isTab_of rA (by omega) (by omega)
    have tB : IsTab G.K H4 (.ref ot) B := isTab_of h4 (by omega) (by omega)
    obtain ⟨mC, wC⟩ := blt_conv n6 bA bB
    have a1 : at1 A 1 = 1 ∨ at1 A 1 = -1 := .inl bA.ml.1
    obtain ⟨R, bR⟩ := back_ex A a1
    obtain ⟨mR, wR⟩ := blt_back n1 n6 bA bR
    have lC : (conv A B).length = n := by rw [conv_len, lA]
    have lR : R.length = n := by rw [bR.1, lA]
    refine q_when (b := !decide (true = true) || !decide (true = true)) ?_ (fun hb => by cases hb) fun _ H5 e5 => ?_
    · refine et_or (et_test (ev_op (ev_bsL (el_listOf (ev_var rfl) tA.sq) (by omega) (by omega) (cmpW bA.lt bA.lt (by decide) (by decide) (by decide)) (by rw [lA]; exact bA.ml)) ev_c rv_notB)) fun _ => et_test (ev_op (ev_bsL (el_togC (ev_var rfl) (ev_var rfl) tA tB (by omega) (cmpW bA.lt bB.lt (by decide) (by decide) (by decide))) (by omega) (by omega) (cmpW wC wC (by decide) (by decide) (by decide)) (by rw [lC]; exact mC)) ev_c rv_notB)
    replace tA := tA.ex e5
    refine q_when (b := !decide (true = true)) ?_ (fun hb => by cases hb) fun _ H6 e6 => ?_
    · exact et_test (ev_op (ev_bsL (el_tbC (ev_var rfl) tA bR a1 (cmpW wR bA.lt (by decide) (by decide) (by decide))) (by omega) (by omega) (cmpW wR wR (by decide) (by decide) (by decide)) (by rw [lR]; exact mR)) ev_c rv_notB)
    replace tA := tA.ex e6
    refine q_asgL (xs := A.map V.int) (el_listOf (ev_var rfl) tA.sq) fun bt H7 b0 e7 h7 => ?_
    obtain ⟨j, hj⟩ : ∃ j : Nat, M / 2 ^ (20 : Int).toNat % (n : Int) = (j : Int) := nat_of (Int.emod_nonneg _ (by omega))
    have jn : j < n := by
      have := Int.emod_lt_of_pos (M / 2 ^ (20 : Int).toNat) (show (0 : Int) < (n : Int) by omega)
      omega
    refine q_asg (v := .int (j : Int)) (ev_is (ev_op (ev_op (ev_var rfl) (ev_op ev_c ev_c (rv_I ⟨by decide, by decide, by decide⟩)) (rv_I (cdiv_w (by decide) (by decide)))) (ev_var rfl) (rv_I (by omega))) (by rw [hj])) fun H8 e8 => ?_
    have h8 := e8 bt _ h7
    have r0 := Int.emod_nonneg (M / 2 ^ (28 : Int).toNat) (show (3 : Int) ≠ 0 by decide)
    have r1 := Int.emod_lt_of_pos (M / 2 ^ (28 : Int).toNat) (show (0 : Int) < 3 by decide)
    refine q_setL (j := j) h8 (ev_op (ev_op (ev_op (ev_var rfl) (ev_var rfl) (rv_ixL (sq_of h8) (ix_at (by omega)))) ev_c rv_I0) (ev_op (ev_op (ev_var rfl) (ev_op ev_c ev_c (rv_I ⟨by decide, by decide, by decide⟩)) (rv_I (cdiv_w (by decide) (by decide)))) ev_c (rv_I (by decide))) rv_I0) (ev_var rfl) (ev_var rfl) (by rw [List.length_map]; omega) fun H9 e9 => ?_
    rw [set_int]
    generalize M / 2 ^ (28 : Int).toNat % 3 = dl at *
    have wat := blt_at bA (m := j + 1) (by omega) (by omega)
    have wS : ∀ z ∈ A.set j (at1 A (j + 1) + 1 + dl), z.natAbs < 2 ^ 122 := fun z hz => by
      rcases List.mem_or_eq_of_mem_set hz with hz | rfl
      · exact Nat.lt_of_lt_of_le (bA.lt z hz) (two_le (by decide))
      · have e : (2 : Nat) ^ 122 = 2 * 2 ^ 121 := by decide
        have p : 3 < (2 : Nat) ^ 121 := by decide
        generalize (2 : Nat) ^ 121 = P at *
        omega
    have lS : (A.set j (at1 A (j + 1) + 1 + dl)).length = n := by rw [List.length_set, lA]
    have n9 : NX T H0 (upd H9 bt (.lst ((A.set j (at1 A (j + 1) + 1 + dl)).map V.int))) := by
      have f0 : H6 bt = none := b0
      have n6' : NX T H0 H6 := nH.ex (((((((e1.trans e2).trans e2').trans e3').trans e34).trans e5).trans e6))
      exact n6'.ex (Ex.mut ((e7.trans e8).trans e9) f0)
    have tS : IsTab G.K (upd H9 bt (.lst ((A.set j (at1 A (j + 1) + 1 + dl)).map V.int))) (.ref bt) (A.set j (at1 A (j + 1) + 1 + dl)) := isTab_of upd_same (by omega) (by omega)
    generalize A.set j (at1 A (j + 1) + 1 + dl) = S at *
    generalize upd H9 bt (.lst (S.map V.int)) = H10 at *
    have stP : ∀ v H H', Ex H H' → (∃ xs, IsTab G.K H v xs ∧ Cmp xs xs) → ∃ xs, IsTab G.K H' v xs ∧ Cmp xs xs := fun v H H' e ⟨xs, a, b⟩ => ⟨xs, a.ex e, b⟩
    refine q_forP (n := 2) (P := fun v H => ∃ xs, IsTab G.K H v xs ∧ Cmp xs xs) stP ?_ (by decide)
      (fun σ' H' => ∃ y8 y9 : Option V, σ' = [some (.ref a), some (.int (i : Int)), some (.int M), some (.int (n : Int)), some (.ref o), some (.ref ot), some (.ref bt), some (.int (j : Int)), y8, y9] ∧ Ex H10 H') (fun H1 e1 => ⟨_, _, rfl, e1⟩) ?_ ?_
    · refine eall_cons stP (ep_ev (ev_var rfl) fun H1 e1 => ⟨S, tS.ex e1, cmpW wS wS (by decide) (by decide) (by decide)⟩) (eall_cons stP (ep_l (xs := (ltab (M / 64) n).map V.int) (el_ca2 (ev_op (ev_var rfl) ev_c (rv_I (cdiv_w (by decide) (by decide)))) (ev_var rfl) fun H1 e1 Q' q' => ⟨_, n, rfl, rfl, by omega, q'⟩) fun p H1 e1 h1 => ⟨_, isTab_of h1 (by rw [ltab_len]; exact n1) (by rw [ltab_len]; omega), cmpS (.inl (ltab_sm (by omega)))⟩) eall_nil)
    · rintro H11 x σ' H12 e11 ⟨y8, y9, rfl, e12⟩ e12' ⟨xs, hx, hc⟩
      refine q_asgC1 (ev_var rfl) fun H13 e13 => .inl ⟨xs, hx.ex e13, hc, fun b hb H14 e14 => ?_⟩
      have e134 := e13.trans e14
      refine s_when (b := !true || !decide (V.bl b = V.bl b)) ?_ (fun hb => by simp at hb) fun _ H15 e15 => ⟨⟨_, _, rfl, (e12.trans e134).trans e15⟩, (e12'.trans e134).trans e15⟩
      refine et_or (et_not (et_B (ev_isi (ev_var rfl) (fun H1 e => .base (.bl b)) (by decide +kernel)))) fun _ => et_test (ev_op (ev_var rfl) (ev_ca1 (z := .bl b) (ev_var rfl) fun H1 e1 Q' q' => ⟨xs, (hx.ex e134).ex e1, hc, fun b' hb' => ?_⟩) (rv_ne rfl))
      have : b' = b := by
        rw [Bool.eq_iff_iff, hb, hb']
      subst this
      exact q'
    · rintro σ' H11 ⟨y8, y9, rfl, e11⟩
      have n11 := n9.ex e11
      refine sn_when (b := !decide (V.str "BadTable" = V.str "BadTable")) n11.2 ?_ (fun hb => by simp at hb) fun _ H12 n12 => ⟨_, _, _, _, _, _, _, _, _, rfl, n11.trans n12⟩
      obtain ⟨j3, hj3⟩ : ∃ j : Nat, M % 3 = (j : Int) := nat_of (by omega)
      have fl : ∀ {p : Addr} {H' : Hp} {xs : List V}, H' p = some (.lst xs) → (xs.length = 0 ∨ 500 < xs.length ∨ (1 ≤ xs.length ∧ xs.length ≤ 500 ∧ xs.all flatV = true ∧ xs.all isI = false)) → Odd G.K H' (.ref p) := fun h1 h2 => .inr ⟨_, _, rfl, sq_of h1, h2⟩
      refine tlt_test (tl_op (tl_told fun H1 n1 Q' q' => ?_) tl_c fun _ _ => rv_ne rfl)
      refine call1P (P := fun v H => Odd G.K H v) (ep_ix (n := 3) (j := j3) oddS ?_ (fun H1 e1 => ?_) (by omega) (by decide)) fun v H2 e2 ho => .inr ⟨ho, fun H3 e3 => et_go (nm := "BadTable") (by simp [WE, errsL]) fun H4 e4 => q' H4 (nx_of n1.2 ((e2.trans e3).trans e4))⟩
      · refine eall_cons oddS (ep_l (el_lst ea_nil (Nat.zero_le _)) fun p H1 e1 h1 => fl h1 (.inl rfl)) ?_
        refine eall_cons oddS (ep_ev ev_c fun H1 e1 => .inl ⟨"NoneType", fun _ _ => .base .non, by decide +kernel⟩) ?_
        refine eall_cons oddS (ep_l (el_lst (ea_cons ev_c ea_nil) (by show 1 ≤ 100000; decide)) fun p H1 e1 h1 => fl h1 (.inr (.inr ⟨by decide, by decide, rfl, rfl⟩))) eall_nil
      · rw [← hj3]
        exact ev_op (ev_var rfl) ev_c (rv_I (by decide))
  · rintro σ' H1 ⟨y1, y2, y3, y4, y5, y6, y7, y8, y9, rfl, n1⟩
    exact s_ret ev_c fun H2 e2 => q H2
end Sv

set_option Elab.async false
set_option linter.all false
set_option maxRecDepth 100000
set_option maxHeartbeats 4000000
namespace Sv
open PySem PySem.Spec PyProof.Rows L2 Evl HotX L2H LamX
def topS (i : Nat) : Stmt := PySem.Challenge.pw_sievewright_k11_by_shares.main.body.getD i (.Pass ⟨0, 0, 0, 0⟩)
section
variable {P : Program} {w : World} {G : Pm} {mg : Str → Option Value} {base : Heap}
abbrev s__law_told : Stmt := topS 20
theorem sc__law_told : FnScope ["_law_deed", "_law_e"] ["_law_deed"] (defScope s__law_told) := ⟨rfl, rfl, rfl, by decide +kernel, rfl, by decide +kernel, by decide +kernel⟩
abbrev s_need_table : Stmt := topS 10
theorem sc_need_table : FnScope n_need_table p_need_table (defScope s_need_table) := ⟨rfl, rfl, rfl, by decide +kernel, rfl, by decide +kernel, by decide +kernel⟩
theorem ok_need_table (D_need_table : DefAt G.K mg "need_table" s_need_table) (m_list : mg "list" = none) (m_isinstance : mg "isinstance" = none) (m_len : mg "len" = none) (m_int : mg "int" = none) (m_bool : mg "bool" = none) (m_all : mg "all" = none) (x_BadTable : ErrAt G.K mg "BadTable" G.BadTable) (c_MOST_SIZE : ∃ t, mg "MOST_SIZE" = some (.int 500 t)) (HP : P_need_table G) : Ok P w G.K mg base (CXN P w) 1 "need_table" p_need_table (sp_need_table G) :=
  mk_ok D_need_table sc_need_table (fun _ _ _ _ _ _ us hl => match us, hl with | [_], _ => rfl) sp1_len (t_need_table G)
    (fun vs H Q E h => match vs, h with | [x0], h => HP x0 H Q E h)
    (fun f cdv A outer s H E hr =>
  (pss_cons (ps_if (PW.pt (pw_or (pt_not (pt_val (pe_callB call_isi (by rfl) m_isinstance (by decide +kernel) (pa_cons (pv 0) (pa_cons (pe_bltn (v := .ty "list") (by rfl) m_list (by decide +kernel) rfl) pa_nil))))) (pw_or1 (pt_not (pt_chain op_le op_le pe_int (pe_callB call_len_seq (by rfl) m_len (by decide +kernel) (pa_cons (pv 0) pa_nil)) (pe_glob (by rfl) c_MOST_SIZE.choose_spec ⟨_, rfl⟩))))))
  (pss_one (ps_raiseN x_BadTable (by rfl) rfl rfl rfl rfl rfl))
  pss_nil)
  (pss_one (ps_if (pt_not (pt_val (pe_callB (cr_all rfl) (by rfl) m_all (by decide +kernel) (pa_cons (pe_lc (own := [("one", 1)]) rfl sc_need_table.nd (pi_list (pv 0)) (blkOk_by (N := n_need_table) (sc := defScope s_need_table) (by decide +kernel)) (fun _ _ _ _ _ => (pg_name (i := 1) sc_need_table.nd rfl (Or.inl rfl))) (fun _ _ _ _ _ => pts_nil) (fun _ _ _ _ _ => (pe_and (pe_callB call_isi (by rfl) m_isinstance (by decide +kernel) (pa_cons (pv 1) (pa_cons (pe_bltn (v := .ty "int") (by rfl) m_int (by decide +kernel) rfl) pa_nil))) (pe_one (pe_not (pe_callB call_isi (by rfl) m_isinstance (by decide +kernel) (pa_cons (pv 1) (pa_cons (pe_bltn (v := .ty "bool") (by rfl) m_bool (by decide +kernel) rfl) pa_nil)))))))) pa_nil))))
  (pss_one (ps_raiseN x_BadTable (by rfl) rfl rfl rfl rfl rfl))
  pss_nil))))
abbrev s_together : Stmt := topS 11
theorem sc_together : FnScope n_together p_together (defScope s_together) := ⟨rfl, rfl, rfl, by decide +kernel, rfl, by decide +kernel, by decide +kernel⟩
theorem ok_together (D_together : DefAt G.K mg "together" s_together) (C_need_table : Ok P w G.K mg base (CXN P w) 1 "need_table" p_need_table (sp_need_table G)) (m_len : mg "len" = none) (m_range : mg "range" = none) (x_Unlike : ErrAt G.K mg "Unlike" G.Unlike) (HP : P_together G) : Ok P w G.K mg base (CXN P w) 2 "together" p_together (sp_together G) :=
  mk_ok D_together sc_together (fun _ _ _ _ _ _ us hl => match us, hl with | [_, _], _ => rfl) sp2_len (t_together G)
    (fun vs H Q E h => match vs, h with | [x0, x1], h => HP x0 x1 H Q E h)
    (fun f cdv A outer s H E hr =>
  (pss_cons (ps_expr (pe_ok C_need_table hr (by decide) (by rfl) (psx rfl rfl rfl rfl) (pa_cons (pv 0) pa_nil)))
  (pss_cons (ps_expr (pe_ok C_need_table hr (by decide) (by rfl) (psx rfl rfl rfl rfl) (pa_cons (pv 1) pa_nil)))
  (pss_cons (ps_if (pt_cmpR op_ne (pe_callB call_len_seq (by rfl) m_len (by decide +kernel) (pa_cons (pv 0) pa_nil)) (pe_callB call_len_seq (by rfl) m_len (by decide +kernel) (pa_cons (pv 1) pa_nil)) (nomark _))
  (pss_one (ps_raiseN x_Unlike (by rfl) rfl rfl rfl rfl rfl))
  pss_nil)
  (pss_cons (ps_set (i := 2) sc_together.nd rfl (Or.inl rfl) (pe_op op_rep (pe_lst (pa_cons pe_int pa_nil)) (pe_callB call_len_seq (by rfl) m_len (by decide +kernel) (pa_cons (pv 0) pa_nil))))
  (pss_cons (ps_for (L2.passes_of rfl) rfl (pi_range2 (by rfl) m_range (pa_cons pe_int (pa_cons (pe_op op_add (pe_callB call_len_seq (by rfl) m_len (by decide +kernel) (pa_cons (pv 0) pa_nil)) pe_int) pa_nil))) (pg_name (i := 3) sc_together.nd rfl (Or.inl rfl))
  (pss_one (ps_for (L2.passes_of rfl) rfl (pi_range2 (by rfl) m_range (pa_cons pe_int (pa_cons (pe_op op_add (pe_op op_fdivW (pe_callB call_len_seq (by rfl) m_len (by decide +kernel) (pa_cons (pv 0) pa_nil)) (pv 3)) pe_int) pa_nil))) (pg_name (i := 4) sc_together.nd rfl (Or.inl rfl))
  (pss_one (ps_asg (pe_op op_add (pe_ix ix_list (pv 2) (pe_op op_sub (pe_op op_mulA (pv 3) (pv 4)) pe_int) (fun _ _ => rfl)) (pe_op op_mulA (pe_ix ix_list (pv 0) (pe_op op_sub (pv 3) pe_int) (fun _ _ => rfl)) (pe_ix ix_list (pv 1) (pe_op op_sub (pv 4) pe_int) (fun _ _ => rfl)))) (pg_sub (pv 2) (pe_op op_sub (pe_op op_mulA (pv 3) (pv 4)) pe_int) set_list))))))
  (pss_one (ps_ret (pv 2)))))))))
abbrev s_need_sign : Stmt := topS 12
theorem sc_need_sign : FnScope n_need_sign p_need_sign (defScope s_need_sign) := ⟨rfl, rfl, rfl, by decide +kernel, rfl, by decide +kernel, by decide +kernel⟩
theorem ok_need_sign (D_need_sign : DefAt G.K mg "need_sign" s_need_sign) (x_NoWay : ErrAt G.K mg "NoWay" G.NoWay) (HP : P_need_sign G) : Ok P w G.K mg base (CXN P w) 1 "need_sign" p_need_sign (sp_need_sign G) :=
  mk_ok D_need_sign sc_need_sign (fun _ _ _ _ _ _ us hl => match us, hl with | [_], _ => rfl) sp1_len (t_need_sign G)
    (fun vs H Q E h => match vs, h with | [x0], h => HP x0 H Q E h)
    (fun f cdv A outer s H E hr =>
  (pss_one (ps_if (pt_cmpR op_notIn_seq (pv 0) (pe_tup (pa_cons pe_int (pa_cons (pe_un un_neg pe_int) pa_nil))) (by with_unfolding_all rfl))
  (pss_one (ps_raiseN x_NoWay (by rfl) rfl rfl rfl rfl rfl))
  pss_nil)))
abbrev s_taken_back : Stmt := topS 13
theorem sc_taken_back : FnScope n_taken_back p_taken_back (defScope s_taken_back) := ⟨rfl, rfl, rfl, by decide +kernel, rfl, by decide +kernel, by decide +kernel⟩
theorem ok_taken_back (D_taken_back : DefAt G.K mg "taken_back" s_taken_back) (C_need_table : Ok P w G.K mg base (CXN P w) 1 "need_table" p_need_table (sp_need_table G)) (C_need_sign : Ok P w G.K mg base (CXN P w) 1 "need_sign" p_need_sign (sp_need_sign G)) (m_len : mg "len" = none) (m_range : mg "range" = none) (HP : P_taken_back G) : Ok P w G.K mg base (CXN P w) 2 "taken_back" p_taken_back (sp_taken_back G) :=
  mk_ok D_taken_back sc_taken_back (fun _ _ _ _ _ _ us hl => match us, hl with | [_], _ => rfl) sp1_len (t_taken_back G)
    (fun vs H Q E h => match vs, h with | [x0], h => HP x0 H Q E h)
    (fun f cdv A outer s H E hr =>
  (pss_cons (ps_expr (pe_ok C_need_table hr (by decide) (by rfl) (psx rfl rfl rfl rfl) (pa_cons (pv 0) pa_nil)))
  (pss_cons (ps_expr (pe_ok C_need_sign hr (by decide) (by rfl) (psx rfl rfl rfl rfl) (pa_cons (pe_ix ix_list (pv 0) pe_int (fun _ _ => rfl)) pa_nil)))
  (pss_cons (ps_set (i := 1) sc_taken_back.nd rfl (Or.inl rfl) (pe_op op_rep (pe_lst (pa_cons pe_int pa_nil)) (pe_callB call_len_seq (by rfl) m_len (by decide +kernel) (pa_cons (pv 0) pa_nil))))
  (pss_cons (ps_set (i := 2) sc_taken_back.nd rfl (Or.inl rfl) (pe_op op_cat (pe_lst (pa_cons pe_int pa_nil)) (pe_op op_rep (pe_lst (pa_cons pe_int pa_nil)) (pe_op op_sub (pe_callB call_len_seq (by rfl) m_len (by decide +kernel) (pa_cons (pv 0) pa_nil)) pe_int))))
  (pss_cons (ps_for (L2.passes_of rfl) rfl (pi_range2 (by rfl) m_range (pa_cons pe_int (pa_cons (pe_op op_add (pe_callB call_len_seq (by rfl) m_len (by decide +kernel) (pa_cons (pv 0) pa_nil)) pe_int) pa_nil))) (pg_name (i := 3) sc_taken_back.nd rfl (Or.inl rfl))
  (pss_cons (ps_set (i := 4) sc_taken_back.nd rfl (Or.inl rfl) (pe_op op_mulA (pe_ix ix_list (pv 2) (pe_op op_sub (pv 3) pe_int) (fun _ _ => rfl)) (pe_ix ix_list (pv 0) pe_int (fun _ _ => rfl))))
  (pss_cons (ps_asg (pv 4) (pg_sub (pv 1) (pe_op op_sub (pv 3) pe_int) set_list))
  (pss_one (ps_for (L2.passes_of rfl) rfl (pi_range2 (by rfl) m_range (pa_cons pe_int (pa_cons (pe_op op_add (pe_op op_fdivW (pe_callB call_len_seq (by rfl) m_len (by decide +kernel) (pa_cons (pv 0) pa_nil)) (pv 3)) pe_int) pa_nil))) (pg_name (i := 5) sc_taken_back.nd rfl (Or.inl rfl))
  (pss_one (ps_asg (pe_op op_sub (pe_ix ix_list (pv 2) (pe_op op_sub (pe_op op_mulA (pv 3) (pv 5)) pe_int) (fun _ _ => rfl)) (pe_op op_mulA (pv 4) (pe_ix ix_list (pv 0) (pe_op op_sub (pv 5) pe_int) (fun _ _ => rfl)))) (pg_sub (pv 2) (pe_op op_sub (pe_op op_mulA (pv 3) (pv 5)) pe_int) set_list))))))))
  (pss_one (ps_ret (pv 1)))))))))
abbrev s_common : Stmt := topS 14
theorem sc_common : FnScope n_common p_common (defScope s_common) := ⟨rfl, rfl, rfl, by decide +kernel, rfl, by decide +kernel, by decide +kernel⟩
theorem ok_common (D_common : DefAt G.K mg "common" s_common) (HP : P_common G) : Ok P w G.K mg base (CXN P w) 1 "common" p_common (sp_common G) :=
  mk_ok D_common sc_common (fun _ _ _ _ _ _ us hl => match us, hl with | [_, _], _ => rfl) sp2_len (t_common G)
    (fun vs H Q E h => match vs, h with | [x0, x1], h => HP x0 x1 H Q E h)
    (fun f cdv A outer s H E hr =>
  (pss_cons (ps_while (L2.passes_of rfl) (pt_cmpR op_gt (pv 1) pe_int (nomark _))
  (pss_one (ps_par (i := 0) (j := 1) rfl sc_common.nd rfl rfl (by decide) rfl rfl (pa_cons (pv 1) (pa_cons (pe_op op_mod (pv 0) (pv 1)) pa_nil)) (by rfl))))
  (pss_one (ps_ret (pv 0)))))
abbrev s_by_shares : Stmt := topS 15
theorem sc_by_shares : FnScope n_by_shares p_by_shares (defScope s_by_shares) := ⟨rfl, rfl, rfl, by decide +kernel, rfl, by decide +kernel, by decide +kernel⟩
theorem ok_by_shares (D_by_shares : DefAt G.K mg "by_shares" s_by_shares) (C_need_table : Ok P w G.K mg base (CXN P w) 1 "need_table" p_need_table (sp_need_table G)) (C_common : Ok P w G.K mg base (CXN P w) 1 "common" p_common (sp_common G)) (m_len : mg "len" = none) (m_range : mg "range" = none) (HP : P_by_shares G) : Ok P w G.K mg base (CXN P w) 2 "by_shares" p_by_shares (sp_by_shares G) :=
  mk_ok D_by_shares sc_by_shares (fun _ _ _ _ _ _ us hl => match us, hl with | [_], _ => rfl) sp1_len (t_by_shares G)
    (fun vs H Q E h => match vs, h with | [x0], h => HP x0 H Q E h)
    (fun f cdv A outer s H E hr =>
  (pss_cons (ps_expr (pe_ok C_need_table hr (by decide) (by rfl) (psx rfl rfl rfl rfl) (pa_cons (pv 0) pa_nil)))
  (pss_cons (ps_if (pt_cmpR op_ne (pe_ix ix_list (pv 0) pe_int (fun _ _ => rfl)) pe_int (nomark _))
  (pss_one (ps_ret pe_bl))
  pss_nil)
  (pss_cons (ps_for (L2.passes_of rfl) rfl (pi_range2 (by rfl) m_range (pa_cons pe_int (pa_cons (pe_op op_add (pe_callB call_len_seq (by rfl) m_len (by decide +kernel) (pa_cons (pv 0) pa_nil)) pe_int) pa_nil))) (pg_name (i := 1) sc_by_shares.nd rfl (Or.inl rfl))
  (pss_one (ps_for (L2.passes_of rfl) rfl (pi_range2 (by rfl) m_range (pa_cons pe_int (pa_cons (pe_op op_add (pe_op op_fdivW (pe_callB call_len_seq (by rfl) m_len (by decide +kernel) (pa_cons (pv 0) pa_nil)) (pv 1)) pe_int) pa_nil))) (pg_name (i := 2) sc_by_shares.nd rfl (Or.inl rfl))
  (pss_one (ps_if (PW.pt (pw_and (pt_cmpR op_eq (pe_ok C_common hr (by decide) (by rfl) (psx rfl rfl rfl rfl) (pa_cons (pv 1) (pa_cons (pv 2) pa_nil))) pe_int (nomark _)) (pw_and1 (pt_cmpR op_ne (pe_ix ix_list (pv 0) (pe_op op_sub (pe_op op_mulA (pv 1) (pv 2)) pe_int) (fun _ _ => rfl)) (pe_op op_mulA (pe_ix ix_list (pv 0) (pe_op op_sub (pv 1) pe_int) (fun _ _ => rfl)) (pe_ix ix_list (pv 0) (pe_op op_sub (pv 2) pe_int) (fun _ _ => rfl))) (nomark _)))))
  (pss_one (ps_ret pe_bl))
  pss_nil)))))
  (pss_one (ps_ret pe_bl))))))
abbrev s__law_cell : Stmt := topS 17
theorem sc__law_cell : FnScope n__law_cell p__law_cell (defScope s__law_cell) := ⟨rfl, rfl, rfl, by decide +kernel, rfl, by decide +kernel, by decide +kernel⟩
theorem ok__law_cell (D__law_cell : DefAt G.K mg "_law_cell" s__law_cell) (m_len : mg "len" = none) (HP : P__law_cell G) : Ok P w G.K mg base (CXN P w) 1 "_law_cell" p__law_cell (sp__law_cell G) :=
  mk_ok D__law_cell sc__law_cell (fun _ _ _ _ _ _ us hl => match us, hl with | [_, _], _ => rfl) sp2_len (t__law_cell G)
    (fun vs H Q E h => match vs, h with | [x0, x1], h => HP x0 x1 H Q E h)
    (fun f cdv A outer s H E hr =>
  (pss_cons (ps_if (pt_cmpR (op_eqD hr.units) (pv 0) (pe_lst pa_nil) (nomark _))
  (pss_one (ps_ret (pe_op op_mulA (pv 1) pe_int)))
  pss_nil)
  (pss_one (ps_ret (pe_op op_add (pe_ix ix_list (pv 0) (pe_op op_mod (pv 1) (pe_callB call_len_seq (by rfl) m_len (by decide +kernel) (pa_cons (pv 0) pa_nil))) (fun _ _ => rfl)) (pe_op op_mulA (pe_op op_fdivW (pv 1) (pe_callB call_len_seq (by rfl) m_len (by decide +kernel) (pa_cons (pv 0) pa_nil))) pe_int))))))
abbrev s__law_drawn : Stmt := topS 18
theorem sc__law_drawn : FnScope n__law_drawn p__law_drawn (defScope s__law_drawn) := ⟨rfl, rfl, rfl, by decide +kernel, rfl, by decide +kernel, by decide +kernel⟩
theorem ok__law_drawn (D__law_drawn : DefAt G.K mg "_law_drawn" s__law_drawn) (HP : P__law_drawn G) : Ok P w G.K mg base (CXN P w) 1 "_law_drawn" p__law_drawn (sp__law_drawn G) :=
  mk_ok D__law_drawn sc__law_drawn (fun _ _ _ _ _ _ us hl => match us, hl with | [_, _], _ => rfl) sp2_len (t__law_drawn G)
    (fun vs H Q E h => match vs, h with | [x0, x1], h => HP x0 x1 H Q E h)
    (fun f cdv A outer s H E hr =>
  (pss_cons (ps_set (i := 2) sc__law_drawn.nd rfl (Or.inl rfl) (pe_op op_mod (pe_op op_add (pe_op op_mulA (pv 0) pe_int) (pe_op op_mulA (pe_op op_add (pv 1) pe_int) pe_int)) pe_int))
  (pss_cons (ps_set (i := 2) sc__law_drawn.nd rfl (Or.inl rfl) (pe_op op_mod (pe_op op_mulA (pv 2) (pv 2)) pe_int))
  (pss_cons (ps_set (i := 2) sc__law_drawn.nd rfl (Or.inl rfl) (pe_op op_mulA (pe_op op_mulA (pe_op op_add (pe_op op_mod (pv 2) pe_int) pe_int) (pe_op op_add (pe_op op_fdivW (pv 2) pe_int) pe_int)) (pv 2)))
  (pss_one (ps_ret (pe_op op_mod (pv 2) pe_int)))))))
abbrev s__law_word : Stmt := topS 19
theorem sc__law_word : FnScope n__law_word p__law_word (defScope s__law_word) := ⟨rfl, rfl, rfl, by decide +kernel, rfl, by decide +kernel, by decide +kernel⟩
theorem ok__law_word (D__law_word : DefAt G.K mg "_law_word" s__law_word) (m_isinstance : mg "isinstance" = none) (m_int : mg "int" = none) (m_sum : mg "sum" = none) (m_ValueError : mg "ValueError" = none) (x_NoWay : ErrAt G.K mg "NoWay" G.NoWay) (x_Unlike : ErrAt G.K mg "Unlike" G.Unlike) (x_BadTable : ErrAt G.K mg "BadTable" G.BadTable) (x_BadName : ErrAt G.K mg "BadName" G.BadName) (x_BadSums : ErrAt G.K mg "BadSums" G.BadSums) (x_BadNumber : ErrAt G.K mg "BadNumber" G.BadNumber) (TX : ∀ C nm, WE G C nm → ExcC G.K C) (HP : P__law_word G) : WordOk P w G.K mg base 1 "_law_word" "_law_e" (WE G) :=
  mk_word D__law_word sc__law_word (fun _ _ _ _ _ _ us hl => match us, hl with | [_], _ => rfl) (t__law_word G) HP
    (fun g cdv A outer s H p C hw hot hr hz => by
      obtain ⟨nm, hw⟩ := hw
      have TE := TX C nm hw
      obtain ⟨ws, dws, _⟩ := id hot.2
      have hf : ∃ vs, p.2.data = .fields vs := ⟨ws, dws⟩
      have hpn : (p.1, p.2) ∈ (cxH (CXN P w) P w G.K mg base n__law_word "_law_word" (defScope s__law_word) g cdv A outer s H E0 p).pn := List.mem_singleton.mpr rfl
      have hc : HotC (cxH (CXN P w) P w G.K mg base n__law_word "_law_word" (defScope s__law_word) g cdv A outer s H E0 p) := ⟨p, hot, hpn⟩
      exact
  (pss_cons (ps_set (i := 1) sc__law_word.nd rfl (Or.inl rfl) (pe_lst (pa_cons (pe_callB (call_isP hpn TE hz hf) (by rfl) m_isinstance (by decide +kernel) (pa_cons (pv 0) (pa_cons (pe_glob (v := .ref G.BadTable) (by rfl) x_BadTable.gC rfl) pa_nil))) (pa_cons (pe_callB (call_isP hpn TE hz hf) (by rfl) m_isinstance (by decide +kernel) (pa_cons (pv 0) (pa_cons (pe_glob (v := .ref G.Unlike) (by rfl) x_Unlike.gC rfl) pa_nil))) (pa_cons (pe_callB (call_isP hpn TE hz hf) (by rfl) m_isinstance (by decide +kernel) (pa_cons (pv 0) (pa_cons (pe_glob (v := .ref G.NoWay) (by rfl) x_NoWay.gC rfl) pa_nil))) pa_nil)))))
  (pss_cons (ps_set (i := 1) sc__law_word.nd rfl (Or.inl rfl) (pe_op op_cat (pv 1) (pe_lst (pa_cons (pe_callB (call_isP hpn TE hz hf) (by rfl) m_isinstance (by decide +kernel) (pa_cons (pv 0) (pa_cons (pe_glob (v := .ref G.BadName) (by rfl) x_BadName.gC rfl) pa_nil))) pa_nil))))
  (pss_cons (ps_set (i := 1) sc__law_word.nd rfl (Or.inl rfl) (pe_op op_cat (pv 1) (pe_lst (pa_cons (pe_callB (call_isP hpn TE hz hf) (by rfl) m_isinstance (by decide +kernel) (pa_cons (pv 0) (pa_cons (pe_glob (v := .ref G.BadNumber) (by rfl) x_BadNumber.gC rfl) pa_nil))) (pa_cons (pe_callB (call_isP hpn TE hz hf) (by rfl) m_isinstance (by decide +kernel) (pa_cons (pv 0) (pa_cons (pe_glob (v := .ref G.BadSums) (by rfl) x_BadSums.gC rfl) pa_nil))) pa_nil)))))
  (pss_cons (ps_if (PW.pt (pw_or (pt_cmpR op_ne (pe_callB (cr_sumH hc) (by rfl) m_sum (by decide +kernel) (pa_cons (pe_intsH hc (pv 1) (by rfl) (by decide +kernel) rfl (by decide +kernel) (by decide +kernel) (fun _ => by rfl) m_int (by decide)) pa_nil)) pe_int (nomark _)) (pw_or1 (pt_not (pt_val (pe_callB (call_isP hpn TE hz hf) (by rfl) m_isinstance (by decide +kernel) (pa_cons (pv 0) (pa_cons (pe_bltn (v := .ty "ValueError") (by rfl) m_ValueError (by decide +kernel) rfl) pa_nil))))))))
  (pss_one (ps_ret pe_str))
  pss_nil)
  (pss_one (ps_ret (pe_ix ix_list (pe_lst (pa_cons pe_str (pa_cons pe_str (pa_cons pe_str (pa_cons pe_str (pa_cons pe_str (pa_cons pe_str pa_nil))))))) (pe_bm PySem.F.plainAttrs_list PySem.F.slot_list_index PySem.F.type_list_index mt_index (pv 1) (pa_cons pe_bl pa_nil)) (fun _ _ => rfl)))))))))
abbrev s__law_table : Stmt := topS 21
theorem sc__law_table : FnScope n__law_table p__law_table (defScope s__law_table) := ⟨rfl, rfl, rfl, by decide +kernel, rfl, by decide +kernel, by decide +kernel⟩
theorem ok__law_table (D__law_table : DefAt G.K mg "_law_table" s__law_table) (C__law_drawn : Ok P w G.K mg base (CXN P w) 1 "_law_drawn" p__law_drawn (sp__law_drawn G)) (m_range : mg "range" = none) (HP : P__law_table G) : Ok P w G.K mg base (CXN P w) 2 "_law_table" p__law_table (sp__law_table G) :=
  mk_ok D__law_table sc__law_table (fun _ _ _ _ _ _ us hl => match us, hl with | [_, _], _ => rfl) sp2_len (t__law_table G)
    (fun vs H Q E h => match vs, h with | [x0, x1], h => HP x0 x1 H Q E h)
    (fun f cdv A outer s H E hr =>
  (pss_one (ps_ret (pe_lc (own := [("_law_j", 2)]) rfl sc__law_table.nd (pi_range1 (by rfl) m_range (pa_cons (pv 1) pa_nil)) (blkOk_by (N := n__law_table) (sc := defScope s__law_table) (by decide +kernel)) (fun _ _ _ _ _ => (pg_name (i := 2) sc__law_table.nd rfl (Or.inl rfl))) (fun _ _ _ _ _ => pts_nil) (fun _ _ _ _ _ => (pe_ix ix_list (pe_lst (pa_cons (pe_op op_sub (pe_op op_mod (pe_ok C__law_drawn hr (by decide) (by rfl) psn (pa_cons (pv 0) (pa_cons (pv 2) pa_nil))) pe_int) pe_int) (pa_cons (pe_op op_mod (pe_ok C__law_drawn hr (by decide) (by rfl) psn (pa_cons (pv 0) (pa_cons (pv 2) pa_nil))) pe_int) (pa_cons (pe_op op_add (pv 2) pe_int) (pa_cons pe_int pa_nil))))) (pe_op op_mod (pv 0) pe_int) (fun _ _ => rfl)))))))
abbrev s__law_first : Stmt := topS 23
theorem sc__law_first : FnScope n__law_first p__law_first (defScope s__law_first) := ⟨rfl, rfl, rfl, by decide +kernel, rfl, by decide +kernel, by decide +kernel⟩
theorem ok__law_first (D__law_first : DefAt G.K mg "_law_first" s__law_first) (m_range : mg "range" = none) (HP : P__law_first G) : Ok P w G.K mg base (CXN P w) 1 "_law_first" p__law_first (sp__law_first G) :=
  mk_ok D__law_first sc__law_first (fun _ _ _ _ _ _ us hl => match us, hl with | [_], _ => rfl) sp1_len (t__law_first G)
    (fun vs H Q E h => match vs, h with | [x0], h => HP x0 H Q E h)
    (fun f cdv A outer s H E hr =>
  (pss_cons (ps_set (i := 1) sc__law_first.nd rfl (Or.inl rfl) (pe_ix ix_list (pe_lc (own := [("_law_d", 3)]) rfl sc__law_first.nd (pi_range2 (by rfl) m_range (pa_cons pe_int (pa_cons (pe_op op_add (pv 0) pe_int) pa_nil))) (blkOk_by (N := n__law_first) (sc := defScope s__law_first) (by decide +kernel)) (fun _ _ _ _ _ => (pg_name (i := 3) sc__law_first.nd rfl (Or.inl rfl))) (fun _ _ _ _ _ => (pts_one (pt_cmpR op_eq (pe_op op_mod (pv 0) (pv 3)) pe_int (nomark _)))) (fun _ _ _ _ _ => (pv 3))) pe_int (fun _ _ => rfl)))
  (pss_cons (ps_set (i := 2) sc__law_first.nd rfl (Or.inl rfl) (pv 1))
  (pss_cons (ps_while (L2.passes_of rfl) (pt_cmpR op_eq (pe_op op_mod (pv 0) (pe_op op_mulA (pv 2) (pv 1))) pe_int (nomark _))
  (pss_one (ps_set (i := 2) sc__law_first.nd rfl (Or.inl rfl) (pe_op op_mulA (pv 2) (pv 1)))))
  (pss_one (ps_ret (pv 2)))))))
abbrev s__law_built : Stmt := topS 24
theorem sc__law_built : FnScope n__law_built p__law_built (defScope s__law_built) := ⟨rfl, rfl, rfl, by decide +kernel, rfl, by decide +kernel, by decide +kernel⟩
theorem ok__law_built (D__law_built : DefAt G.K mg "_law_built" s__law_built) (C__law_first : Ok P w G.K mg base (CXN P w) 1 "_law_first" p__law_first (sp__law_first G)) (C__law_drawn : Ok P w G.K mg base (CXN P w) 1 "_law_drawn" p__law_drawn (sp__law_drawn G)) (m_range : mg "range" = none) (HP : P__law_built G) : Ok P w G.K mg base (CXN P w) 2 "_law_built" p__law_built (sp__law_built G) :=
  mk_ok D__law_built sc__law_built (fun _ _ _ _ _ _ us hl => match us, hl with | [_, _], _ => rfl) sp2_len (t__law_built G)
    (fun vs H Q E h => match vs, h with | [x0, x1], h => HP x0 x1 H Q E h)
    (fun f cdv A outer s H E hr =>
  (pss_cons (ps_set (i := 2) sc__law_built.nd rfl (Or.inl rfl) (pe_lst (pa_cons pe_int pa_nil)))
  (pss_cons (ps_for (L2.passes_of rfl) rfl (pi_range2 (by rfl) m_range (pa_cons pe_int (pa_cons (pe_op op_add (pv 1) pe_int) pa_nil))) (pg_name (i := 3) sc__law_built.nd rfl (Or.inl rfl))
  (pss_cons (ps_set (i := 4) sc__law_built.nd rfl (Or.inl rfl) (pe_ok C__law_first hr (by decide) (by rfl) (psx rfl rfl rfl rfl) (pa_cons (pv 3) pa_nil)))
  (pss_one (ps_if (pt_cmpR op_eq (pv 4) (pv 3) (nomark _))
  (pss_one (ps_expr (pe_bm PySem.F.plainAttrs_list PySem.F.slot_list_append PySem.F.type_list_append mt_append (pv 2) (pa_cons (pe_op op_sub (pe_op op_mod (pe_ok C__law_drawn hr (by decide) (by rfl) (psx rfl rfl rfl rfl) (pa_cons (pv 0) (pa_cons (pv 3) pa_nil))) pe_int) pe_int) pa_nil))))
  (pss_one (ps_expr (pe_bm PySem.F.plainAttrs_list PySem.F.slot_list_append PySem.F.type_list_append mt_append (pv 2) (pa_cons (pe_op op_mulA (pe_ix ix_list (pv 2) (pe_op op_sub (pv 4) pe_int) (fun _ _ => rfl)) (pe_ix ix_list (pv 2) (pe_op op_sub (pe_op op_fdivW (pv 3) (pv 4)) pe_int) (fun _ _ => rfl))) pa_nil))))))))
  (pss_one (ps_ret (pv 2))))))
abbrev s__law_is_so : Stmt := topS 25
theorem sc__law_is_so : FnScope n__law_is_so p__law_is_so (defScope s__law_is_so) := ⟨rfl, rfl, rfl, by decide +kernel, rfl, by decide +kernel, by decide +kernel⟩
theorem ok__law_is_so (D__law_is_so : DefAt G.K mg "_law_is_so" s__law_is_so) (m_len : mg "len" = none) (m_range : mg "range" = none) (m_min : mg "min" = none) (HP : P__law_is_so G) : Ok P w G.K mg base (CXN P w) 1 "_law_is_so" p__law_is_so (sp__law_is_so G) :=
  mk_ok D__law_is_so sc__law_is_so (fun _ _ _ _ _ _ us hl => match us, hl with | [_], _ => rfl) sp1_len (t__law_is_so G)
    (fun vs H Q E h => match vs, h with | [x0], h => HP x0 H Q E h)
    (fun f cdv A outer s H E hr =>
  (pss_cons (ps_if (pt_cmpR op_ne (pe_ix ix_list (pv 0) pe_int (fun _ _ => rfl)) pe_int (nomark _))
  (pss_one (ps_ret pe_bl))
  pss_nil)
  (pss_cons (ps_for (L2.passes_of rfl) rfl (pi_range2 (by rfl) m_range (pa_cons pe_int (pa_cons (pe_op op_add (pe_callB call_len_seq (by rfl) m_len (by decide +kernel) (pa_cons (pv 0) pa_nil)) pe_int) pa_nil))) (pg_name (i := 1) sc__law_is_so.nd rfl (Or.inr rfl))
  (pss_one (ps_for (L2.passes_of rfl) rfl (pi_range2 (by rfl) m_range (pa_cons pe_int (pa_cons (pe_op op_add (pe_op op_fdivW (pe_callB call_len_seq (by rfl) m_len (by decide +kernel) (pa_cons (pv 0) pa_nil)) (pv 1)) pe_int) pa_nil))) (pg_name (i := 2) sc__law_is_so.nd rfl (Or.inr rfl))
  (pss_cons (ps_setLc (i := 3) (own := [("_law_d", 5)]) rfl sc__law_is_so.nd rfl rfl (sw_true rfl rfl rfl (by decide +kernel)) (pi_range2 (by rfl) m_range (pa_cons pe_int (pa_cons (pe_op op_add (pe_callB (call_min2 rfl) (by rfl) m_min (by decide +kernel) (pa_cons (pv 1) (pa_cons (pv 2) pa_nil))) pe_int) pa_nil))) (blkOk_by (N := n__law_is_so) (sc := defScope s__law_is_so) (by decide +kernel)) (fun _ _ _ _ _ => (pg_name (i := 5) sc__law_is_so.nd rfl (Or.inl rfl))) (fun _ _ _ _ _ => (pts_one (PW.pt (pw_and (pt_cmpR op_eq (pe_op op_mod (pv 1) (pv 5)) pe_int (nomark _)) (pw_and1 (pt_cmpR op_eq (pe_op op_mod (pv 2) (pv 5)) pe_int (nomark _))))))) (fun _ _ _ _ _ => (pv 5)))
  (pss_cons (ps_set (i := 4) sc__law_is_so.nd rfl (Or.inl rfl) (pe_op op_mulA (pe_ix ix_list (pv 0) (pe_op op_sub (pv 1) pe_int) (fun _ _ => rfl)) (pe_ix ix_list (pv 0) (pe_op op_sub (pv 2) pe_int) (fun _ _ => rfl))))
  (pss_one (ps_if (PW.pt (pw_and (pt_cmpR (op_eqD hr.units) (pv 3) (pe_lst pa_nil) (nomark _)) (pw_and1 (pt_cmpR op_ne (pe_ix ix_list (pv 0) (pe_op op_sub (pe_op op_mulA (pv 1) (pv 2)) pe_int) (fun _ _ => rfl)) (pv 4) (nomark _)))))
  (pss_one (ps_ret pe_bl))
  pss_nil)))))))
  (pss_one (ps_ret pe_bl)))))
abbrev s_law : Stmt := topS 26
theorem sc_law : FnScope n_law p_law (defScope s_law) := ⟨rfl, rfl, rfl, by decide +kernel, rfl, by decide +kernel, by decide +kernel⟩
theorem ok_law {f : Addr} {fd : FuncData} {T : List (Addr × Str)} {c Pt : Addr} (F_law : FunC G.K "law" "law" s_law f fd c) (TD : ToldAt P w G.K mg base G.SieveError 1 (WE G) s__law_told) (TB : TabB base mg c Pt) (hmT : (Pt, ("law" ++ ".<locals>." : Str) ++ "<lambda>") ∈ T) (hu : ∀ p ∈ T, p.1 = Pt → p.2 = ("law" ++ ".<locals>." : Str) ++ "<lambda>") (C__law_drawn : Ok P w G.K mg base (CXN P w) 1 "_law_drawn" p__law_drawn (sp__law_drawn G)) (C__law_cell : Ok P w G.K mg base (CXN P w) 1 "_law_cell" p__law_cell (sp__law_cell G)) (C__law_built : Ok P w G.K mg base (CXN P w) 2 "_law_built" p__law_built (sp__law_built G)) (C_by_shares : Ok P w G.K mg base (CXN P w) 2 "by_shares" p_by_shares (sp_by_shares G)) (C_together : Ok P w G.K mg base (CXN P w) 2 "together" p_together (sp_together G)) (C_taken_back : Ok P w G.K mg base (CXN P w) 2 "taken_back" p_taken_back (sp_taken_back G)) (C__law_table : Ok P w G.K mg base (CXN P w) 2 "_law_table" p__law_table (sp__law_table G)) (C__law_is_so : Ok P w G.K mg base (CXN P w) 1 "_law_is_so" p__law_is_so (sp__law_is_so G)) (m_len : mg "len" = none) (m_min : mg "min" = none) (m_max : mg "max" = none) (m_range : mg "range" = none) (m_list : mg "list" = none) (m_bool : mg "bool" = none) (m_isinstance : mg "isinstance" = none) (HP : P_law G) : FnOk P w G.K mg base (CXN P w) 5 f fd p_law (sp_law G T) :=
  mk_fnC F_law sc_law sp1_len (t_law G T)
    (fun vs H Q E h => match vs, h with | [x0], h => HP T x0 H Q E h)
    (fun A outer s H E hr =>
  (pss_cons (ps_for (L2.passes_of rfl) rfl (pi_range1 (by rfl) m_range (pa_cons (pe_callB (call_max2 rfl) (by rfl) m_max (by decide +kernel) (pa_cons pe_int (pa_cons (pe_callB (call_min2 rfl) (by rfl) m_min (by decide +kernel) (pa_cons pe_int (pa_cons (pe_callB call_len_seq (by rfl) m_len (by decide +kernel) (pa_cons (pv 0) pa_nil)) pa_nil))) pa_nil))) pa_nil)) (pg_name (i := 1) sc_law.nd rfl (Or.inl rfl))
  (pss_cons (ps_set (i := 2) sc_law.nd rfl (Or.inr rfl) (pe_ok C__law_drawn hr (by decide) (by rfl) (psx rfl rfl rfl rfl) (pa_cons (pe_ok C__law_cell hr (by decide) (by rfl) (psx rfl rfl rfl rfl) (pa_cons (pv 0) (pa_cons (pv 1) pa_nil))) (pa_cons (pv 1) pa_nil))))
  (pss_cons (ps_set (i := 3) sc_law.nd rfl (Or.inl rfl) (pe_op op_add pe_int (pe_op op_mod (pe_op op_fdivW (pv 2) pe_int) pe_int)))
  (pss_cons (ps_set (i := 4) sc_law.nd rfl (Or.inl rfl) (pe_ok C__law_built hr (by decide) (by rfl) (psx rfl rfl rfl rfl) (pa_cons (pe_op op_fdivW (pv 2) pe_int) (pa_cons (pv 3) pa_nil))))
  (pss_cons (ps_set (i := 5) sc_law.nd rfl (Or.inl rfl) (pe_ok C__law_built hr (by decide) (by rfl) (psx rfl rfl rfl rfl) (pa_cons (pe_op op_fdivW (pv 2) (pe_op op_pow pe_int pe_int)) (pa_cons (pv 3) pa_nil))))
  (pss_cons (ps_if (PW.pt (pw_or (pt_cmpR op_isnot_bl (pe_ok C_by_shares hr (by decide) (by rfl) (psx rfl rfl rfl rfl) (pa_cons (pe_callTy call_list_of (by rfl) m_list (by decide +kernel) (pa_cons (pv 4) pa_nil)) pa_nil)) pe_bl (nomark _)) (pw_or1 (pt_cmpR op_isnot_bl (pe_ok C_by_shares hr (by decide) (by rfl) (psx rfl rfl rfl rfl) (pa_cons (pe_ok C_together hr (by decide) (by rfl) (psx rfl rfl rfl rfl) (pa_cons (pv 4) (pa_cons (pv 5) pa_nil))) pa_nil)) pe_bl (nomark _)))))
  (pss_one (ps_ret pe_bl))
  pss_nil)
  (pss_cons (ps_if (pt_cmpR op_isnot_bl (pe_ok C_by_shares hr (by decide) (by rfl) (psx rfl rfl rfl rfl) (pa_cons (pe_ok C_taken_back hr (by decide) (by rfl) (psx rfl rfl rfl rfl) (pa_cons (pv 4) pa_nil)) pa_nil)) pe_bl (nomark _))
  (pss_one (ps_ret pe_bl))
  pss_nil)
  (pss_cons (ps_set (i := 6) sc_law.nd rfl (Or.inl rfl) (pe_callTy call_list_of (by rfl) m_list (by decide +kernel) (pa_cons (pv 4) pa_nil)))
  (pss_cons (ps_set (i := 7) sc_law.nd rfl (Or.inl rfl) (pe_op op_mod (pe_op op_fdivW (pv 2) (pe_op op_pow pe_int pe_int)) (pv 3)))
  (pss_cons (ps_asg (pe_op op_add (pe_op op_add (pe_ix ix_list (pv 6) (pv 7) (fun _ _ => rfl)) pe_int) (pe_op op_mod (pe_op op_fdivW (pv 2) (pe_op op_pow pe_int pe_int)) pe_int)) (pg_sub (pv 6) (pv 7) set_list))
  (pss_cons (ps_for (L2.passes_of rfl) rfl (pi_list (pe_lst (pa_cons (pv 6) (pa_cons (pe_ok C__law_table hr (by decide) (by rfl) (psx rfl rfl rfl rfl) (pa_cons (pe_op op_fdivW (pv 2) pe_int) (pa_cons (pv 3) pa_nil))) pa_nil)))) (pg_name (i := 8) sc_law.nd rfl (Or.inl rfl))
  (pss_cons (ps_set (i := 9) sc_law.nd rfl (Or.inl rfl) (pe_ok C_by_shares hr (by decide) (by rfl) (psx rfl rfl rfl rfl) (pa_cons (pv 8) pa_nil)))
  (pss_one (ps_if (PW.pt (pw_or (pt_not (pt_val (pe_callB call_isi (by rfl) m_isinstance (by decide +kernel) (pa_cons (pv 9) (pa_cons (pe_bltn (v := .ty "bool") (by rfl) m_bool (by decide +kernel) rfl) pa_nil))))) (pw_or1 (pt_cmpR op_ne (pv 9) (pe_ok C__law_is_so hr (by decide) (by rfl) (psx rfl rfl rfl rfl) (pa_cons (pv 8) pa_nil)) (nomark _)))))
  (pss_one (ps_ret pe_bl))
  pss_nil))))
  (pss_one (ps_if (pt_cmpR op_ne (pe_told (T := T) (t := fun E => (tCall (sp_by_shares G) [] E (tCons (tOp (rIxL G.K) (tLst (tCons (tLst tNil) (tCons (tC .non) (tCons (tLst (tCons (tC (.bl true)) tNil)) tNil)))) (tOp oMod (tVar 2) (tC (.int 3)))) tNil))) TD (by rfl) TB rfl hmT hu hr (by decide) (lamS_by (sc := defScope s_law) (by decide +kernel)) rfl (fun _ _ _ _ _ => rfl) (fun A outer s H E f c' hr => (pe_ok C_by_shares hr (by decide) (by rfl) (psx rfl rfl rfl rfl) (pa_cons (pe_ix ix_list (pe_lst (pa_cons (pe_lst pa_nil) (pa_cons pe_non (pa_cons (pe_lst (pa_cons pe_bl pa_nil)) pa_nil)))) (pe_op op_mod (pv 2) pe_int) (fun _ _ => rfl)) pa_nil)))) pe_str (nomark _))
  (pss_one (ps_ret pe_bl))
  pss_nil)))))))))))))
  (pss_one (ps_ret pe_bl))))
end
theorem all_mk {P : Program} {w : World} {K : PySem.W.Frag} {h : Heap} {mg : Str → Option Value} {fa : Addr} (X : K.In h) (GX : h.Ns mainGlobals mg) (hfa : mg "law" = some (.ref fa))
    {f0 : Addr} {od0 an0 : Option Addr} {sl0 : Array (Option Value)} {oc0 kV0 dc0 pm0 ct0 : Value} {cd0 : Value}
    (a0 : PySem.W.nsIn K mainGlobals "need_table" = some (some (.ref f0))) (l0 : K.lookup f0 = some ⟨oc0, od0, .func (PySem.W.fnOf "need_table" "need_table" (defArgs s_need_table) (defBody s_need_table) (defScope s_need_table) .none kV0 dc0 pm0 an0 cd0 ct0), sl0⟩) (c0 : PySem.W.codeIn K cd0 "need_table" = true) (k0 : PySem.W.keepIn K (.ref f0) = true)
    {f1 : Addr} {od1 an1 : Option Addr} {sl1 : Array (Option Value)} {oc1 kV1 dc1 pm1 ct1 : Value} {cd1 : Value}
    (a1 : PySem.W.nsIn K mainGlobals "together" = some (some (.ref f1))) (l1 : K.lookup f1 = some ⟨oc1, od1, .func (PySem.W.fnOf "together" "together" (defArgs s_together) (defBody s_together) (defScope s_together) .none kV1 dc1 pm1 an1 cd1 ct1), sl1⟩) (c1 : PySem.W.codeIn K cd1 "together" = true) (k1 : PySem.W.keepIn K (.ref f1) = true)
    {f2 : Addr} {od2 an2 : Option Addr} {sl2 : Array (Option Value)} {oc2 kV2 dc2 pm2 ct2 : Value} {cd2 : Value}
    (a2 : PySem.W.nsIn K mainGlobals "need_sign" = some (some (.ref f2))) (l2 : K.lookup f2 = some ⟨oc2, od2, .func (PySem.W.fnOf "need_sign" "need_sign" (defArgs s_need_sign) (defBody s_need_sign) (defScope s_need_sign) .none kV2 dc2 pm2 an2 cd2 ct2), sl2⟩) (c2 : PySem.W.codeIn K cd2 "need_sign" = true) (k2 : PySem.W.keepIn K (.ref f2) = true)
    {f3 : Addr} {od3 an3 : Option Addr} {sl3 : Array (Option Value)} {oc3 kV3 dc3 pm3 ct3 : Value} {cd3 : Value}
    (a3 : PySem.W.nsIn K mainGlobals "taken_back" = some (some (.ref f3))) (l3 : K.lookup f3 = some ⟨oc3, od3, .func (PySem.W.fnOf "taken_back" "taken_back" (defArgs s_taken_back) (defBody s_taken_back) (defScope s_taken_back) .none kV3 dc3 pm3 an3 cd3 ct3), sl3⟩) (c3 : PySem.W.codeIn K cd3 "taken_back" = true) (k3 : PySem.W.keepIn K (.ref f3) = true)
    {f4 : Addr} {od4 an4 : Option Addr} {sl4 : Array (Option Value)} {oc4 kV4 dc4 pm4 ct4 : Value} {cd4 : Value}
    (a4 : PySem.W.nsIn K mainGlobals "common" = some (some (.ref f4))) (l4 : K.lookup f4 = some ⟨oc4, od4, .func (PySem.W.fnOf "common" "common" (defArgs s_common) (defBody s_common) (defScope s_common) .none kV4 dc4 pm4 an4 cd4 ct4), sl4⟩) (c4 : PySem.W.codeIn K cd4 "common" = true) (k4 : PySem.W.keepIn K (.ref f4) = true)
    {f5 : Addr} {od5 an5 : Option Addr} {sl5 : Array (Option Value)} {oc5 kV5 dc5 pm5 ct5 : Value} {cd5 : Value}
    (a5 : PySem.W.nsIn K mainGlobals "by_shares" = some (some (.ref f5))) (l5 : K.lookup f5 = some ⟨oc5, od5, .func (PySem.W.fnOf "by_shares" "by_shares" (defArgs s_by_shares) (defBody s_by_shares) (defScope s_by_shares) .none kV5 dc5 pm5 an5 cd5 ct5), sl5⟩) (c5 : PySem.W.codeIn K cd5 "by_shares" = true) (k5 : PySem.W.keepIn K (.ref f5) = true)
    {f6 : Addr} {od6 an6 : Option Addr} {sl6 : Array (Option Value)} {oc6 kV6 dc6 pm6 ct6 : Value} {cd6 : Value}
    (a6 : PySem.W.nsIn K mainGlobals "_law_cell" = some (some (.ref f6))) (l6 : K.lookup f6 = some ⟨oc6, od6, .func (PySem.W.fnOf "_law_cell" "_law_cell" (defArgs s__law_cell) (defBody s__law_cell) (defScope s__law_cell) .none kV6 dc6 pm6 an6 cd6 ct6), sl6⟩) (c6 : PySem.W.codeIn K cd6 "_law_cell" = true) (k6 : PySem.W.keepIn K (.ref f6) = true)
    {f7 : Addr} {od7 an7 : Option Addr} {sl7 : Array (Option Value)} {oc7 kV7 dc7 pm7 ct7 : Value} {cd7 : Value}
    (a7 : PySem.W.nsIn K mainGlobals "_law_drawn" = some (some (.ref f7))) (l7 : K.lookup f7 = some ⟨oc7, od7, .func (PySem.W.fnOf "_law_drawn" "_law_drawn" (defArgs s__law_drawn) (defBody s__law_drawn) (defScope s__law_drawn) .none kV7 dc7 pm7 an7 cd7 ct7), sl7⟩) (c7 : PySem.W.codeIn K cd7 "_law_drawn" = true) (k7 : PySem.W.keepIn K (.ref f7) = true)
    {f8 : Addr} {od8 an8 : Option Addr} {sl8 : Array (Option Value)} {oc8 kV8 dc8 pm8 ct8 : Value} {cd8 : Value}
    (a8 : PySem.W.nsIn K mainGlobals "_law_word" = some (some (.ref f8))) (l8 : K.lookup f8 = some ⟨oc8, od8, .func (PySem.W.fnOf "_law_word" "_law_word" (defArgs s__law_word) (defBody s__law_word) (defScope s__law_word) .none kV8 dc8 pm8 an8 cd8 ct8), sl8⟩) (c8 : PySem.W.codeIn K cd8 "_law_word" = true) (k8 : PySem.W.keepIn K (.ref f8) = true)
    {f9 : Addr} {od9 an9 : Option Addr} {sl9 : Array (Option Value)} {oc9 kV9 dc9 pm9 ct9 : Value} {cd9 : Value}
    (a9 : PySem.W.nsIn K mainGlobals "_law_table" = some (some (.ref f9))) (l9 : K.lookup f9 = some ⟨oc9, od9, .func (PySem.W.fnOf "_law_table" "_law_table" (defArgs s__law_table) (defBody s__law_table) (defScope s__law_table) .none kV9 dc9 pm9 an9 cd9 ct9), sl9⟩) (c9 : PySem.W.codeIn K cd9 "_law_table" = true) (k9 : PySem.W.keepIn K (.ref f9) = true)
    {f10 : Addr} {od10 an10 : Option Addr} {sl10 : Array (Option Value)} {oc10 kV10 dc10 pm10 ct10 : Value} {cd10 : Value}
    (a10 : PySem.W.nsIn K mainGlobals "_law_first" = some (some (.ref f10))) (l10 : K.lookup f10 = some ⟨oc10, od10, .func (PySem.W.fnOf "_law_first" "_law_first" (defArgs s__law_first) (defBody s__law_first) (defScope s__law_first) .none kV10 dc10 pm10 an10 cd10 ct10), sl10⟩) (c10 : PySem.W.codeIn K cd10 "_law_first" = true) (k10 : PySem.W.keepIn K (.ref f10) = true)
    {f11 : Addr} {od11 an11 : Option Addr} {sl11 : Array (Option Value)} {oc11 kV11 dc11 pm11 ct11 : Value} {cd11 : Value}
    (a11 : PySem.W.nsIn K mainGlobals "_law_built" = some (some (.ref f11))) (l11 : K.lookup f11 = some ⟨oc11, od11, .func (PySem.W.fnOf "_law_built" "_law_built" (defArgs s__law_built) (defBody s__law_built) (defScope s__law_built) .none kV11 dc11 pm11 an11 cd11 ct11), sl11⟩) (c11 : PySem.W.codeIn K cd11 "_law_built" = true) (k11 : PySem.W.keepIn K (.ref f11) = true)
    {f12 : Addr} {od12 an12 : Option Addr} {sl12 : Array (Option Value)} {oc12 kV12 dc12 pm12 ct12 : Value} {cd12 : Value}
    (a12 : PySem.W.nsIn K mainGlobals "_law_is_so" = some (some (.ref f12))) (l12 : K.lookup f12 = some ⟨oc12, od12, .func (PySem.W.fnOf "_law_is_so" "_law_is_so" (defArgs s__law_is_so) (defBody s__law_is_so) (defScope s__law_is_so) .none kV12 dc12 pm12 an12 cd12 ct12), sl12⟩) (c12 : PySem.W.codeIn K cd12 "_law_is_so" = true) (k12 : PySem.W.keepIn K (.ref f12) = true)
    {f13 : Addr} {od13 an13 : Option Addr} {sl13 : Array (Option Value)} {oc13 kV13 dc13 pm13 ct13 : Value} {cA13 : Addr}
    (a13 : PySem.W.nsIn K mainGlobals "law" = some (some (.ref f13))) (l13 : K.lookup f13 = some ⟨oc13, od13, .func (PySem.W.fnOf "law" "law" (defArgs s_law) (defBody s_law) (defScope s_law) .none kV13 dc13 pm13 an13 (.ref cA13) ct13), sl13⟩) (c13 : PySem.W.codeIn K (.ref cA13) "law" = true) (k13 : PySem.W.keepIn K (.ref f13) = true)
    {te13 : Value} {td13 : Option Addr} {tv13 : Array Value} {ts13 : Array (Option Value)} {tP13 : Addr} (tl13 : K.lookup cA13 = some ⟨te13, td13, .fields tv13, ts13⟩) (tp13 : tv13[11]? = some (.ref tP13)) (tn13 : K.lookup tP13 = none) (th13 : PySem.W.codeHdIn K cA13 tP13 = true) (tt13 : TabOf K mg h "law")
    {f14 : Addr} {od14 an14 : Option Addr} {sl14 : Array (Option Value)} {oc14 kV14 dc14 pm14 ct14 : Value} {cd14 : Value}
    (a14 : PySem.W.nsIn K mainGlobals "_law_told" = some (some (.ref f14))) (l14 : K.lookup f14 = some ⟨oc14, od14, .func (PySem.W.fnOf "_law_told" "_law_told" (defArgs s__law_told) (defBody s__law_told) (defScope s__law_told) .none kV14 dc14 pm14 an14 cd14 ct14), sl14⟩) (c14 : PySem.W.codeIn K cd14 "_law_told" = true) (k14 : PySem.W.keepIn K (.ref f14) = true)
    {eSieveError : Addr} (gSieveError : PySem.W.nsIn K mainGlobals "SieveError" = some (some (.ref eSieveError)))    {eBadTable : Addr} (gBadTable : PySem.W.nsIn K mainGlobals "BadTable" = some (some (.ref eBadTable)))    {eUnlike : Addr} (gUnlike : PySem.W.nsIn K mainGlobals "Unlike" = some (some (.ref eUnlike)))    {eNoWay : Addr} (gNoWay : PySem.W.nsIn K mainGlobals "NoWay" = some (some (.ref eNoWay)))    {eBadName : Addr} (gBadName : PySem.W.nsIn K mainGlobals "BadName" = some (some (.ref eBadName)))    {eBadSums : Addr} (gBadSums : PySem.W.nsIn K mainGlobals "BadSums" = some (some (.ref eBadSums)))    {eBadNumber : Addr} (gBadNumber : PySem.W.nsIn K mainGlobals "BadNumber" = some (some (.ref eBadNumber)))
    (eB : errsB K eSieveError [eBadTable, eUnlike, eNoWay, eBadName, eBadNumber, eBadSums] = true)
    (z_list : PySem.W.nsIn K mainGlobals "list" = some none)    (z_isinstance : PySem.W.nsIn K mainGlobals "isinstance" = some none)    (z_len : PySem.W.nsIn K mainGlobals "len" = some none)    (z_int : PySem.W.nsIn K mainGlobals "int" = some none)    (z_bool : PySem.W.nsIn K mainGlobals "bool" = some none)    (z_all : PySem.W.nsIn K mainGlobals "all" = some none)    (z_range : PySem.W.nsIn K mainGlobals "range" = some none)    (z_sum : PySem.W.nsIn K mainGlobals "sum" = some none)    (z_ValueError : PySem.W.nsIn K mainGlobals "ValueError" = some none)    (z_min : PySem.W.nsIn K mainGlobals "min" = some none)    (z_max : PySem.W.nsIn K mainGlobals "max" = some none) {tkMOST_SIZE : Tok} (vMOST_SIZE : PySem.W.nsIn K mainGlobals "MOST_SIZE" = some (some (.int 500 tkMOST_SIZE))) :
    ∃ (G : Pm) (fd : FuncData) (cs : List (Addr × Addr × Str)), G.K = K ∧ (∀ p ∈ cs, h.get? p.2.1 = some { cls := .none, data := .fields #[] }) ∧ (∀ p ∈ cs, G.K.lookup p.2.1 = none) ∧ (∀ p ∈ cs, PySem.W.CodeHd h p.1 p.2.1) ∧
      (∀ (s : Shared) (u : Value), BindsTo s fd ⟨[u], []⟩ [("_law_script", u)]) ∧
      ∀ base : Heap, G.K.In base → base.Ns mainGlobals mg → (∀ p ∈ cs, TabB base mg p.1 p.2.1) → FnOk P w G.K mg base (CXN P w) 5 fa fd ["_law_script"] (sp1 (LawR G (cs.map fun p => p.2))) := by
  have e := hfa.symm.trans (PySem.W.mg_of X GX a13)
  cases e
  refine ⟨{ K := K, SieveError := eSieveError, BadTable := eBadTable, Unlike := eUnlike, NoWay := eNoWay, BadName := eBadName, BadSums := eBadSums, BadNumber := eBadNumber }, PySem.W.fnOf "law" "law" (defArgs s_law) (defBody s_law) (defScope s_law) .none kV13 dc13 pm13 an13 (.ref cA13) ct13, [(cA13, tP13, ("law" ++ ".<locals>." : Str) ++ "<lambda>")], rfl, ?_, ?_, ?_, fun s u => .of_eq rfl, fun base _ _ TBA => ?_⟩
  · intro p hp
    simp only [List.mem_cons, List.not_mem_nil, or_false] at hp
    subst hp
    · exact tt13 _ _ _ _ _ _ _ _ _ (PySem.W.mg_of X GX a13) l13 rfl rfl tl13 tp13
  · intro p hp
    simp only [List.mem_cons, List.not_mem_nil, or_false] at hp
    subst hp
    · exact tn13
  · intro p hp
    simp only [List.mem_cons, List.not_mem_nil, or_false] at hp
    subst hp
    · exact PySem.W.codeHd_of_K X th13
  have F_law := funC_mk (st := s_law) l13 c13 k13
  have errs := errsOk_of eB
  have m_list : mg "list" = none := PySem.W.mg_none_of X GX z_list
  have m_isinstance : mg "isinstance" = none := PySem.W.mg_none_of X GX z_isinstance
  have m_len : mg "len" = none := PySem.W.mg_none_of X GX z_len
  have m_int : mg "int" = none := PySem.W.mg_none_of X GX z_int
  have m_bool : mg "bool" = none := PySem.W.mg_none_of X GX z_bool
  have m_all : mg "all" = none := PySem.W.mg_none_of X GX z_all
  have m_range : mg "range" = none := PySem.W.mg_none_of X GX z_range
  have m_sum : mg "sum" = none := PySem.W.mg_none_of X GX z_sum
  have m_ValueError : mg "ValueError" = none := PySem.W.mg_none_of X GX z_ValueError
  have m_min : mg "min" = none := PySem.W.mg_none_of X GX z_min
  have m_max : mg "max" = none := PySem.W.mg_none_of X GX z_max
  have x_BadTable : ErrAt K mg "BadTable" eBadTable := (errs.one eBadTable (by simp)).at (PySem.W.mg_of X GX gBadTable)
  have x_Unlike : ErrAt K mg "Unlike" eUnlike := (errs.one eUnlike (by simp)).at (PySem.W.mg_of X GX gUnlike)
  have x_NoWay : ErrAt K mg "NoWay" eNoWay := (errs.one eNoWay (by simp)).at (PySem.W.mg_of X GX gNoWay)
  have x_BadName : ErrAt K mg "BadName" eBadName := (errs.one eBadName (by simp)).at (PySem.W.mg_of X GX gBadName)
  have x_BadSums : ErrAt K mg "BadSums" eBadSums := (errs.one eBadSums (by simp)).at (PySem.W.mg_of X GX gBadSums)
  have x_BadNumber : ErrAt K mg "BadNumber" eBadNumber := (errs.one eBadNumber (by simp)).at (PySem.W.mg_of X GX gBadNumber)
  have c_MOST_SIZE := (⟨_, PySem.W.mg_of X GX vMOST_SIZE⟩ : ∃ t, mg "MOST_SIZE" = some (.int 500 t))
  have memW : ∀ C nm, WE { K := K, SieveError := eSieveError, BadTable := eBadTable, Unlike := eUnlike, NoWay := eNoWay, BadName := eBadName, BadSums := eBadSums, BadNumber := eBadNumber } C nm → C ∈ [eBadTable, eUnlike, eNoWay, eBadName, eBadNumber, eBadSums] := fun C nm h => by
    have z : C ∈ (errsL { K := K, SieveError := eSieveError, BadTable := eBadTable, Unlike := eUnlike, NoWay := eNoWay, BadName := eBadName, BadSums := eBadSums, BadNumber := eBadNumber }).map (·.1) := List.mem_map.mpr ⟨(C, nm), h, rfl⟩
    exact z
  have W_ := ok__law_word (P := P) (w := w) (G := { K := K, SieveError := eSieveError, BadTable := eBadTable, Unlike := eUnlike, NoWay := eNoWay, BadName := eBadName, BadSums := eBadSums, BadNumber := eBadNumber }) (base := base) (defAt_mk X GX a8 l8 c8 k8) m_isinstance m_int m_sum m_ValueError x_NoWay x_Unlike x_BadTable x_BadName x_BadSums x_BadNumber (fun C nm h => (errs.one C (memW C nm h)).ex) (pure__law_word _ errs)
  have TD : ToldAt P w K mg base eSieveError 1 (WE { K := K, SieveError := eSieveError, BadTable := eBadTable, Unlike := eUnlike, NoWay := eNoWay, BadName := eBadName, BadSums := eBadSums, BadNumber := eBadNumber }) s__law_told := { dat := defAt_mk X GX a14 l14 c14 k14, sco := sc__law_told, loc := by decide +kernel, loc0 := by decide +kernel, gS := by decide +kernel, gW := by decide +kernel, bdy := ⟨_, _, _, _, _, _, _, _, _, _, rfl⟩, bnd := fun _ _ _ _ _ _ us hl => match us, hl with | [_], _ => rfl, wrd := W_, mS := PySem.W.mg_of X GX gSieveError, exm := fun C nm h => (errs.one C (memW C nm h)).ma }
  have TB13 : TabB base mg cA13 tP13 := TBA (cA13, tP13, ("law" ++ ".<locals>." : Str) ++ "<lambda>") (by simp)
  have hmT13 : (tP13, ("law" ++ ".<locals>." : Str) ++ "<lambda>") ∈ ([(cA13, tP13, ("law" ++ ".<locals>." : Str) ++ "<lambda>")].map fun p => p.2) := by simp
  have hu13 : ∀ p ∈ ([(cA13, tP13, ("law" ++ ".<locals>." : Str) ++ "<lambda>")].map fun p => p.2), p.1 = tP13 → p.2 = ("law" ++ ".<locals>." : Str) ++ "<lambda>" := fun p hp _ => by
    simp only [List.map_cons, List.map_nil, List.mem_cons, List.not_mem_nil, or_false] at hp
    rw [hp]
  have C_need_table := ok_need_table (P := P) (w := w) (G := { K := K, SieveError := eSieveError, BadTable := eBadTable, Unlike := eUnlike, NoWay := eNoWay, BadName := eBadName, BadSums := eBadSums, BadNumber := eBadNumber }) (base := base) (defAt_mk X GX a0 l0 c0 k0) m_list m_isinstance m_len m_int m_bool m_all x_BadTable c_MOST_SIZE (pure_need_table _)
  have C_together := ok_together (P := P) (w := w) (G := { K := K, SieveError := eSieveError, BadTable := eBadTable, Unlike := eUnlike, NoWay := eNoWay, BadName := eBadName, BadSums := eBadSums, BadNumber := eBadNumber }) (base := base) (defAt_mk X GX a1 l1 c1 k1) C_need_table m_len m_range x_Unlike (pure_together _)
  have C_need_sign := ok_need_sign (P := P) (w := w) (G := { K := K, SieveError := eSieveError, BadTable := eBadTable, Unlike := eUnlike, NoWay := eNoWay, BadName := eBadName, BadSums := eBadSums, BadNumber := eBadNumber }) (base := base) (defAt_mk X GX a2 l2 c2 k2) x_NoWay (pure_need_sign _)
  have C_taken_back := ok_taken_back (P := P) (w := w) (G := { K := K, SieveError := eSieveError, BadTable := eBadTable, Unlike := eUnlike, NoWay := eNoWay, BadName := eBadName, BadSums := eBadSums, BadNumber := eBadNumber }) (base := base) (defAt_mk X GX a3 l3 c3 k3) C_need_table C_need_sign m_len m_range (pure_taken_back _)
  have C_common := ok_common (P := P) (w := w) (G := { K := K, SieveError := eSieveError, BadTable := eBadTable, Unlike := eUnlike, NoWay := eNoWay, BadName := eBadName, BadSums := eBadSums, BadNumber := eBadNumber }) (base := base) (defAt_mk X GX a4 l4 c4 k4)  (pure_common _)
  have C_by_shares := ok_by_shares (P := P) (w := w) (G := { K := K, SieveError := eSieveError, BadTable := eBadTable, Unlike := eUnlike, NoWay := eNoWay, BadName := eBadName, BadSums := eBadSums, BadNumber := eBadNumber }) (base := base) (defAt_mk X GX a5 l5 c5 k5) C_need_table C_common m_len m_range (pure_by_shares _)
  have C__law_cell := ok__law_cell (P := P) (w := w) (G := { K := K, SieveError := eSieveError, BadTable := eBadTable, Unlike := eUnlike, NoWay := eNoWay, BadName := eBadName, BadSums := eBadSums, BadNumber := eBadNumber }) (base := base) (defAt_mk X GX a6 l6 c6 k6) m_len (pure__law_cell _)
  have C__law_drawn := ok__law_drawn (P := P) (w := w) (G := { K := K, SieveError := eSieveError, BadTable := eBadTable, Unlike := eUnlike, NoWay := eNoWay, BadName := eBadName, BadSums := eBadSums, BadNumber := eBadNumber }) (base := base) (defAt_mk X GX a7 l7 c7 k7)  (pure__law_drawn _)
  have C__law_table := ok__law_table (P := P) (w := w) (G := { K := K, SieveError := eSieveError, BadTable := eBadTable, Unlike := eUnlike, NoWay := eNoWay, BadName := eBadName, BadSums := eBadSums, BadNumber := eBadNumber }) (base := base) (defAt_mk X GX a9 l9 c9 k9) C__law_drawn m_range (pure__law_table _)
  have C__law_first := ok__law_first (P := P) (w := w) (G := { K := K, SieveError := eSieveError, BadTable := eBadTable, Unlike := eUnlike, NoWay := eNoWay, BadName := eBadName, BadSums := eBadSums, BadNumber := eBadNumber }) (base := base) (defAt_mk X GX a10 l10 c10 k10) m_range (pure__law_first _)
  have C__law_built := ok__law_built (P := P) (w := w) (G := { K := K, SieveError := eSieveError, BadTable := eBadTable, Unlike := eUnlike, NoWay := eNoWay, BadName := eBadName, BadSums := eBadSums, BadNumber := eBadNumber }) (base := base) (defAt_mk X GX a11 l11 c11 k11) C__law_first C__law_drawn m_range (pure__law_built _)
  have C__law_is_so := ok__law_is_so (P := P) (w := w) (G := { K := K, SieveError := eSieveError, BadTable := eBadTable, Unlike := eUnlike, NoWay := eNoWay, BadName := eBadName, BadSums := eBadSums, BadNumber := eBadNumber }) (base := base) (defAt_mk X GX a12 l12 c12 k12) m_len m_range m_min (pure__law_is_so _)
  exact ok_law (G := { K := K, SieveError := eSieveError, BadTable := eBadTable, Unlike := eUnlike, NoWay := eNoWay, BadName := eBadName, BadSums := eBadSums, BadNumber := eBadNumber }) (T := ([(cA13, tP13, ("law" ++ ".<locals>." : Str) ++ "<lambda>")].map fun p => p.2)) F_law TD TB13 hmT13 hu13 C__law_drawn C__law_cell C__law_built C_by_shares C_together C_taken_back C__law_table C__law_is_so m_len m_min m_max m_range m_list m_bool m_isinstance (pure_law _)
end Sv
open PySem PySem.W PyProof.Rows
set_option maxHeartbeats 0 in
theorem PySem.Challenge.cw_sievewright_k11_by_shares_holds : PySem.Challenge.rw_sievewright_k11_by_shares.Holds := by
  w_on; o_law; k_head; (case hw => w_witness2)
  k_fill
  refine Sv.walk_told (l := PySem.Challenge.rw_sievewright_k11_by_shares) (k := 5) (x := "_law_script") rfl rfl ⟨rfl, by decide, by decide⟩ (fun w h Y => by first | exact PySem.W.kIn_of Y | exact PySem.W.km_in_of Y) ?F
  case F =>
    intro w mg fa h KX GX hmg TBS
    refine' Sv.all_mk KX GX hmg ?a0 ?l0 ?c0 ?k0 ?a1 ?l1 ?c1 ?k1 ?a2 ?l2 ?c2 ?k2 ?a3 ?l3 ?c3 ?k3 ?a4 ?l4 ?c4 ?k4 ?a5 ?l5 ?c5 ?k5 ?a6 ?l6 ?c6 ?k6 ?a7 ?l7 ?c7 ?k7 ?a8 ?l8 ?c8 ?k8 ?a9 ?l9 ?c9 ?k9 ?a10 ?l10 ?c10 ?k10 ?a11 ?l11 ?c11 ?k11 ?a12 ?l12 ?c12 ?k12 ?a13 ?l13 ?c13 ?k13 ?tl13 ?tp13 ?tn13 ?th13 ?tt13 ?a14 ?l14 ?c14 ?k14 ?gSieveError ?gBadTable ?gUnlike ?gNoWay ?gBadName ?gBadSums ?gBadNumber ?eB ?z_list ?z_isinstance ?z_len ?z_int ?z_bool ?z_all ?z_range ?z_sum ?z_ValueError ?z_min ?z_max ?vMOST_SIZE
    (case a0 => k_is)
    (case l0 => k_is)
    (case c0 => k_is)
    (case k0 => k_is)
    (case a1 => k_is)
    (case l1 => k_is)
    (case c1 => k_is)
    (case k1 => k_is)
    (case a2 => k_is)
    (case l2 => k_is)
    (case c2 => k_is)
    (case k2 => k_is)
    (case a3 => k_is)
    (case l3 => k_is)
    (case c3 => k_is)
    (case k3 => k_is)
    (case a4 => k_is)
    (case l4 => k_is)
    (case c4 => k_is)
    (case k4 => k_is)
    (case a5 => k_is)
    (case l5 => k_is)
    (case c5 => k_is)
    (case k5 => k_is)
    (case a6 => k_is)
    (case l6 => k_is)
    (case c6 => k_is)
    (case k6 => k_is)
    (case a7 => k_is)
    (case l7 => k_is)
    (case c7 => k_is)
    (case k7 => k_is)
    (case a8 => k_is)
    (case l8 => k_is)
    (case c8 => k_is)
    (case k8 => k_is)
    (case a9 => k_is)
    (case l9 => k_is)
    (case c9 => k_is)
    (case k9 => k_is)
    (case a10 => k_is)
    (case l10 => k_is)
    (case c10 => k_is)
    (case k10 => k_is)
    (case a11 => k_is)
    (case l11 => k_is)
    (case c11 => k_is)
    (case k11 => k_is)
    (case a12 => k_is)
    (case l12 => k_is)
    (case c12 => k_is)
    (case k12 => k_is)
    (case a13 => k_is)
    (case l13 => k_is)
    (case c13 => k_is)
    (case k13 => k_is)
    (case tl13 => k_is)
    (case tp13 => rfl)
    (case tn13 => kernel_rfl)
    (case th13 => kernel_rfl)
    (case tt13 => exact TBS _ (by kernel_rfl))
    (case a14 => k_is)
    (case l14 => k_is)
    (case c14 => k_is)
    (case k14 => k_is)
    (case gSieveError => k_is)
    (case gBadTable => k_is)
    (case gUnlike => k_is)
    (case gNoWay => k_is)
    (case gBadName => k_is)
    (case gBadSums => k_is)
    (case gBadNumber => k_is)
    (case eB => kernel_rfl)
    (case z_list => k_is)
    (case z_isinstance => k_is)
    (case z_len => k_is)
    (case z_int => k_is)
    (case z_bool => k_is)
    (case z_all => k_is)
    (case z_range => k_is)
    (case z_sum => k_is)
    (case z_ValueError => k_is)
    (case z_min => k_is)
    (case z_max => k_is)
    (case vMOST_SIZE => k_is)
