import PyProof.Rows.All
import Wide.All
import OpenK.AllK
import Wide.FinOn
import HandS.ForMost
import HandS.Exc
import HandS.ExcOwn
import HandS.ExcCtx
import HandS.WordsExc
import HandS.Wide
import HandS.IsInst
import HandS.EndBits
import KE.KRevSl
import HandS.Evl
import KE.Datum
import HandS.HotCalls
import HandS.ExcIs
import HandS.Lambda
import KE.GoesComp
import KE.GoesMore
import HandS.TryOnly
import HandS.EndTab
import HandS.TupLe
import HandS.SortInts
import HandS.Set
import HandS.SetFor
import PySem.Challenge.RW_sievewright_k20_whole_worths
set_option Elab.async false
set_option linter.all false
set_option maxRecDepth 100000
set_option maxHeartbeats 4000000
/-! SvBase: how the defs of a law's text are taken one by one: Pm, DefAt, Ok, pe_ok, mk_ok; names of readings. -/
namespace Sv
open PySem PySem.Spec PyProof.Rows L2
/-- the written part and where its named objects stand -/
structure Pm where
  K : PySem.W.Frag
  SieveError : Addr := 0
  BadTable : Addr := 0
  Unlike : Addr := 0
  NoWay : Addr := 0
  BadName : Addr := 0
  BadNumber : Addr := 0
  BadSums : Addr := 0
  BadRule : Addr := 0
  Full : Addr := 0
  Used : Addr := 0
  Nothing : Addr := 0
  BadText : Addr := 0
  NAMES : Addr := 0
  PARTS : Addr := 0
  SIZES : Addr := 0
  Sums : Addr := 0
  Sheet : Addr := 0
abbrev CXN (P : Program) (w : World) : CXT := L2N.CX P w
/-! ### promises by the arguments -/
abbrev R0 := Hp → VK → XK → Prop
abbrev R1 := V → Hp → VK → XK → Prop
abbrev R2' := V → V → Hp → VK → XK → Prop
abbrev R3 := V → V → V → Hp → VK → XK → Prop
abbrev R4 := V → V → V → V → Hp → VK → XK → Prop
def sp0 (R : R0) : Sp
  | [], H, Q, E => R H Q E
  | _, _, _, _ => False
def sp1 (R : R1) : Sp
  | [x], H, Q, E => R x H Q E
  | _, _, _, _ => False
def sp2 (R : R2') : Sp
  | [x, y], H, Q, E => R x y H Q E
  | _, _, _, _ => False
def sp3 (R : R3) : Sp
  | [x, y, z], H, Q, E => R x y z H Q E
  | _, _, _, _ => False
def sp4 (R : R4) : Sp
  | [x, y, z, u], H, Q, E => R x y z u H Q E
  | _, _, _, _ => False
theorem sp0_len {R : R0} : ∀ vs H Q E, sp0 R vs H Q E → vs.length = 0
  | [], _, _, _, _ => rfl
theorem sp1_len {R : R1} : ∀ vs H Q E, sp1 R vs H Q E → vs.length = 1
  | [_], _, _, _, _ => rfl
theorem sp2_len {R : R2'} : ∀ vs H Q E, sp2 R vs H Q E → vs.length = 2
  | [_, _], _, _, _, _ => rfl
theorem sp3_len {R : R3} : ∀ vs H Q E, sp3 R vs H Q E → vs.length = 3
  | [_, _, _], _, _, _, _ => rfl
theorem sp4_len {R : R4} : ∀ vs H Q E, sp4 R vs H Q E → vs.length = 4
  | [_, _, _, _], _, _, _, _ => rfl
/-- a body's ends: the value handed back, None at its end -/
abbrev dn (Q : VK) : Ends := { nx := fun _ H' => Q .non H', rt := Q }
/-! ### a def of the text -/
structure DefAt (K : PySem.W.Frag) (mg : Str → Option Value) (x : Str) (st : Stmt) : Prop where
  ex : ∃ (f : Addr) (fd : FuncData), Fun K x x st f fd ∧ mg x = some (.ref f)
structure Ok (P : Program) (w : World) (K : PySem.W.Frag) (mg : Str → Option Value) (base : Heap) (CX : CXT) (k : Nat) (x : Str) (ps : List Str) (sp : Sp) : Prop where
  ex : ∃ (f : Addr) (fd : FuncData), FnOk P w K mg base CX k f fd ps sp ∧ mg x = some (.ref f) ∧ PySem.W.keepIn K (.ref f) = true ∧ Binds K fd ps []
theorem defAt_mk {K : PySem.W.Frag} {h : Heap} {mg : Str → Option Value} {x : Str} {st : Stmt} {f : Addr} {od an : Option Addr} {sl : Array (Option Value)} {oc kV dc pm cd ct : Value} (X : K.In h) (G : h.Ns mainGlobals mg)
    (a : PySem.W.nsIn K mainGlobals x = some (some (.ref f))) (l : K.lookup f = some ⟨oc, od, .func (PySem.W.fnOf x x (defArgs st) (defBody st) (defScope st) .none kV dc pm an cd ct), sl⟩) (c : PySem.W.codeIn K cd x = true) (k : PySem.W.keepIn K (.ref f) = true) : DefAt K mg x st :=
  ⟨f, _, fun_mk l c k, PySem.W.mg_of X G a⟩
section
variable {P : Program} {w : World} {K : PySem.W.Frag} {mg : Str → Option Value} {base : Heap} {CX : CXT} {x : Str} {st : Stmt} {N ps : List Str} {k : Nat} {sp : Sp}
theorem mk_fn {f : Addr} {fd : FuncData} (F : Fun K x x st f fd) (S : FnScope N ps (defScope st)) (len : ∀ vs H Q E, sp vs H Q E → vs.length = ps.length) (t : XK → TS) (hp : ∀ vs H Q E, sp vs H Q E → t E (dn Q) (start N vs) H)
    (hd : ∀ (cdv : Value) (A : Around) (outer : List Env) (s : Shared) (H : Hp) (E : XK), Room k (A.deeper (envOfC x (defScope st) s.heap.objs.size f cdv)) → PSs (cxOf CX P w K mg base N x (defScope st) f cdv A outer s H E) (defBody st) (t E)) :
    FnOk P w K mg base CX (k + 1) f fd ps sp := by
  obtain ⟨oc, od, kV, doc, pm, an, cdv, ct, osl, rfl, lk, hcd⟩ := F.ex
  exact fn_of lk hcd S len fun A outer s H vs Q E hr hsp => ⟨t E, hd cdv A outer s H E hr, hp vs H Q E hsp⟩
theorem mk_ok (D : DefAt K mg x st) (S : FnScope N ps (defScope st))
    (hb : ∀ (kV doc pm : Value) (an : Option Addr) (cdv ct : Value) (us : List Value), us.length = ps.length → bindArgs (PySem.W.fnOf x x (defArgs st) (defBody st) (defScope st) .none kV doc pm an cdv ct) ⟨us, []⟩ = pure (ps.zip us))
    (len : ∀ vs H Q E, sp vs H Q E → vs.length = ps.length) (t : XK → TS) (hp : ∀ vs H Q E, sp vs H Q E → t E (dn Q) (start N vs) H)
    (hd : ∀ (f : Addr) (cdv : Value) (A : Around) (outer : List Env) (s : Shared) (H : Hp) (E : XK), Room k (A.deeper (envOfC x (defScope st) s.heap.objs.size f cdv)) → PSs (cxOf CX P w K mg base N x (defScope st) f cdv A outer s H E) (defBody st) (t E)) :
    Ok P w K mg base CX (k + 1) x ps sp := by
  obtain ⟨f, fd, F, hm⟩ := D.ex
  obtain ⟨oc, od, kV, doc, pm, an, cdv, ct, osl, rfl, lk, hcd⟩ := F.ex
  exact ⟨f, _, fn_of lk hcd S len fun A outer s H vs Q E hr hsp => ⟨t E, hd f cdv A outer s H E hr, hp vs H Q E hsp⟩, hm, F.kp, F.binds hb⟩
end
section
variable {X : Cx} {CX : CXT} {k j : Nat} {ps : List Str} {sp : Sp} {E : XK} {x : Str} {p pos : Pos} {e : Expr} {es : List Expr} {t : TA}
theorem pe_ok (F : Ok X.prog X.w X.K X.mg X.base CX k x ps sp) (hr : Room j X.A) (hk : k ≤ j) (hg : Gl X x) (hx : Passes CX X E)
    (ha : PA X (e :: es) t) (hdb : (x == ("__debug__" : Str)) = false := by decide) (he : starEach (e :: es) X.env = (false, eval e X.env) :: starEach es X.env := by rfl) (hpl : (backTo pos (starEach es X.env)).any (·.1) = false := by rfl) :
    PE X (.Call (.Name x p) (e :: es) [] pos) (tCall sp [] E t) := by
  obtain ⟨f, fd, F, hm, hkp, hb⟩ := F.ex
  exact pe_call F (hr.mono hk) hg hm hkp hb .nil hx ha hdb he hpl
theorem pe_ok0 (F : Ok X.prog X.w X.K X.mg X.base CX k x ps sp) (hr : Room j X.A) (hk : k ≤ j) (hg : Gl X x) (hx : Passes CX X E) (hdb : (x == ("__debug__" : Str)) = false := by decide) :
    PE X (.Call (.Name x p) [] [] pos) (tCall sp [] E tNil) := by
  obtain ⟨f, fd, F, hm, hkp, hb⟩ := F.ex
  exact pe_call0 F (hr.mono hk) hg hm hkp hb .nil hx hdb
/-- a body's callee's exception leaves the body -/
theorem psx (hs : X.stack = X.env :: X.outer) (hf : X.env.frame = some X.env.locals) (hex : X.ex = []) {E₁ : Value → Shared → Prop}
    (hx : X.xe = fun e s' => wpAny (model X.prog X.w) X.A (leaving X.env e) (fun _ s'' => L2N.CX X.prog X.w X.outer X.H_0 X.s_0 E e s'') E₁ s') : Passes (CXN X.prog X.w) X E :=
  L2N.passes_call (L2N.takes_of hs hf hex hx) fun _ _ _ _ h => h
/-- .. where nothing is let out -/
theorem psn : Passes (CXN X.prog X.w) X E0 := fun _ _ _ _ _ _ _ h => by
  obtain ⟨_, _, _, _, _, _, _, _, _, _, _, _, z⟩ := h
  exact z.elim
end
/-! ### readings by names -/
abbrev oAdd : R2 := rI0 fun i j => .int (i + j)
abbrev oSub : R2 := rI0 fun i j => .int (i - j)
def CM (i j : Int) : Prop := CMul i j ∨ CMulW i j
abbrev oMul : R2 := rI CM fun i j => .int (i * j)
abbrev oMod : R2 := rI (fun _ j => 0 < j) fun i j => .int (i % j)
abbrev oDiv : R2 := rI CDivW fun i j => .int (i / j)
abbrev oPow : R2 := rI CPow fun i j => .int (i ^ j.toNat)
abbrev cLt : R2 := rI0 fun i j => .bl (decide (i < j))
abbrev cLe : R2 := rI0 fun i j => .bl (decide (i ≤ j))
abbrev cGt : R2 := rI0 fun i j => .bl (decide (j < i))
abbrev cGe : R2 := rI0 fun i j => .bl (decide (j ≤ i))
abbrev oCatS : R2 := fun x y H Q => ∃ i j, x = .str i ∧ y = .str j ∧ i.length + j.length ≤ sizeLine ∧ Q (.str (i ++ j)) H
abbrev uNeg : V → Hp → VK → Prop := rU fun i => .int (-i)
section
variable {X : Cx}
theorem op_mulA : OpR X (binaryOp .Mult) oMul := fun pins s σ H x y v u Q I rx ry h => by
  obtain ⟨i, j, rfl, rfl, c, q⟩ := h
  rcases c with c | c
  · exact op_mul pins s σ H _ _ v u Q I rx ry ⟨i, j, rfl, rfl, c, q⟩
  · exact op_mulW pins s σ H _ _ v u Q I rx ry ⟨i, j, rfl, rfl, c, q⟩
end
def bLenQ (K : PySem.W.Frag) : List V → Hp → VK → Prop := fun xs H Q => ∃ p ys, xs = [.ref p] ∧ (SqL K H p ys ∨ SqT K H p ys) ∧ Q (.int ys.length) H
def bLenS : List V → Hp → VK → Prop := fun xs H Q => ∃ z, xs = [.str z] ∧ z.length ≤ sizeLine ∧ Q (.int z.length) H
def bMax2 : List V → Hp → VK → Prop := fun xs H Q => ∃ i j, xs = [.int i, .int j] ∧ Q (.int (if j > i then j else i)) H
def bMin2 : List V → Hp → VK → Prop := fun xs H Q => ∃ i j, xs = [.int i, .int j] ∧ Q (.int (if j < i then j else i)) H
def bInt1 : List V → Hp → VK → Prop := fun xs H Q => (∃ i, xs = [.int i] ∧ Q (.int i) H) ∨ ∃ k, xs = [.bl k] ∧ Q (.int (if k then 1 else 0)) H
def bListOf (K : PySem.W.Frag) : List V → Hp → VK → Prop := fun xs H Q => ∃ p ys, xs = [.ref p] ∧ (SqL K H p ys ∨ SqT K H p ys) ∧ ∀ l, H l = none → Q (.ref l) (upd H l (.lst ys))
/-- raise C('..') -/
def tRaise (C : Addr) (E : XK) : TS := fun _ _ H => E (.ref C) none H
section
variable {X : Cx} {C : Addr} {E : XK}
/-- what the class C of the program's own errors must be -/
structure ErrAt (K : PySem.W.Frag) (mg : Str → Option Value) (x : Str) (C : Addr) : Prop where
  gC : mg x = some (.ref C)
  xC : PySem.W.excIn K C [.type "ValueError", .type "Exception", .type "BaseException", .type "object"] "ValueError.__new__" = true
  kC : PySem.W.keepIn K (.ref C) = true
  bC : PySem.W.subIn K (.ref C) (.type "BaseException") = some true
  tC : PySem.W.typeIn K (.ref C) = some (.type "type")
theorem ps_raiseN {x m : Str} {j : Nat} {p p2 pos pos' : Pos} (T : ErrAt X.K X.mg x C) (hg : Gl X x) (hc : X.calm = true) (hs : X.stack = X.env :: X.outer) (hf : X.env.frame = some X.env.locals) (hex : X.ex = []) {E₁ : Value → Shared → Prop}
    (hx : X.xe = fun e s' => wpAny (model X.prog X.w) X.A (leaving X.env e) (fun _ s'' => L2N.CX X.prog X.w X.outer X.H_0 X.s_0 E e s'') E₁ s') (hdb : (x == ("__debug__" : Str)) = false := by decide) :
    PS X (.Raise (some (.Call (.Name x p) [.Constant (.str m) j p2] [] pos)) none pos') (tRaise C E) :=
  L2N.ps_raise hc (L2N.takes_of hs hf hex hx) (L2N.pmk_own PySem.F.excBase_ValueError T.xC T.gC T.kC (raises_own T.bC T.tC) hg hdb)
end
/-! ### xs[::-1] -/
def tRevL (K : PySem.W.Frag) (te : TE) : TE := fun σ H Q => te σ H fun x H1 => ∃ a xs, x = .ref a ∧ SqL K H1 a xs ∧ ∀ p, H1 p = none → Q (.ref p) (upd H1 p (.lst xs.reverse))
section
variable {X : Cx}
theorem pe_revl {e : Expr} {te : TE} {j : Nat} {p1 p2 p3 pos : Pos} (he : PE X e te) : PE X (.Subscript e (.Slice none none (some (.UnaryOp .USub (.Constant (.int 1) j p1) p3)) p2) pos) (tRevL X.K te) := by
  refine ⟨fun pins s σ H Q I h => ?_⟩
  refine Subscript_ (thn (he.run pins s σ H _ I h) fun v s1 ⟨x, H1, I1, r1, q1⟩ => ?_)
  refine wpAny_Slice ?_
  rw [evalPart_none]
  refine wpAny_pure (wpAny_pure ?_)
  have hst : PO X (some (.UnaryOp .USub (.Constant (.int 1) j p1) p3)) (tPart (tUn uNeg (tC (.int 1)))) := po_some (pe_un un_neg pe_int)
  refine thn (hst.run pins s1 σ H1 (fun o H2 => o = some (-1) ∧ H2 = H1) I1 ⟨1, rfl, -1, rfl, rfl, rfl⟩) fun vst s3 ⟨o, H3, I3, pst, eo, eH⟩ => ?_
  subst eo
  subst eH
  obtain ⟨a, xs, rfl, hx, q⟩ := q1
  cases r1
  have I4 : Inv X pins σ H3 { s3 with heap := s3.heap.push { cls := .type "slice", data := .fields #[.none, .none, vst] } } := I3.kept (t' := s3.toks) fun b ob q => Heap.get?_push_of_some _ q
  obtain ⟨its, r, ht, hz⟩ := I4.list hx
  have hlen := r.length
  show wpAny (model X.prog X.w) X.A (subscriptTail e (.Slice none none (some (.UnaryOp .USub (.Constant (.int 1) j p1) p3)) p2) (.ref a) (.ref s3.heap.objs.size)) (EP X pins σ Q) X.xe { s3 with heap := s3.heap.push { cls := .type "slice", data := .fields #[.none, .none, vst] } }
  refine tail_any (ops := [.ref a, .ref s3.heap.objs.size]) ht.isList.typeIs slot_list_getitem.lookup ?_ (by with_unfolding_all rfl)
  refine wpAny_getItem_list_slice ht.isList (Heap.IsSliceOf.new ..) .none .none pst (by simp) ?_ (by rw [List.size_toArray] <;> omega)
  rw [PySem.W.krv_pick]
  refine ⟨.ref _, _, I4.laid (t' := s3.toks) (o := .lst xs.reverse) (fun b ob q => Heap.get?_push_of_some _ q) (Nat.le_refl _) ?_, rfl, q _ (I4.hok.fresh (Nat.le_refl _))⟩
  exact ⟨by rw [List.length_reverse]; exact hz, _, 0, r.reverse, Heap.get?_push_size _ rfl⟩
end
/-! ### the end: a law's promise, with the script's bits -/
theorem walk_law {l : PySem.W.OpenLaw} {n k : Nat} {q : Program} {loose : List Str} {XP : (Str → Option Value) → Heap → Prop} {YP : World → Heap → Prop} {d : DefRec} {K : Params → PySem.W.Frag} {x : Str}
    (hn : l.most = some n) (hn2 : n ≤ sizeLine) (hdf : d.params.defaults = []) (hr : Room k callerA)
    (hY : ∀ (w : World) (h : Heap), YP w h → (K w.params).In h)
    (F : ∀ (w : World) (mg : Str → Option Value) (fa : Addr) (h : Heap), (K w.params).In h → h.Ns mainGlobals mg → mg d.name = some (.ref fa) →
      ∃ G : Pm, G.K = K w.params ∧ ∃ fd : FuncData, (∀ (s : Shared) (u : Value), BindsTo s fd ⟨[u], []⟩ [(x, u)]) ∧
        ∀ base : Heap, G.K.In base → base.Ns mainGlobals mg → FnOk l.prog w G.K mg base (CXN l.prog w) k fa fd [x] (sp1 fun v H Q _ => ∃ (a : Addr) (ns : List Int), v = .ref a ∧ SqL G.K H a (ns.map V.int) ∧ ns.length ≤ n ∧ (∀ z ∈ ns, Builtin.Int.intBits z ≤ 1048576) ∧ ∀ H', Q (.bl true) H')) :
    PySem.W.WalkO q loose XP YP l.row.toRowW d [] (fun f vs => PySem.call f vs) := by
  refine walk_ofB (l := l) (n := n) (k := k) (x := x) (K := K) (CX := fun w => CXN l.prog w) (sp := fun w => sp1 fun v H Q _ => ∃ (a : Addr) (ns : List Int), v = .ref a ∧ SqL (K w.params) H a (ns.map V.int) ∧ ns.length ≤ n ∧ (∀ z ∈ ns, Builtin.Int.intBits z ≤ 1048576) ∧ ∀ H', Q (.bl true) H') hn hn2 hdf hr hY ?_ ?_ ?_
  · intro w mg fa h KX GX hm
    obtain ⟨G, eG, fd, hb, hF⟩ := F w mg fa h KX GX hm
    rw [eG] at hF
    exact ⟨fd, hb, hF⟩
  · intro w H a ns hl hz _ hS
    exact ⟨a, ns, rfl, hS, hl, hz, fun _ => rfl⟩
  · intro w H s e s' h
    obtain ⟨_, _, _, _, _, _, _, _, _, _, _, _, z⟩ := h
    exact z
end Sv

set_option Elab.async false
set_option linter.all false
set_option maxRecDepth 100000
set_option maxHeartbeats 4000000
/-! SvEv: what readings evaluate to, further: isinstance, len, == of data, calls; the word «ev». -/
namespace Sv
open PySem PySem.Spec PyProof.Rows L2 Evl
section
variable {K : PySem.W.Frag} {σ : L2.St} {H H' : Hp} {ta tb te tc : TE} {t u : TT} {x y z v : V} {a : Addr} {xs : List V}
theorem ev_at (h : Ev te σ H v) (Q : VK) (q : ∀ H2, Ex H H2 → Q v H2) : te σ H Q := h H (Ex.refl H) Q q
/-! ### isinstance -/
theorem ty_l (h : SqL K H a xs) : TyX K H (.ref a) (.type "list") := by
  rcases h with (h | ⟨o, h⟩) | ⟨o, its, n, e, c, _⟩
  · exact .base (.lst h)
  · exact .base (.frz h)
  · exact .kList e c
theorem ty_t (h : SqT K H a xs) : TyX K H (.ref a) (.type "tuple") := by
  rcases h with (h | ⟨o, h⟩) | ⟨o, its, n, e, c, _⟩
  · exact .base (.tup h)
  · exact .fTuple h
  · exact .kTuple e c
theorem rc_isi {n m : String} {b : Bool} (hx : ∀ H1, Ex H H1 → TyX K H1 x (.type m)) (hk : kitB m n = some b) : RC (rIsi K) [x, .ty n] H (.bl b) :=
  fun H1 e Q q => ⟨x, .ty n, .type m, .type n, b, rfl, .ty n, hx H1 e, kit_ty hk, q H1 (Ex.refl H1)⟩
theorem ev_isi {n m : String} {b : Bool} (ha : Ev ta σ H x) (hx : ∀ H1, Ex H H1 → TyX K H1 x (.type m)) (hk : kitB m n = some b) : Ev (tCB (rIsi K) (tCons ta (tCons (tC (.ty n)) tNil))) σ H (.bl b) :=
  ev_cb (ea_cons ha (ea_cons ev_c ea_nil)) (rc_isi hx hk)
/-! ### len, max, min, int -/
theorem rc_lenL (h : SqL K H a xs) : RC (bLenQ K) [.ref a] H (.int (xs.length : Int)) :=
  fun H1 e Q q => ⟨a, xs, rfl, .inl (ex_l e h), q H1 (Ex.refl H1)⟩
theorem rc_lenT (h : SqT K H a xs) : RC (bLenQ K) [.ref a] H (.int (xs.length : Int)) :=
  fun H1 e Q q => ⟨a, xs, rfl, .inr (ex_t e h), q H1 (Ex.refl H1)⟩
theorem ev_lenL (ha : Ev ta σ H (.ref a)) (h : SqL K H a xs) : Ev (tCB (bLenQ K) (tCons ta tNil)) σ H (.int (xs.length : Int)) := ev_cb (ea_cons ha ea_nil) (rc_lenL h)
theorem ev_lenT (ha : Ev ta σ H (.ref a)) (h : SqT K H a xs) : Ev (tCB (bLenQ K) (tCons ta tNil)) σ H (.int (xs.length : Int)) := ev_cb (ea_cons ha ea_nil) (rc_lenT h)
theorem ev_maxI {i j : Int} (ha : Ev ta σ H (.int i)) (hb : Ev tb σ H (.int j)) : Ev (tCB bMax2 (tCons ta (tCons tb tNil))) σ H (.int (if j > i then j else i)) :=
  ev_cb (ea_cons ha (ea_cons hb ea_nil)) fun H1 _ Q q => ⟨i, j, rfl, q H1 (Ex.refl H1)⟩
theorem ev_minI {i j : Int} (ha : Ev ta σ H (.int i)) (hb : Ev tb σ H (.int j)) : Ev (tCB bMin2 (tCons ta (tCons tb tNil))) σ H (.int (if j < i then j else i)) :=
  ev_cb (ea_cons ha (ea_cons hb ea_nil)) fun H1 _ Q q => ⟨i, j, rfl, q H1 (Ex.refl H1)⟩
theorem ev_intI {i : Int} (ha : Ev ta σ H (.int i)) : Ev (tCB bInt1 (tCons ta tNil)) σ H (.int i) :=
  ev_cb (ea_cons ha ea_nil) fun H1 _ Q q => .inl ⟨i, rfl, q H1 (Ex.refl H1)⟩
theorem ev_intB {k : Bool} (ha : Ev ta σ H (.bl k)) : Ev (tCB bInt1 (tCons ta tNil)) σ H (.int (if k then 1 else 0)) :=
  ev_cb (ea_cons ha ea_nil) fun H1 _ Q q => .inr ⟨k, rfl, q H1 (Ex.refl H1)⟩
theorem el_listOf (ha : Ev ta σ H (.ref a)) (h : SqL K H a xs) : EvL (tCB (bListOf K) (tCons ta tNil)) σ H xs :=
  el_cb (ea_cons ha ea_nil) fun H1 e Q q => ⟨a, xs, rfl, .inl (ex_l e h), fun l hl => q l _ hl (Ex.new hl) upd_same⟩
theorem el_rev (ha : Ev ta σ H (.ref a)) (h : SqL K H a xs) : EvL (tRevL K ta) σ H xs.reverse :=
  fun H1 e Q q => ha H1 e _ fun H2 e2 => ⟨a, xs, rfl, ex_l (e.trans e2) h, fun p hp => q p _ (fresh_back e2 hp) (e2.trans (Ex.new hp)) upd_same⟩
theorem ev_isN (ha : Ev ta σ H x) : Ev (tIsN ta) σ H (.bl (decide (x = .non))) := fun H1 e Q q => ha H1 e _ q
theorem ev_notN (ha : Ev ta σ H x) : Ev (tNotN ta) σ H (.bl (!decide (x = .non))) := fun H1 e Q q => ha H1 e _ q
/-- a chain -/
theorem ev_chain {r r' : R2} {k b : Bool} (ha : Ev ta σ H x) (hb : Ev tb σ H y) (h1 : RV r x y H (.bl k)) (hc : k = true → Ev tc σ H z) (h2 : k = true → RV r' y z H (.bl b)) : Ev (tChain r r' ta tb tc) σ H (.bl (k && b)) := by
  intro H1 e Q q
  refine ha H1 e _ fun H2 e2 => hb H2 (e.trans e2) _ fun H3 e3 => h1 H3 (e.trans (e2.trans e3)) _ fun H4 e4 => ⟨k, rfl, ?_⟩
  cases k with
  | false => exact q H4 (e2.trans (e3.trans e4))
  | true => exact hc rfl H4 (e.trans (e2.trans (e3.trans e4))) _ fun H5 e5 => h2 rfl H5 (e.trans (e2.trans (e3.trans (e4.trans e5)))) _ fun H6 e6 => q H6 (e2.trans (e3.trans (e4.trans (e5.trans e6))))
theorem et_chain {b : Bool} (h : Ev te σ H (.bl b)) : EvT (tTest te) σ H b := et_test h
/-! ### any, all, sum of lists just made -/
theorem ev_anyN {bs : List Bool} (ha : EvL ta σ H (bs.map V.bl)) : Ev (tCB (rAny K) (tCons ta tNil)) σ H (.bl (bs.any id)) :=
  fun H1 e Q q => ha H1 e _ fun p H2 _ e2 h2 => ⟨p, bs, rfl, sq_of h2, q H2 e2⟩
theorem ev_allN {bs : List Bool} (ha : EvL ta σ H (bs.map V.bl)) : Ev (tCB (rAll K) (tCons ta tNil)) σ H (.bl (bs.all id)) :=
  fun H1 e Q q => ha H1 e _ fun p H2 _ e2 h2 => ⟨p, bs, rfl, sq_of h2, q H2 e2⟩
theorem ev_sumN {ns : List Int} (ha : EvL ta σ H (ns.map V.int)) : Ev (tCB (rSum K) (tCons ta tNil)) σ H (.int ns.sum) :=
  fun H1 e Q q => ha H1 e _ fun p H2 _ e2 h2 => ⟨p, ns, rfl, sq_of h2, q H2 e2⟩
theorem el_eq {ys : List V} (h : EvL te σ H xs) (e : xs = ys) : EvL te σ H ys := e ▸ h
/-! ### calls of the text's defs -/
theorem ev_ca1 {R : R1} {E : XK} (ha : Ev ta σ H x) (h : ∀ H1, Ex H H1 → ∀ Q : VK, (∀ H2, Ex H1 H2 → Q z H2) → R x H1 Q E) : Ev (tCall (sp1 R) [] E (tCons ta tNil)) σ H z :=
  fun H1 e Q q => ha H1 e _ fun H2 e2 => h H2 (e.trans e2) Q fun H3 e3 => q H3 (e2.trans e3)
theorem ev_ca2 {R : R2'} {E : XK} (ha : Ev ta σ H x) (hb : Ev tb σ H y) (h : ∀ H1, Ex H H1 → ∀ Q : VK, (∀ H2, Ex H1 H2 → Q z H2) → R x y H1 Q E) : Ev (tCall (sp2 R) [] E (tCons ta (tCons tb tNil))) σ H z :=
  fun H1 e Q q => ha H1 e _ fun H2 e2 => hb H2 (e.trans e2) _ fun H3 e3 => h H3 (e.trans (e2.trans e3)) Q fun H4 e4 => q H4 (e2.trans (e3.trans e4))
theorem ev_ca3 {w : V} {R : R3} {E : XK} (ha : Ev ta σ H x) (hb : Ev tb σ H y) (hc : Ev tc σ H w) (h : ∀ H1, Ex H H1 → ∀ Q : VK, (∀ H2, Ex H1 H2 → Q z H2) → R x y w H1 Q E) : Ev (tCall (sp3 R) [] E (tCons ta (tCons tb (tCons tc tNil)))) σ H z :=
  fun H1 e Q q => ha H1 e _ fun H2 e2 => hb H2 (e.trans e2) _ fun H3 e3 => hc H3 (e.trans (e2.trans e3)) _ fun H4 e4 => h H4 (e.trans (e2.trans (e3.trans e4))) Q fun H5 e5 => q H5 (e2.trans (e3.trans (e4.trans e5)))
/-! ### data -/
mutual
theorem Dp.ex (e : Ex H H') : ∀ (d : PyData) (v : V), Dp K H v d → Dp K H' v d
  | .none, _, h => by cases h; exact .non
  | .bool b, _, h => by cases h; exact .bl b
  | .int i, _, h => by cases h; exact .int i
  | .str x, _, h => by cases h; exact .str x
  | .list ds, _, h => by
    cases h with
    | lst h1 h2 => exact .lst (ex_l e h1) (DpAll.ex e ds _ h2)
  | .tuple ds, _, h => by
    cases h with
    | tup h1 h2 => exact .tup (ex_t e h1) (DpAll.ex e ds _ h2)
  | .dict _, _, h => by cases h
theorem DpAll.ex (e : Ex H H') : ∀ (ds : List PyData) (vs : List V), DpAll K H vs ds → DpAll K H' vs ds
  | [], _, h => by cases h; exact .nil
  | d :: ds, _, h => by
    cases h with
    | cons h1 h2 => exact .cons (Dp.ex e d _ h1) (DpAll.ex e ds _ h2)
end
theorem rv_eqD {d e : PyData} (hx : Dp K H x d) (hy : Dp K H y e) (s1 : SeqAt.shaped d = true) (s2 : SeqAt.shaped e = true) : RV (rEqD K) x y H (.bl (PyData.eqv d e)) :=
  fun H1 ex Q q => ⟨d, e, Dp.ex ex d _ hx, Dp.ex ex e _ hy, s1, s2, q H1 (Ex.refl H1)⟩
theorem rv_neD {d e : PyData} (hx : Dp K H x d) (hy : Dp K H y e) (s1 : SeqAt.shaped d = true) (s2 : SeqAt.shaped e = true) : RV (rNeD K) x y H (.bl (!PyData.eqv d e)) :=
  fun H1 ex Q q => ⟨d, e, Dp.ex ex d _ hx, Dp.ex ex e _ hy, s1, s2, q H1 (Ex.refl H1)⟩
theorem dp_ints : ∀ ns : List Int, DpAll K H (ns.map V.int) (ns.map PyData.int)
  | [] => .nil
  | n :: ns => .cons (.int n) (dp_ints ns)
theorem dp_il {ns : List Int} (h : SqL K H a (ns.map V.int)) : Dp K H (.ref a) (.list (ns.map PyData.int)) := .lst h (dp_ints ns)
theorem dp_it {ns : List Int} (h : SqT K H a (ns.map V.int)) : Dp K H (.ref a) (.tuple (ns.map PyData.int)) := .tup h (dp_ints ns)
theorem canL_ints : ∀ ns : List Int, PyData.canLayAll0 (ns.map PyData.int) = true
  | [] => by simp [PyData.canLayAll0]
  | n :: ns => by simp [PyData.canLayAll0, PyData.canLay0, canL_ints ns]
theorem dep_ints : ∀ ns : List Int, PyData.depthAll (ns.map PyData.int) = 0
  | [] => by simp [PyData.depthAll]
  | n :: ns => by simp [PyData.depthAll, PyData.depth, dep_ints ns]
theorem sh_il (ns : List Int) : SeqAt.shaped (.list (ns.map PyData.int)) = true := by
  simp [SeqAt.shaped, PyData.canLay0, PyData.depth, canL_ints, dep_ints]
theorem sh_it (ns : List Int) : SeqAt.shaped (.tuple (ns.map PyData.int)) = true := by
  simp [SeqAt.shaped, PyData.canLay0, PyData.depth, canL_ints, dep_ints]
theorem eqv_ints : ∀ ns ms : List Int, PyData.eqvAll (ns.map PyData.int) (ms.map PyData.int) = decide (ns = ms) := fun ns ms => PySem.W.eqvAll_map ns ms
theorem eqv_il (ns ms : List Int) : PyData.eqv (.list (ns.map PyData.int)) (.list (ms.map PyData.int)) = decide (ns = ms) := by
  rw [PyData.eqv]
  exact eqv_ints ns ms
theorem eqv_it (ns ms : List Int) : PyData.eqv (.tuple (ns.map PyData.int)) (.tuple (ms.map PyData.int)) = decide (ns = ms) := by
  rw [PyData.eqv]
  exact eqv_ints ns ms
end
/-! ### comprehensions whose element is told item by item -/
section
variable {K : PySem.W.Frag} {σ : L2.St} {H H' : Hp} {ta tb te tc : TE} {t u : TT} {x y z v : V} {a : Addr} {xs : List V} {D : Ends} {tu tz : TS} {g : TG}
theorem et_yes : EvT tYes σ H true := fun H1 _ Q q => q H1 (Ex.refl H1)
theorem given_all (n : Nat) (v : Nat → V) : given n (fun _ => true) v = (List.range n).map v := by
  unfold given
  rw [List.filter_eq_self.mpr (fun _ _ => rfl)]
theorem given_list (ys : List V) : given ys.length (fun _ => true) (fun i => ys.getD i .non) = ys := by
  rw [given_all]
  apply List.ext_getElem
  · rw [List.length_map, List.length_range]
  · intro i h1 h2
    rw [List.getElem_map, List.getElem_range, List.getD_eq_getElem?_getD, List.getElem?_eq_getElem h2]
    rfl
theorem getD_at {ys : List V} {i : Nat} (h : i < ys.length) : ys[i]? = some (ys.getD i .non) := by
  rw [List.getD_eq_getElem?_getD, List.getElem?_eq_getElem h]
  rfl
theorem el_mapL {tl : TE} {j : Nat} {vs : List Nat} (ys : List V) (h : Ev tl σ H (.ref a)) (hx : SqL K H a xs) (hl : ys.length = xs.length) (hz : xs.length ≤ 40000) (hw : ∀ x, wipe ((wipe σ vs).set j (some x)) vs = wipe σ vs)
    (he : ∀ (i : Nat) (x y : V) H1, Ex H H1 → xs[i]? = some x → ys[i]? = some y → Ev te ((wipe σ vs).set j (some x)) H1 y) : EvL (tLc (iList K tl) (gName j) tYes te vs) σ H ys := by
  have h0 := el_lcL (K := K) (te := te) (fun _ => true) (fun i => ys.getD i .non) h hx hz hw (fun _ _ _ _ _ => et_yes) (fun i x H1 e hi _ => he i x _ H1 e hi (getD_at (by rw [hl]; exact (List.getElem?_eq_some_iff.mp hi).1)))
  rw [← hl, given_list] at h0
  exact h0
theorem el_mapNL {tl : TE} {j : Nat} {vs : List Nat} (ys : List V) (h : EvL tl σ H xs) (hl : ys.length = xs.length) (hz : xs.length ≤ 40000) (hw : ∀ x, wipe ((wipe σ vs).set j (some x)) vs = wipe σ vs)
    (he : ∀ (i : Nat) (x y : V) H1, Ex H H1 → xs[i]? = some x → ys[i]? = some y → Ev te ((wipe σ vs).set j (some x)) H1 y) : EvL (tLc (iList K tl) (gName j) tYes te vs) σ H ys := by
  have h0 := el_lcNL (K := K) (te := te) (fun _ => true) (fun i => ys.getD i .non) h hz hw (fun _ _ _ _ _ => et_yes) (fun i x H1 e hi _ => he i x _ H1 e hi (getD_at (by rw [hl]; exact (List.getElem?_eq_some_iff.mp hi).1)))
  rw [← hl, given_list] at h0
  exact h0
theorem el_lcT {tl : TE} {j : Nat} {vs : List Nat} (f : Nat → Bool) (v : Nat → V) (h : Ev tl σ H (.ref a)) (hx : SqT K H a xs) (hz : xs.length ≤ 40000) (hw : ∀ x, wipe ((wipe σ vs).set j (some x)) vs = wipe σ vs)
    (ht : ∀ (i : Nat) (x : V) H1, Ex H H1 → xs[i]? = some x → EvT t ((wipe σ vs).set j (some x)) H1 (f i)) (he : ∀ (i : Nat) (x : V) H1, Ex H H1 → xs[i]? = some x → f i = true → Ev te ((wipe σ vs).set j (some x)) H1 (v i)) :
    EvL (tLc (iTup K tl) (gName j) t te vs) σ H (given xs.length f v) := fun H0 e Q q => h H0 e _ fun H1 e1 => ⟨a, rfl, ⟨xs, ex_t (e.trans e1) hx⟩, fun Dl hD =>
  lc_tup (xs := xs) (Cw H1 f v Dl) ⟨hD, Ex.new hD, upd_same⟩ (fun i H' _ p => ex_t ((e.trans e1).trans p.2.1) hx) (fun i x H' hi p => ⟨hw x, cw_turn p (by have := (List.getElem?_eq_some_iff.mp hi).1; omega) (ht i x H1 (e.trans e1) hi) (fun hf => he i x H1 (e.trans e1) hi hf)⟩)
    (fun H' p => q Dl H' (fresh_back e1 p.1) (e1.trans p.2.1) p.2.2)⟩
theorem el_mapT {tl : TE} {j : Nat} {vs : List Nat} (ys : List V) (h : Ev tl σ H (.ref a)) (hx : SqT K H a xs) (hl : ys.length = xs.length) (hz : xs.length ≤ 40000) (hw : ∀ x, wipe ((wipe σ vs).set j (some x)) vs = wipe σ vs)
    (he : ∀ (i : Nat) (x y : V) H1, Ex H H1 → xs[i]? = some x → ys[i]? = some y → Ev te ((wipe σ vs).set j (some x)) H1 y) : EvL (tLc (iTup K tl) (gName j) tYes te vs) σ H ys := by
  have h0 := el_lcT (K := K) (te := te) (fun _ => true) (fun i => ys.getD i .non) h hx hz hw (fun _ _ _ _ _ => et_yes) (fun i x H1 e hi _ => he i x _ H1 e hi (getD_at (by rw [hl]; exact (List.getElem?_eq_some_iff.mp hi).1)))
  rw [← hl, given_list] at h0
  exact h0
/-! ### while by a word and a number that falls; two names stored at once; a pair taken apart -/
theorem s_whl (W : Nat → L2.St → Hp → Prop) (m0 : Nat) (h0 : W m0 σ H)
    (hs : ∀ m σ' H', W m σ' H' → ∃ b, EvT t σ' H' b ∧ (b = true → ∀ H1, Ex H' H1 → tu { D with nx := fun σ2 H2 => ∃ m', m' < m ∧ W m' σ2 H2, ct := fun σ2 H2 => ∃ m', m' < m ∧ W m' σ2 H2, bk := D.nx } σ' H1) ∧ (b = false → ∀ H1, Ex H' H1 → D.nx σ' H1)) : tWhile t tu D σ H :=
  s_while W m0 h0 fun m σ' H' hw => by
    obtain ⟨b, hb, h1, h2⟩ := hs m σ' H' hw
    exact ⟨b, hb, fun e H1 e1 => ⟨_, fun _ _ h => h, h1 e H1 e1⟩, h2⟩
theorem q_whl (W : Nat → L2.St → Hp → Prop) (m0 : Nat) (h0 : W m0 σ H)
    (hs : ∀ m σ' H', W m σ' H' → ∃ b, EvT t σ' H' b ∧ (b = true → ∀ H1, Ex H' H1 → tu { D with nx := fun σ2 H2 => ∃ m', m' < m ∧ W m' σ2 H2, ct := fun σ2 H2 => ∃ m', m' < m ∧ W m' σ2 H2, bk := tz D } σ' H1) ∧ (b = false → ∀ H1, Ex H' H1 → tz D σ' H1)) : tSeq (tWhile t tu) tz D σ H :=
  s_whl (D := { D with nx := tz D }) W m0 h0 hs
theorem s_par {i j : Nat} {w : V} (ha : Ev ta σ H v) (hb : Ev tb σ H w) (k : ∀ H1, Ex H H1 → D.nx ((σ.set i (some v)).set j (some w)) H1) : tPar i j (tCons ta (tCons tb tNil)) D σ H :=
  ha H (Ex.refl H) _ fun H1 e1 => hb H1 e1 _ fun H2 e2 => ⟨v, w, rfl, k H2 (e1.trans e2)⟩
theorem q_par {i j : Nat} {w : V} (ha : Ev ta σ H v) (hb : Ev tb σ H w) (k : ∀ H1, Ex H H1 → tz D ((σ.set i (some v)).set j (some w)) H1) : tSeq (tPar i j (tCons ta (tCons tb tNil))) tz D σ H :=
  s_par (D := { D with nx := tz D }) ha hb k
theorem g_tup2 {i j : Nat} {w : V} {p : Addr} {Q : L2.St → Hp → Prop} (h : SqT K H p [v, w]) (q : Q ((σ.set i (some v)).set j (some w)) H) : gTup K 2 (gCons (gName i) (gCons (gName j) gNil)) (.ref p) σ H Q :=
  ⟨p, [v, w], rfl, h, rfl, v, [w], rfl, w, [], rfl, rfl, q⟩
/-- a, b = e, e a tuple that is read, or a new one -/
theorem q_tup2 {i j : Nat} {w : V} {p : Addr} (h : Ev te σ H (.ref p)) (hp : SqT K H p [v, w]) (k : ∀ H1, Ex H H1 → tz D ((σ.set i (some v)).set j (some w)) H1) : tSeq (tAsg te (gTup K 2 (gCons (gName i) (gCons (gName j) gNil)))) tz D σ H :=
  h H (Ex.refl H) _ fun H1 e => g_tup2 (ex_t e hp) (k H1 e)
theorem q_tup2N {i j : Nat} {w : V} (h : EvU te σ H [v, w]) (k : ∀ H1, Ex H H1 → tz D ((σ.set i (some v)).set j (some w)) H1) : tSeq (tAsg te (gTup K 2 (gCons (gName i) (gCons (gName j) gNil)))) tz D σ H :=
  h H (Ex.refl H) _ fun p H1 _ e h1 => g_tup2 (st_of h1) (k H1 e)
def RetU (xs : List V) (H : Hp) (Q : VK) : Prop := ∀ p H2, H p = none → Ex H H2 → H2 p = some (.tup xs) → Q (.ref p) H2
theorem RetU.go {Q : VK} (k : RetU xs H Q) (e : Ex H H') {p : Addr} {H2 : Hp} (hp : H' p = none) (e2 : Ex H' H2) (h : H2 p = some (.tup xs)) : Q (.ref p) H2 := k p H2 (fresh_back e hp) (e.trans e2) h
end
theorem small_nn {n : Nat} (h : n ≤ 100000) : n ≤ sizeLine := sz_of h
/-- a list that was new is changed: what was known ahead stays; tuples stay -/
theorem sqT_mut {K : PySem.W.Frag} {H : Hp} {l t : Addr} {xs ys : List V} {o : HO} (hl : H l = some (.lst xs)) (h : SqT K H t ys) : SqT K (upd H l o) t ys := by
  rcases h with (h | ⟨u, h⟩) | h
  · exact .inl (.inl (by rw [upd_ne (ne_of h hl (by intro z; cases z))]; exact h))
  · exact .inl (.inr ⟨u, by rw [upd_ne (ne_of h hl (by intro z; cases z))]; exact h⟩)
  · exact .inr h
theorem nat_of {z : Int} (h : 0 ≤ z) : ∃ n : Nat, z = (n : Int) := Int.eq_ofNat_of_zero_le h
end Sv

set_option Elab.async false
set_option linter.all false
set_option maxRecDepth 100000
set_option maxHeartbeats 4000000
/-! SvHot: what a def does that is called while an exception is handled: the end of a list's walk, sum, [int(x) for x in ..], isinstance of that exception. -/
namespace Sv
open PySem PySem.Spec PyProof.Rows L2 Evl HotX L2H
section
variable {prog : Program} {w : World} {A : Around} {E : Value → Shared → Prop} {s : Shared}
theorem next_end_hot {it l x1 : Addr} {i : Nat} {items : Array Value} {Q : Option Value → Shared → Prop} (hot : HotAt A x1 s.heap) (hne : x1 ≠ it) (hit : s.heap.IsListIter it l i) (hl : s.heap.IsList l items) (hx : items[i]? = none)
    (hQ : ∀ h', Heap.ExtBut it s.heap h' → Q none { s with heap := h' }) : wpAny (model prog w) A (pyNext (.ref it)) Q E s := by
  obtain ⟨o, ho, hc, hd⟩ := id hit
  obtain ⟨ol, hol, _, nl, hdl⟩ := hl
  obtain ⟨hh, o1, vs1, k1, d1, c1⟩ := hot
  unfold pyNext
  refine wpAny_bind (wpAny_attempt (wpAny_callSpecial?_slot (name := Str.ofString "__next__") hit.typeIs slot_listiter_next
    (wpAny_call_entry slot_listiter_next hit.typeIs entry_listiter_next ?g0 (args_listiter_next _))))
  show wpAny _ _ (field (.ref it) 0 >>= _) _ _ s
  refine wpAny_bind (wpAny_field ho hd (x := .ref l) rfl ?g1)
  show wpAny _ _ (if (Value.ref l == Value.none) = true then _ else _) _ _ s
  rw [if_neg (show ¬ ((Value.ref l == Value.none) = true) from Bool.false_ne_true)]
  show wpAny _ _ (field (.ref it) 1 >>= _) _ _ s
  refine wpAny_bind (wpAny_field ho hd (x := .int i 0) rfl ?g2)
  show wpAny _ _ (seqItems? (.ref l) >>= _) _ _ s
  refine wpAny_bind (wpAny_seqItems hol hdl ?g3)
  simp only [Int.toNat_natCast, hx]
  refine wpAny_bind (wpAny_rule (wpAny_bind (wpAny_setField ho hd (by simp) ?g4)))
  show wpAny _ _ (newExc (.type "StopIteration") [] >>= _) _ _ _
  refine wpAny_bind ?g5
  simp only [newExc, newTuple]
  refine wpAny_bind (wpAny_newObj_type ?g6 (by size_fits))
  refine wpAny_bind (m := firstArgMember _ _) (wpAny_of_eq (a := Value.none) (by first | rfl | (simp only [firstArgMember]; rfl)) ?g7)
  refine wpAny_newObj_type ?g8 (by size_fits)
  refine raiseNew_hot ⟨hh, o1, vs1, Heap.get?_push_of_some _ (Heap.get?_push_of_some _ ((Heap.SameBut.update ..).extBut _ _ hne k1)), d1, c1⟩ (Nat.ne_of_lt (Heap.lt_size (Heap.get?_push_of_some _ ((Heap.SameBut.update ..).extBut _ _ hne k1)))) (Heap.get?_push_size _ rfl) rfl (by first | (simp; done) | (simp; omega)) ?g9
  refine wpAny_bind (wpAny_isInstance (T := "StopIteration") (b := true) ⟨_, Heap.get?_update_self _ (Heap.get?_push_size _ rfl) rfl, rfl⟩ isSubtype_stop ?g10)
  refine wpAny_pure (hQ _ fun b ob hb e => ?g11)
  have e1 := Heap.get?_push_of_some { cls := .type "tuple", data := .seq #[] } ((Heap.SameBut.update (h := s.heap) (a := it) (f := Obj.mapFields (·.setIfInBounds 0 Value.none))).extBut b ob hb e)
  rw [Heap.get?_update_other _ _ (Nat.ne_of_gt (Heap.lt_size e1))]
  exact Heap.get?_push_of_some _ e1
theorem walks_hot {I ax x1 : Addr} {oe : Obj} {vs : Array Value} (hh : A.handled = some (.ref x1)) (d1 : oe.data = .fields vs) (c1 : vs[2]? = some .none) (hne : ax ≠ I) (hn1 : x1 ≠ I) (items : Array Value) :
    Walks prog w A I [I, ax, x1] [I] items.size (fun i v => items[i]? = some v) (fun i h => h.IsListIter I ax i ∧ h.IsList ax items ∧ h.get? x1 = some oe) where
  sub := fun b hb => by
    rw [List.mem_singleton.mp hb]
    exact List.mem_cons_self
  frame := fun i h h' st hk => ⟨st.1.at fun o e => hk I (by simp) o e, st.2.1.at fun o e => hk ax (by simp) o e, hk x1 (by simp) _ st.2.2⟩
  item := fun i s Q E hi st hQ => by
    refine wpAny_pyNext_list_item st.1 st.2.1 (x := items[i]) (by simp [hi]) fun h' hit' hs' => ?_
    refine hQ _ h' s.toks (by simp [hi]) ⟨hit', st.2.1.extBut hs'.extBut hne, hs'.extBut _ _ hn1 st.2.2⟩ fun b o hb e => ?_
    exact hs'.extBut b o (fun z => hb (by rw [z]; exact List.mem_cons_self)) e
  done := fun s Q E st hQ => next_end_hot ⟨hh, oe, vs, st.2.2, d1, c1⟩ hn1 st.1 st.2.1 (by simp) fun h' he' => hQ h' s.toks fun b o hb e => he' b o (fun z => hb (by rw [z]; exact List.mem_cons_self)) e
  self := fun _ _ _ _ st hQ => wpAny_pyIter_listiter st.1 hQ
theorem goes_hot {target : Expr} {I ax x1 : Addr} {oe : Obj} {vs : Array Value} (hh : A.handled = some (.ref x1)) (d1 : oe.data = .fields vs) (c1 : vs[2]? = some .none) (hne : ax ≠ I) (hn1 : x1 ≠ I) (items : Array Value) :
    Goes prog w A target I [I, ax, x1] [I] items.size (fun i v _ => items[i]? = some v) (fun i h => h.IsListIter I ax i ∧ h.IsList ax items ∧ h.get? x1 = some oe) :=
  Goes.ofWalks (walks_hot hh d1 c1 hne hn1 items) fun i v s Q E (st : s.heap.IsListIter I ax i ∧ s.heap.IsList ax items ∧ s.heap.get? x1 = some oe) q => by
    obtain ⟨o, ho, hc, hd⟩ := st.1
    exact letGo_of_cls ho hc hd (by decide) q
/-- sum of a list of ints, an exception handled -/
theorem sum_hot {l x1 : Addr} {xs : Array (Int × Tok)} {oe : Obj} {vs : Array Value} {Q : Value → Shared → Prop} (hh : A.handled = some (.ref x1)) (h1 : s.heap.get? x1 = some oe) (d1 : oe.data = .fields vs) (c1 : vs[2]? = some .none) (hl : s.heap.IsList l (intItems xs))
    (h : ∀ h' tk t', (∀ b o, s.heap.get? b = some o → h'.get? b = some o) → Q (.int (preSum (numAt xs) xs.size) t') { s with heap := h', toks := tk }) : wpAny (model prog w) A (call (.builtin "sum") [.ref l]) Q E s := by
  refine call_sum_walkG (iter_intList hl fun s₂ e st hfp hlI => ?_)
  subst e
  have hx1 := Heap.lt_size h1
  have k1 := Heap.get?_push_of_some { cls := .type "list_iterator", data := .fields #[.ref l, .int 0 0] } h1
  refine ⟨_, _, _, _, _, _, numAt xs, rfl, walks_hot (A := A.in1) (oe := oe) hh d1 c1 hlI (Nat.ne_of_lt hx1) (intItems xs), ⟨st.1, st.2, k1⟩, fun b hb => ?_, (fun _ _ => intItems_at), fun h' tk t' hk => ?_⟩
  · rcases List.mem_cons.mp hb with z | z
    · exact hfp b (by rw [z]; exact List.mem_cons_self)
    · rcases List.mem_cons.mp z with z | z
      · exact hfp b (by rw [z]; exact List.mem_cons_of_mem _ List.mem_cons_self)
      · rw [List.mem_singleton.mp z]
        exact Heap.lt_size k1
  · have := h h' tk t' (old_kept hk)
    simpa [intItems] using this
end
section
variable {X : Cx}
theorem hotGet {pins : List (Addr × Obj)} {σ : L2.St} {H : Hp} {s : Shared} (c : HotC X) (I : L2.Inv X pins σ H s) : ∃ (x1 : Addr) (oe : Obj) (vs : Array Value), X.A.handled = some (.ref x1) ∧ s.heap.get? x1 = some oe ∧ oe.data = .fields vs ∧ vs[2]? = some .none := by
  obtain ⟨x1, hh, oe, vs, h1, d1, c1⟩ := c.at I
  exact ⟨x1, oe, vs, hh, h1, d1, c1⟩
theorem cr_sumH (hc : HotC X) : CallR X (.builtin "sum") (rSum X.K) := by
  intro pins s σ H vs us Q I r h
  obtain ⟨a, ns, rfl, hs, q⟩ := h
  obtain ⟨its, rv, hl, _⟩ := I.list hs
  obtain ⟨x1, oe, ws, hh, h1, d1, c1⟩ := hotGet hc I
  rw [Vals.ref1 r]
  obtain ⟨xs, e⟩ := rv.ints.allInts.items
  have hn : numsOf (intItems xs).toList = ns := by
    rw [← e]
    exact rv.ints.numsOf
  rw [nums_intItems] at hn
  have hl' := hl.isList
  rw [e] at hl'
  refine sum_hot hh h1 d1 c1 hl' fun h' tk t' hk => ?_
  rw [preSum_eq, List.take_of_length_le (by simp), hn]
  exact ⟨.int _, H, I.kept hk, ⟨_, rfl⟩, q⟩
/-- isinstance(e, c), e the exception that is handled -/
theorem call_isP {a C : Addr} {oe : Obj} (hp : (a, oe) ∈ X.pn) (T : ExcC X.K C) (hz : Zc (.ref C) none oe) (hf : ∃ vs, oe.data = .fields vs) : CallR X (.builtin "isinstance") (rIsE X.K C a) := by
  intro pins s σ H xs us Q I r h
  obtain ⟨c, cv, b, rfl, hcv, e, q⟩ := h
  obtain ⟨u1, u2, rfl, r1, r2⟩ := Vals.two r
  cases r1
  rw [hcv _ r2]
  have hget := (I.pin (a, oe) (List.mem_append_left _ hp)).1
  obtain ⟨vs, hv⟩ := hf
  have J : PySem.W.InstAt s.heap a oe C none := by
    obtain ⟨oc, od, oda, osl⟩ := oe
    obtain ⟨z1, z2⟩ := hz
    dsimp only at z1 z2 hv
    subst z1 z2 hv
    exact ⟨hget, rfl, rfl, trivial⟩
  exact PySem.W.kia_one (PySem.W.handS_kitx_exc T.hg T.hk T.hs T.hd T.ha T.hn T.ht T.hm) I.kIn J e (fun z => nomatch z) fun tk => ⟨.bl b, H, I.kept (t' := tk) fun _ _ z => z, rfl, q⟩
/-- [int(v) for v in ..] over truth values -/
def tIntsH (K : PySem.W.Frag) (te : TE) : TE := fun σ H Q => te σ H fun x H1 => ∃ (a : Addr) (bs : List Bool), x = .ref a ∧ SqL K H1 a (bs.map V.bl) ∧ ∀ D, H1 D = none → Q (.ref D) (upd H1 D (.lst (bs.map fun b => .int (if b then 1 else 0))))
theorem arith1 {b N C D : Nat} (hb : b < N ∨ b = C) (hC : N + 1 ≤ C) (hD : N + 1 ≤ D) (h : D ≠ C) : ¬ (b = D ∨ b = N) := by omega
theorem arith2 {b N C : Nat} (hb : b < N + 1) (hC : N + 1 ≤ C) : b ≠ C := by omega
theorem pe_intsH {v : Str} {iter : Expr} {te : TE} {scope : Scope} {p1 p2 p3 p4 pos : Pos} (hc : HotC X) (hi : PE X iter te) (hclos : closureFor scope X.env = pure []) (hcell : ∀ y ∈ scope.names, y.2 ≠ .cell) (hkind : scope.kind = .function)
    (hnames : ∀ y ∈ scope.names, y.2 = .local → scope.names.lookup y.1 = some .local) (hv : scope.names.lookup v = some .local) (hint : ∀ C, (compEnvC scope [] C X.env).kindOf ("int" : Str) = some .globalImplicit) (hm : X.mg "int" = none) (hdv : (v == ("__debug__" : Str)) = false)
    (hs : ∀ x, foldedSetIterable iter X.env x = pure x := by intro _; rfl) : PE X (.ListComp (.Call (.Name "int" p1) [.Name v p2] [] p3) [⟨.Name v p4, iter, [], 0⟩] scope pos) (tIntsH X.K te) := by
  refine ⟨fun pins s σ H Q I h => ?_⟩
  refine ListComp_goes hclos hcell hkind hnames (thn (hi.run pins s σ H _ I h) fun u s1 ⟨x, H1, I1, r1, a, bs, ex, hS, q⟩ => ?_) hs
  subst ex
  cases r1
  obtain ⟨its, rv, hl, hz⟩ := I1.list hS
  obtain ⟨x1, oe, vs1, hh, h1, d1, c1⟩ := hotGet hc I1
  have ei : its = bs.map Value.bool := Vals.bls rv
  have hlt : a < s1.heap.objs.size := by
    obtain ⟨o, ho, _⟩ := hl.isList
    exact Heap.lt_size ho
  have hx1 := Heap.lt_size h1
  have hsz := rv.length
  refine wpAny_pyIter_list hl.isList ?_
  refine ⟨_, _, _, _, _, _, rfl, goes_hot hh d1 c1 (Nat.ne_of_lt hlt) (Nat.ne_of_lt hx1) its.toArray, by rw [List.size_toArray]; omega, ⟨⟨_, Heap.get?_push_size _ rfl, rfl, rfl⟩, hl.isList.push _, Heap.get?_push_of_some _ h1⟩, fun b hb => ?_, fun D C s₃ hB => ?_⟩
  · show b < (s1.heap.push _).objs.size
    rw [Heap.size_push]
    have hb : b = s1.heap.objs.size ∨ b = a ∨ b = x1 := by simpa using hb
    rcases hb with z | z | z
    · rw [z]
      exact Nat.lt_succ_self _
    · rw [z]
      exact Nat.lt_succ_of_lt hlt
    · rw [z]
      exact Nat.lt_succ_of_lt hx1
  obtain ⟨⟨h₃, tk₃, rfl⟩, old, nD, nC, hDC, hnm⟩ := hB
  have nC' : (s1.heap.objs.size + 1 : Nat) ≤ C := by
    have q : (s1.heap.push { cls := .type "list_iterator", data := .fields #[.ref a, .int 0 0] }).objs.size ≤ C := nC
    rw [Heap.size_push] at q
    exact q
  have nD' : (s1.heap.objs.size + 1 : Nat) ≤ D := by
    have q : (s1.heap.push { cls := .type "list_iterator", data := .fields #[.ref a, .int 0 0] }).objs.size ≤ D := nD
    rw [Heap.size_push] at q
    exact q
  have hDC' : (D : Nat) ≠ C := hDC
  have kv : (compEnvC scope [] C X.env).kindOf v = some .local := lookup_relabel_local hv
  have hp : ((compEnvC scope [] C X.env).scope.kind == .class || ((compEnvC scope [] C X.env).scope.kind == .module && (compEnvC scope [] C X.env).locals != (compEnvC scope [] C X.env).globals)) = false := by
    show (scope.kind == .class || (scope.kind == .module && _)) = false
    rw [hkind]
    rfl
  refine ⟨fun i ys s2 => ∃ h' tk m, s2 = { s1 with heap := h', toks := tk } ∧ h'.Ns C m ∧ Vals ((bs.take i).map fun b => V.int (if b then 1 else 0)) ys ∧ ∀ b o, s1.heap.get? b = some o → h'.get? b = some o,
    ⟨h₃, tk₃, _, rfl, hnm, .nil, fun b o e => old b o (Heap.get?_push_of_some _ e)⟩, ?_, ?_, ?_⟩
  · rintro i ys s2 h' tk ⟨h₄, tk₄, m, rfl, n₄, e₄, k₄⟩ hk' _
    have off : ∀ b : Addr, (b < s1.heap.objs.size ∨ b = C) → b ∉ D :: [s1.heap.objs.size] := fun b hb hm => arith1 hb nC' nD' hDC' (by simpa using hm)
    exact ⟨h', tk, m, rfl, n₄.at' fun o e => hk' _ o (off _ (.inr rfl)) e, e₄, fun b o e => hk' b o (off _ (.inl (Heap.lt_size e))) (k₄ b o e)⟩
  · rintro i u ys s2 hi2 hu st ⟨h₄, tk₄, m, rfl, n₄, e₄, k₄⟩ hpl
    have hub : ∃ b, bs[i]? = some b ∧ u = Value.bool b := by
      have hu2 : its[i]? = some u := by simpa using hu
      rw [ei, List.getElem?_map] at hu2
      cases hb : bs[i]? with
      | none =>
        rw [hb] at hu2
        cases hu2
      | some b =>
        rw [hb] at hu2
        exact ⟨b, rfl, (Option.some.inj hu2).symm⟩
    obtain ⟨b, hb, rfl⟩ := hub
    refine wpAny_assign_Name (wpAny_storeName_local kv n₄ (fun h₅ n₅ s₅ => ?_) hp)
    refine wpAny_tests_nil ?_
    have offC : ∀ b : Addr, b < s1.heap.objs.size + 1 → b ≠ C := fun b hb => arith2 hb nC'
    have keep : ∀ b o, s1.heap.get? b = some o → h₅.get? b = some o := fun b o e => s₅.extBut b o (offC b (Nat.lt_succ_of_lt (Heap.lt_size e))) (k₄ b o e)
    have kb : ∀ b o, X.base.get? b = some o → h₅.get? b = some o := fun b o e => keep b o (I1.bk b o e)
    obtain ⟨mb, b1, b2⟩ := I1.mod.blt
    refine wpAny_Call_Name_kw (Calls.Name_function_global hkind (hint C) (Calls.loadGlobal_builtin (mg := X.mg) (mb := mb) (v := .type "int") ?_ hm ?_ ((b2 _ (by decide)).trans (by decide +kernel)) ?_))
    · show h₅.Ns X.env.globals X.mg
      rw [I1.ok.glob]
      exact I1.mod.glob.keeps kb
    · show h₅.Ns X.env.builtins mb
      rw [I1.ok.blt]
      exact b1.keeps kb
    refine PyProof.Rows.callWith_type1 ?_ (by rfl) (by rfl)
    show wpAny _ _ (spliced ((false, eval (.Name v p2) (compEnvC scope [] C X.env)) :: backTo p3 (starEach [] (compEnvC scope [] C X.env)))) _ _ _
    refine Calls.spliced_cons ?_
    rw [eval_Name _ _ _ hdv]
    refine wpAny_bind (wpAny_standAt (wpAny_loadName_local hkind kv n₅ (v := .bool b) (if_pos rfl) ?_))
    refine Calls.spliced_nil ?_
    refine call_int_bool ⟨⟨h₅, _, _, rfl, n₅, ?_, keep⟩, ⟨st.1.at fun o e => s₅.extBut _ o (offC _ (Nat.lt_succ_self _)) e, st.2.1.at fun o e => s₅.extBut _ o (offC _ (Nat.lt_succ_of_lt hlt)) e, s₅.extBut _ _ (offC _ (Nat.lt_succ_of_lt hx1)) st.2.2⟩, hpl.at fun o e => s₅.extBut _ o hDC e⟩
    rw [List.take_add_one, hb, List.map_append]
    exact e₄.append (.cons ⟨_, rfl⟩ .nil)
  · rintro ys s2 ⟨h₄, tk₄, m, rfl, n₄, e₄, k₄⟩ hpl
    refine ⟨m, n₄, fun h' hs' => ?_⟩
    have keep : ∀ b o, s1.heap.get? b = some o → h'.get? b = some o := fun b o e => hs'.extBut b o (arith2 (Nat.lt_succ_of_lt (Heap.lt_size e)) nC') (k₄ b o e)
    have hD0 : s1.heap.objs.size ≤ D := Nat.le_trans (Nat.le_succ _) nD'
    have e5 : (bs.take its.toArray.size) = bs := List.take_of_length_le (by rw [ei]; simp)
    rw [e5] at e₄
    obtain ⟨n, hn⟩ := hpl.extBut hs'.extBut hDC
    refine ⟨.ref D, _, I1.laid (t' := tk₄) (o := .lst (bs.map fun b => V.int (if b then 1 else 0))) keep hD0 ⟨?_, ys, n, e₄, hn⟩, rfl, q D (I1.hok.fresh hD0)⟩
    rw [List.length_map] at hz ⊢
    exact hz
end
end Sv

set_option Elab.async false
set_option linter.all false
set_option maxRecDepth 100000
set_option maxHeartbeats 4000000
/-! SvWord: a def that is called in an except suite with the exception itself (_law_word); try: return deed() / except X as e: return word(e), where deed is a lambda of the caller's (_law_told). -/
namespace Sv
open PySem PySem.Spec PyProof.Rows L2 Evl HotX L2H LamX
/-- the body of a def, entered while p's exception is handled -/
theorem hot_body {CT : CXT} {P : Program} {w : World} {K : PySem.W.Frag} {mg : Str → Option Value} {base : Heap} {j : Nat} {g : Addr} {x : Str} {prs : Arguments} {sts : List Stmt} {sco : Scope} {v1 v2 v3 v4 v5 v6 v7 : Value} {a1 a2 : Option Addr}
    {slo : Array (Option Value)} {N ps : List Str} (look : K.lookup g = some ⟨v7, a1, .func (PySem.W.fnOf x x prs sts sco v1 v2 v3 v4 a2 v5 v6), slo⟩) (code : PySem.W.codeIn K v5 x = true) (F : FnScope N ps sco)
    {A : Around} {outer : List Env} {s : Shared} {H : Hp} {args : Args} {us : List Value} {vs : List V} {Q : VK} {E : XK} {p : Addr × Obj} (room : RoomH (j + 1) A) (pin : PinOk outer H s p) (env0 : Env0 P w K mg base A outer s H)
    (bind : BindsTo s (PySem.W.fnOf x x prs sts sco v1 v2 v3 v4 a2 v5 v6) args (ps.zip us)) (rel : Vals vs us) (many : vs.length = ps.length)
    (bd : RoomH j (A.deeper (envOfC x sco s.heap.objs.size g v5)) → ∃ t, PSs (cxH CT P w K mg base N x sco g v5 A outer s H E p) sts t ∧ t (dn Q) (L2.start N vs) H) :
    codeAny (model P w) A (.call (.ref g) args) (CR CT outer P w H s Q E) s := by
  have inK : K.In s.heap := env0.mod.kin.keeps fun b o z => (env0.bs b o z).1
  have noL : s.heap.NoLimit := env0.mod.nolimit.keeps fun b o z => (env0.bs b o z).1
  have kinds : ∀ y ∈ ps.zip us, sco.names.lookup y.1 = some .local ∨ (sco.names.lookup y.1 = some .cell ∧ ((cellsFrom (s.heap.objs.size + 1) sco.names []).lookup y.1).isSome = true) := fun ⟨n, v⟩ hy =>
    (F.par n (List.of_mem_zip hy).1).elim .inl fun q => .inr ⟨q, PySem.W.cellsFrom_some _ _ _ (.inl q)⟩
  refine codeAny_call_function room.depth (inK _ _ look) rfl F.co F.gen rfl (PySem.W.codeRec_of inK code) (bind _ _ _ _ ?_)
  refine wpAny_newFunctionEnv_cells F.kind kinds fun env ee s1 ic => ?_
  subst ee
  refine ⟨noL.keeps ic.toInCall.keep, codeAny_func ?_⟩
  obtain ⟨t, hd, ht⟩ := bd (room.deeper _)
  have J0 : L2.Inv (cxH CT P w K mg base N x sco g v5 A outer s H E p) [] (L2.start N vs) H s1 := inv_startH F pin env0 many rel ic
  refine wpAny_mono (hd.run [] s1 (L2.start N vs) H _ J0 ht) (fun fl s2 q => ?_) fun _ _ q => q
  cases fl with
  | ret u =>
    obtain ⟨v, σ', H', J, rv, z⟩ := q
    exact ⟨v, H', J.os, J.bare, J.base, J.hok, rv, z⟩
  | next =>
    obtain ⟨σ', H', J, z⟩ := q
    exact ⟨.non, H', J.os, J.bare, J.base, J.hok, rfl, z⟩
  | brk =>
    obtain ⟨_, _, _, z⟩ := q
    exact z.elim
  | cont =>
    obtain ⟨_, _, _, z⟩ := q
    exact z.elim
/-- word(e), e the exception that is handled, of the class at C: the text nm where W C nm -/
structure WordOk (P : Program) (w : World) (K : PySem.W.Frag) (mg : Str → Option Value) (base : Heap) (j : Nat) (x a : Str) (W : Addr → Str → Prop) : Prop where
  ex : ∃ (g : Addr) (fd : FuncData), mg x = some (.ref g) ∧ PySem.W.keepIn K (.ref g) = true ∧ Binds K fd [a] [] ∧
    ∀ (A : Around) (outer : List Env) (s : Shared) (H : Hp) (args : Args) (Q : VK) (p : Addr × Obj) (C : Addr) (nm : Str), RoomH j A → Hot1 A p → PinOk outer H s p → Env0 P w K mg base A outer s H → BindsTo s fd args (([a] : List Str).zip [.ref p.1]) →
      Zc (.ref C) none p.2 → W C nm → (∀ H', Ex H H' → Q (.str nm) H') → codeAny (model P w) A (.call (.ref g) args) (CR (CXN P w) outer P w H s Q E0) s
theorem mk_word {P : Program} {w : World} {K : PySem.W.Frag} {mg : Str → Option Value} {base : Heap} {j : Nat} {x a : Str} {st : Stmt} {N : List Str} {W : Addr → Str → Prop} (D : DefAt K mg x st) (F : FnScope N [a] (defScope st))
    (hb : ∀ (kV doc pm : Value) (an : Option Addr) (cdv ct : Value) (us : List Value), us.length = 1 → bindArgs (PySem.W.fnOf x x (defArgs st) (defBody st) (defScope st) .none kV doc pm an cdv ct) ⟨us, []⟩ = pure (([a] : List Str).zip us))
    (t : Addr → Addr → TS) (hp : ∀ (e C : Addr) (nm : Str) (H : Hp) (Q : VK), W C nm → (∀ H', Ex H H' → Q (.str nm) H') → t e C (dn Q) (L2.start N [.ref e]) H)
    (hd : ∀ (g : Addr) (cdv : Value) (A : Around) (outer : List Env) (s : Shared) (H : Hp) (p : Addr × Obj) (C : Addr), (∃ nm, W C nm) → Hot1 A p → RoomH j (A.deeper (envOfC x (defScope st) s.heap.objs.size g cdv)) → Zc (.ref C) none p.2 →
      PSs (cxH (CXN P w) P w K mg base N x (defScope st) g cdv A outer s H E0 p) (defBody st) (t p.1 C)) : WordOk P w K mg base (j + 1) x a W := by
  obtain ⟨g, fd, Fn, hm⟩ := D.ex
  obtain ⟨oc, od, kV, doc, pm, an, cdv, ct, osl, rfl, lk, hcd⟩ := Fn.ex
  refine ⟨g, _, hm, Fn.kp, Fn.binds hb, fun A outer s H args Q p C nm room hot pin env0 bind z hw q => ?_⟩
  exact hot_body lk hcd F (vs := [.ref p.1]) (us := [.ref p.1]) room pin env0 bind (.cons rfl .nil) rfl fun rm => ⟨_, hd g cdv A outer s H p C ⟨nm, hw⟩ hot rm z, hp p.1 C nm H Q hw q⟩
section
variable {X : Cx}
/-- a call of such a def in the suite that holds the exception in slot i -/
def tWord (W : Addr → Str → Prop) (a C : Addr) (i : Nat) : TE := fun σ H Q => σ[i]? = some (some (.ref a)) ∧ ∃ nm, W C nm ∧ ∀ H', Ex H H' → Q (.str nm) H'
theorem pe_word {j k i : Nat} {x b y : Str} {W : Addr → Str → Prop} {C : Addr} {pp : Addr × Obj} {p1 p2 pos : Pos} (F : WordOk X.prog X.w X.K X.mg X.base j x b W) (hot : Hot1 X.A pp) (hpn : pp ∈ X.pn) (hr : RoomH k X.A) (hk : j ≤ k) (hz : Zc (.ref C) none pp.2)
    (hg : Gl X x) (hv : PE X (.Name y p2) (tVar i)) (hdb : (x == ("__debug__" : Str)) = false := by decide) :
    PE X (.Call (.Name x p1) [.Name y p2] [] pos) (tWord W pp.1 C i) := by
  obtain ⟨g, fd, hm, hkp, hb, run⟩ := F.ex
  refine ⟨fun pins s σ H Q I h => ?_⟩
  obtain ⟨hs, nm, hw, q⟩ := h
  refine wpAny_Call_Name_kw (ld_glob I hg hm ?_ hdb)
  refine PySem.W.callWith_K (h₀ := X.base) I.ok.mod.kin hkp ?_ (by rfl) (by rfl)
  have ha : PA X [.Name y p2] (tCons (tVar i) tNil) := pa_cons hv pa_nil
  refine thn (ha.run pos pins s σ H (fun vs H1 => vs = [.ref pp.1] ∧ H1 = H) I ⟨_, hs, rfl, rfl⟩) fun us s1 ⟨vs, H1, I1, r1, e1, e2⟩ => ⟨I1.kIn, ?_⟩
  subst e1
  subst e2
  obtain ⟨u, rfl, r2⟩ := Vals.one r1
  cases r2
  have P1 := I1.pin pp (List.mem_append_left _ hpn)
  have pin : PinOk X.stack H1 s1 pp := ⟨P1.1, P1.2.1, fun hm => (List.mem_cons.mp (I1.stkSub pp.1 hm)).elim P1.2.2.1 P1.2.2.2.1, P1.2.2.2.2⟩
  refine wpAny_call (codeAny_mono (run X.A X.stack s1 H1 ⟨[.ref pp.1], []⟩ Q pp C nm (hr.mono hk) hot pin I1.env0 (hb s1 [.ref pp.1] I1.kIn rfl) hz hw q) fun r s2 z => ?_)
  cases r with
  | error e => exact psn pins σ H1 s1 e s2 I1 z
  | ok fl =>
    cases fl with
    | ret u => exact I1.after z
    | next => exact False.elim z
    | brk => exact False.elim z
    | cont => exact False.elim z
end
end Sv

set_option Elab.async false
set_option linter.all false
set_option maxRecDepth 100000
set_option maxHeartbeats 4000000
/-! SvTold: told(lambda: body), where told is: try: return deed() / except S as e: return word(e). -/
namespace Sv
open PySem PySem.Spec PyProof.Rows L2 Evl HotX L2H LamX
/-- the context of the lambda's body, what it raises told with its context -/
abbrev lamN (X : Cx) (A : Around) (outer : List Env) (s : Shared) (H : Hp) (E : XK) (scope : Scope) (f c' : Addr) : Cx :=
  (lamCx X A outer s H E scope f c').wish fun e s' => wpAny (model X.prog X.w) (A.deeper (lamEnv X scope s.heap.objs.size f c')) (leaving (lamEnv X scope s.heap.objs.size f c') e) (fun _ s2 => L2N.CX X.prog X.w outer H s E e s2) (fun e' s2 => L2N.CX X.prog X.w outer H s E e' s2) s'
theorem takesN0 {X : Cx} : L2N.Takes X (fun _ _ _ _ => False) := fun _ _ x => by
  obtain ⟨_, _, _, _, _, _, _, _, _, _, _, _, _, _, _, _, z⟩ := x
  exact z.elim
section
variable {X : Cx} {pins : List (Addr × Obj)} {σ : L2.St} {H : Hp} {s : Shared}
/-- deed(), in the body of told -/
theorem actN {E0' : XK} {Nz : List Str} {qz : Str} {sz : Scope} {z f c' : Addr} {cdz pm ctv : Value} {prs : Arguments} {body : Expr} {scope : Scope} {j i : Nat} {a : Str} {pn : List (Addr × Obj)} {xe : Value → Shared → Prop} {W : WX} {E : XK} {tb : TE} {p1 p2 : Pos}
    (I : L2.Inv X pins σ H s) (L : LamS X.env.scope scope) (obj : s.heap.get? f = some (PySem.W.kla_obj "<lambda>" (X.env.qual ++ "<lambda>") prs body scope (cloFrom X.env.cells scope.names []) pm c' ctv)) (fNo : H f = none) (fFr : f ∉ frs X.stack)
    (bnd : bindArgs (PySem.W.kla_fn "<lambda>" (X.env.qual ++ "<lambda>") prs body scope (cloFrom X.env.cells scope.names []) pm (.ref c') ctv) ⟨[], []⟩ = pure [])
    (tk : L2N.Takes ((cxOf (CXN X.prog X.w) X.prog X.w X.K X.mg X.base Nz qz sz z cdz X.A X.stack s H E0').tr pn xe) W) (room : Room (j + 1) (X.A.deeper (envOfC qz sz s.heap.objs.size z cdz)))
    (bd : ∀ (A : Around) (outer : List Env) (s : Shared) (H : Hp), Room j (A.deeper (lamEnv X scope s.heap.objs.size f c')) → PE (lamN X A outer s H E scope f c') body tb)
    (hN : Nz[i]? = some a) (hv : Vis sz a) (hd : (a == ("__debug__" : Str)) = false := by decide) (hcd : (a == ("__classdict__" : Str)) = false := by decide) :
    PE ((cxOf (CXN X.prog X.w) X.prog X.w X.K X.mg X.base Nz qz sz z cdz X.A X.stack s H E0').tr pn xe) (.Call (.Name a p1) [] [] p2)
      (fun σZ HZ Q => σZ[i]? = some (some (.ref f)) ∧ HZ c' = some (CodeO c' (X.env.qual ++ "<lambda>")) ∧ (∀ cls d H', E cls d H' → W cls d σZ H') ∧ tb σ HZ Q) := by
  refine ⟨fun pz sZ σZ HZ Q IZ h => ?_⟩
  obtain ⟨slot, codeH, hW, ht⟩ := h
  refine wpAny_Call_Name_kw (thn ((pe_var (pos := p1) (i := i) hN hv hd hcd).run pz sZ σZ HZ (fun v H1 => v = .ref f ∧ H1 = HZ) IZ ⟨.ref f, slot, rfl, rfl⟩) fun u s1 ⟨v, H1, I1, r1, e1, e2⟩ => ?_)
  subst e1
  subst e2
  cases r1
  have obj1 : s1.heap.get? f = some (PySem.W.kla_obj "<lambda>" (X.env.qual ++ "<lambda>") prs body scope (cloFrom X.env.cells scope.names []) pm c' ctv) := I1.base.keep f _ obj fNo fFr (fun q => nomatch (show f ∈ ([] : List Addr) from q))
  refine PySem.W.callWith_F0 ⟨_, _, _, _, obj1⟩ ?_
  have un : Un (frs X.stack) [] H H1 s.heap s1.heap := I1.base
  obtain ⟨⟨oc, vs, t, hoc, hdc, hvc⟩, _, _⟩ := I1.hok c' _ codeH
  have rc : codeAny (model X.prog X.w) (X.A.deeper (envOfC qz sz s.heap.objs.size z cdz)) (.call (.ref f) ⟨[], []⟩) (CR (CXN X.prog X.w) (envOfC qz sz s.heap.objs.size z cdz :: X.stack) X.prog X.w H1 s1 Q E) s1 := by
    refine PySem.W.kla_callFunE room.depth obj1 rfl L.co L.gen rfl ⟨c', oc, vs, t, rfl, hoc, hdc, hvc⟩ ?_
    rw [bnd]
    refine wpAny_pure (wpAny_newFunctionEnv (fun y hy => (L.own y hy).2) (fun y hy => absurd hy (by simp)) (fun h₁ names grown => ⟨I1.nolimit.fresh _ grown, ?_⟩) L.kind)
    have kp : ∀ b o, s1.heap.get? b = some o → h₁.get? b = some o := fun b o e => grown.extBut b o (Nat.ne_of_lt (Heap.lt_size e)) (Heap.get?_push_of_some _ e)
    have J := (lam_start2 (E := E) (c' := c') (f := f) (tk := s1.toks + ([] : List (Str × Value)).length) I L I1.env0 room.hd un names kp).wish (lamN X (X.A.deeper (envOfC qz sz s.heap.objs.size z cdz)) (envOfC qz sz s.heap.objs.size z cdz :: X.stack) s1 H1 E scope f c').xe
    refine PySem.W.kla_codeExpr (wpAny_mono ((bd _ _ s1 H1 (room.deeper _)).run [] _ _ H1 Q J ht) (fun v s' q => ?_) fun e s' q => q)
    obtain ⟨w', H', J', rv, q⟩ := q
    exact ⟨w', H', J'.os, J'.bare, J'.base, J'.hok, rv, q⟩
  refine wpAny_call (codeAny_mono rc fun r s' q => ?_)
  cases r with
  | error e => exact tk e s' (L2N.XE.of_call I1 hW q)
  | ok fl =>
    cases fl with
    | ret u => exact I1.after q
    | next => exact False.elim q
    | brk => exact False.elim q
    | cont => exact False.elim q
end
/-- try: return deed() / except S as e: return word(e) -/
abbrev toldB (p1 p2 p3 p4 p5 p6 p7 p8 p9 p10 : Pos) : List Stmt :=
  [.Try [.Return (some (.Call (.Name "_law_deed" p1) [] [] p2)) p3] [.ExceptHandler (some (.Name "SieveError" p4)) (some "_law_e") [.Return (some (.Call (.Name "_law_word" p5) [.Name "_law_e" p6] [] p7)) p8] p9] [] [] p10]
/-- what the text's told is -/
structure ToldAt (P : Program) (w : World) (K : PySem.W.Frag) (mg : Str → Option Value) (base : Heap) (S : Addr) (j : Nat) (W : Addr → Str → Prop) (st : Stmt) : Prop where
  dat : DefAt K mg "_law_told" st
  sco : FnScope ["_law_deed", "_law_e"] ["_law_deed"] (defScope st)
  loc : (defScope st).names.lookup ("_law_e" : Str) = some .local
  loc0 : (defScope st).names.lookup ("_law_deed" : Str) = some .local
  gS : (defScope st).names.lookup ("SieveError" : Str) = some .globalImplicit
  gW : (defScope st).names.lookup ("_law_word" : Str) = some .globalImplicit
  bdy : ∃ p1 p2 p3 p4 p5 p6 p7 p8 p9 p10, defBody st = toldB p1 p2 p3 p4 p5 p6 p7 p8 p9 p10
  bnd : ∀ (kV doc pm : Value) (an : Option Addr) (cdv ct : Value) (us : List Value), us.length = 1 → bindArgs (PySem.W.fnOf "_law_told" "_law_told" (defArgs st) (defBody st) (defScope st) .none kV doc pm an cdv ct) ⟨us, []⟩ = pure ((["_law_deed"] : List Str).zip us)
  wrd : WordOk P w K mg base j "_law_word" "_law_e" W
  mS : mg "SieveError" = some (.ref S)
  exm : ∀ C nm, W C nm → PySem.W.exmOne K (.ref C) (.ref S) = some true
/-- what is wanted of an exception of the deed -/
def ET (W : Addr → Str → Prop) (Q : VK) : XK := fun cls d H => ∃ (C : Addr) (nm : Str), cls = .ref C ∧ d = none ∧ W C nm ∧ ∀ H', Ex H H' → Q (.str nm) H'
/-- told(lambda: body) -/
def tTold (T : List (Addr × Str)) (W : Addr → Str → Prop) (t : XK → TE) : TE := fun σ H Q => Tabs T H ∧ ∀ H1, ExtN H H1 → Tabs T H1 → t (ET W Q) σ H1 Q
section
variable {X : Cx}
theorem pe_told {T : List (Addr × Str)} {S : Addr} {j k : Nat} {W : Addr → Str → Prop} {st : Stmt} {c Pt : Addr} {prs : Arguments} {body : Expr} {scope : Scope} {t : XK → TE} {p lpos pos : Pos} (TD : ToldAt X.prog X.w X.K X.mg X.base S j W st) (hg : Gl X "_law_told")
    (TB : TabB X.base X.mg c Pt) (hcode : X.env.code = .ref c) (hmT : (Pt, X.env.qual ++ "<lambda>") ∈ T) (hu : ∀ p ∈ T, p.1 = Pt → p.2 = X.env.qual ++ "<lambda>") (hr : Room (k + 2) X.A) (hjk : j ≤ k + 1) (L : LamS X.env.scope scope) (hdef : defaultsOf prs X.env = ([], []))
    (hbind : ∀ (q : Str) (cl : List (Str × Addr)) (pm cv ctv : Value), bindArgs (PySem.W.kla_fn "<lambda>" q prs body scope cl pm cv ctv) ⟨[], []⟩ = pure [])
    (bd : ∀ (A : Around) (outer : List Env) (s : Shared) (H : Hp) (E : XK) (f c' : Addr), Room k (A.deeper (lamEnv X scope s.heap.objs.size f c')) → PE (lamN X A outer s H E scope f c') body (t E)) :
    PE X (.Call (.Name "_law_told" p) [.Lambda prs body scope lpos] [] pos) (tTold T W t) := by
  obtain ⟨g, fd, Fn, hm⟩ := TD.dat.ex
  obtain ⟨oc, od, kV, doc, pm0, an, cdv, ct, osl, rfl, lk, hcd⟩ := Fn.ex
  obtain ⟨q1, q2, q3, q4, q5, q6, q7, q8, q9, q10, eb⟩ := TD.bdy
  refine ⟨fun pins s σ H Q I h => ?_⟩
  obtain ⟨hT, h⟩ := h
  refine wpAny_Call_Name_kw (ld_glob I hg hm ?_)
  refine PySem.W.callWith_K (h₀ := X.base) I.ok.mod.kin Fn.kp ?_ (by rfl) (by rfl)
  show wpAny _ _ (spliced ((false, eval (.Lambda prs body scope lpos) X.env) :: backTo pos (starEach [] X.env))) _ _ s
  refine Calls.spliced_cons (lam_make2 I TB hcode hmT hu hT hdef (L.has I.ok) fun f c' pm' ctv H1 s' I1 eN T1 obj fNo fFr hco => ?_)
  refine Calls.spliced_nil ⟨I1.kIn, ?_⟩
  have rc : codeAny (model X.prog X.w) X.A (.call (.ref g) ⟨[.ref f], []⟩) (CR (CXN X.prog X.w) X.stack X.prog X.w H1 s' Q E0) s' := by
    refine run_ofS (CX := CXN X.prog X.w) (N := ["_law_deed", "_law_e"]) (ps := ["_law_deed"]) (us := [.ref f]) (vs := [.ref f]) lk hcd TD.sco hr I1.env0 ((Fn.binds (ps := ["_law_deed"]) TD.bnd) s' [.ref f] I1.kIn rfl) (.cons rfl .nil) rfl fun hr' => ?_
    rw [eb]
    have hd : (cxOf (CXN X.prog X.w) X.prog X.w X.K X.mg X.base ["_law_deed", "_law_e"] "_law_told" (defScope st) g cdv X.A X.stack s' H1 E0).A = X.A.deeper (envOfC "_law_told" (defScope st) s'.heap.objs.size g cdv) := rfl
    have nm : Names (cxOf (CXN X.prog X.w) X.prog X.w X.K X.mg X.base ["_law_deed", "_law_e"] "_law_told" (defScope st) g cdv X.A X.stack s' H1 E0) "SieveError" (.ref S) := ⟨TD.gS, by decide, .inl TD.mS⟩
    refine ⟨_, pss_one (L2N.ps_try_as (X := cxOf (CXN X.prog X.w) X.prog X.w X.K X.mg X.base ["_law_deed", "_law_e"] "_law_told" (defScope st) g cdv X.A X.stack s' H1 E0) (i := 1) (Wout := fun _ _ _ _ => False)
      (tb := fun W' D σ' H' => ∃ Ech : XK, (∀ cls d H2, Ech cls d H2 → W' cls d σ' H2) ∧ σ'[0]? = some (some (.ref f)) ∧ H' c' = some (CodeO c' (X.env.qual ++ "<lambda>")) ∧ t Ech σ H' D.rt)
      (ts := fun a cls d D σ' H' => ∃ (C : Addr) (nm : Str), cls = .ref C ∧ d = none ∧ W C nm ∧ σ'[1]? = some (some (.ref a)) ∧ ∀ H2, Ex H' H2 → D.rt (.str nm) H2)
      rfl rfl TD.sco.nd rfl TD.loc nm takesN0 (fun W' pn xe tk _ => ?_) (fun a oe cls d pn hz hf => ?_)), ?_⟩
    · refine ⟨fun pz s2 σ' H' D I2 h' => ?_⟩
      obtain ⟨Ech, hW, h1, h2, h3⟩ := h'
      have hp := actN (i := 0) (E := Ech) (p1 := q1) (p2 := q2) I1 L obj fNo fFr (hbind _ _ _ _ _) tk hr' (fun A outer s H hr2 => bd A outer s H Ech f c' hr2) rfl (Or.inl TD.loc0)
      exact (pss_one (ps_ret (pos := q3) hp)).run pz s2 σ' H' D I2 ⟨h1, h2, hW, h3⟩
    · refine ⟨fun pz s2 σ' H' D I2 h' => ?_⟩
      obtain ⟨C, nm, rfl, rfl, hw, h1, h2⟩ := h'
      obtain ⟨vs, hvs⟩ := hf
      have hot : Hot1 (Cx.suite (cxOf (CXN X.prog X.w) X.prog X.w X.K X.mg X.base ["_law_deed", "_law_e"] "_law_told" (defScope st) g cdv X.A X.stack s' H1 E0) a ((a, oe) :: pn)).A (a, oe) := ⟨rfl, vs, hvs, hz.2.2 vs hvs⟩
      have hrm : RoomH (k + 1) (Cx.suite (cxOf (CXN X.prog X.w) X.prog X.w X.K X.mg X.base ["_law_deed", "_law_e"] "_law_told" (defScope st) g cdv X.A X.stack s' H1 E0) a ((a, oe) :: pn)).A := ⟨hr'.dp, hr'.un⟩
      have hpe := pe_word (X := Cx.suite (cxOf (CXN X.prog X.w) X.prog X.w X.K X.mg X.base ["_law_deed", "_law_e"] "_law_told" (defScope st) g cdv X.A X.stack s' H1 E0) a ((a, oe) :: pn)) (i := 1) (p1 := q5) (p2 := q6) (pos := q7) (C := C) TD.wrd hot List.mem_cons_self hrm hjk ⟨hz.1, hz.2.1⟩ TD.gW (pv 1 rfl (Or.inl TD.loc))
      exact (pss_one (ps_ret (pos := q8) hpe)).run pz s2 σ' H' D I2 ⟨h1, nm, hw, h2⟩
    · refine ⟨ET W Q, fun cls d H2 ⟨C, nm, e1, e2, hw, q⟩ => ⟨true, ?_, fun _ a _ => ⟨C, nm, e1, e2, hw, rfl, q⟩, fun z => (by cases z)⟩, rfl, hco, h H1 eN T1⟩
      rw [e1]
      exact TD.exm C nm hw
  refine wpAny_call (codeAny_mono rc fun r s2 q => ?_)
  cases r with
  | error e => exact psn pins σ H1 s' e s2 I1 q
  | ok fl =>
    cases fl with
    | ret u => exact I1.after q
    | next => exact False.elim q
    | brk => exact False.elim q
    | cont => exact False.elim q
end
end Sv
namespace Sv
open PySem PySem.Spec PyProof.Rows L2 Evl LamX
/-! ### defs that make lambdas: their code object is told -/
structure FunC (K : PySem.W.Frag) (x qual : Str) (st : Stmt) (f : Addr) (fd : FuncData) (c : Addr) : Prop where
  ex : ∃ (oc : Value) (od : Option Addr) (kV doc pm : Value) (an : Option Addr) (ct : Value) (osl : Array (Option Value)),
    fd = PySem.W.fnOf x qual (defArgs st) (defBody st) (defScope st) .none kV doc pm an (.ref c) ct ∧ K.lookup f = some ⟨oc, od, .func fd, osl⟩ ∧ PySem.W.codeIn K (.ref c) qual = true
  kp : PySem.W.keepIn K (.ref f) = true
structure DefAtC (K : PySem.W.Frag) (mg : Str → Option Value) (x : Str) (st : Stmt) (c : Addr) : Prop where
  ex : ∃ (f : Addr) (fd : FuncData), FunC K x x st f fd c ∧ mg x = some (.ref f)
section
variable {P : Program} {w : World} {K : PySem.W.Frag} {mg : Str → Option Value} {base : Heap} {CT : CXT} {x : Str} {st : Stmt} {N ps : List Str} {k : Nat} {sp : Sp} {c : Addr}
theorem funC_mk {f : Addr} {od an : Option Addr} {sl : Array (Option Value)} {oc kV dc pm ct : Value} (l : K.lookup f = some ⟨oc, od, .func (PySem.W.fnOf x x (defArgs st) (defBody st) (defScope st) .none kV dc pm an (.ref c) ct), sl⟩)
    (cd : PySem.W.codeIn K (.ref c) x = true) (kp : PySem.W.keepIn K (.ref f) = true) : FunC K x x st f (PySem.W.fnOf x x (defArgs st) (defBody st) (defScope st) .none kV dc pm an (.ref c) ct) c := ⟨⟨_, _, _, _, _, _, _, _, rfl, l, cd⟩, kp⟩
theorem mk_fnC {f : Addr} {fd : FuncData} (F : FunC K x x st f fd c) (S : FnScope N ps (defScope st)) (len : ∀ vs H Q E, sp vs H Q E → vs.length = ps.length) (t : XK → TS) (hp : ∀ vs H Q E, sp vs H Q E → t E (dn Q) (start N vs) H)
    (hd : ∀ (A : Around) (outer : List Env) (s : Shared) (H : Hp) (E : XK), Room k (A.deeper (envOfC x (defScope st) s.heap.objs.size f (.ref c))) → PSs (cxOf CT P w K mg base N x (defScope st) f (.ref c) A outer s H E) (defBody st) (t E)) :
    FnOk P w K mg base CT (k + 1) f fd ps sp := by
  obtain ⟨oc, od, kV, doc, pm, an, ct, osl, rfl, lk, hcd⟩ := F.ex
  exact fn_of lk hcd S len fun A outer s H vs Q E hr hsp => ⟨t E, hd A outer s H E hr, hp vs H Q E hsp⟩
theorem mk_okC (D : DefAtC K mg x st c) (S : FnScope N ps (defScope st))
    (hb : ∀ (kV doc pm : Value) (an : Option Addr) (cdv ct : Value) (us : List Value), us.length = ps.length → bindArgs (PySem.W.fnOf x x (defArgs st) (defBody st) (defScope st) .none kV doc pm an cdv ct) ⟨us, []⟩ = pure (ps.zip us))
    (len : ∀ vs H Q E, sp vs H Q E → vs.length = ps.length) (t : XK → TS) (hp : ∀ vs H Q E, sp vs H Q E → t E (dn Q) (start N vs) H)
    (hd : ∀ (f : Addr) (A : Around) (outer : List Env) (s : Shared) (H : Hp) (E : XK), Room k (A.deeper (envOfC x (defScope st) s.heap.objs.size f (.ref c))) → PSs (cxOf CT P w K mg base N x (defScope st) f (.ref c) A outer s H E) (defBody st) (t E)) :
    Ok P w K mg base CT (k + 1) x ps sp := by
  obtain ⟨f, fd, F, hm⟩ := D.ex
  obtain ⟨oc, od, kV, doc, pm, an, ct, osl, rfl, lk, hcd⟩ := F.ex
  exact ⟨f, _, fn_of lk hcd S len fun A outer s H vs Q E hr hsp => ⟨t E, hd f A outer s H E hr, hp vs H Q E hsp⟩, hm, F.kp, .all (hb kV doc pm an (.ref c) ct)⟩
end
/-- the table of code objects of the def nm is empty at h -/
def TabOf (K : PySem.W.Frag) (mg : Str → Option Value) (h : Heap) (nm : Str) : Prop := ∀ (g c Pt : Addr) (o : Obj) (fd : FuncData) (e : Value) (dd : Option Addr) (vs : Array Value) (sl : Array (Option Value)),
  mg nm = some (.ref g) → K.lookup g = some o → o.data = .func fd → fd.code = .ref c → K.lookup c = some ⟨e, dd, .fields vs, sl⟩ → vs[11]? = some (.ref Pt) → h.get? Pt = some { cls := .none, data := .fields #[] }
/-- what the law gets: the script, its tables -/
def LawR (G : Pm) (T : List (Addr × Str)) : R1 := fun v H Q _ => ∃ (a : Addr) (ns : List Int), v = .ref a ∧ SqL G.K H a (ns.map V.int) ∧ ns.length ≤ 63 ∧ (∀ z ∈ ns, Builtin.Int.intBits z ≤ 1048576) ∧ Tabs T H ∧ ∀ H', Q (.bl true) H'
theorem walk_told {l : PySem.W.OpenLaw} {k : Nat} {q : Program} {loose : List Str} {XP : (Str → Option Value) → Heap → Prop} {YP : World → Heap → Prop} {d : DefRec} {K : Params → PySem.W.Frag} {x : Str}
    (hn : l.most = some 63) (hdf : d.params.defaults = []) (hr : Room k callerA) (hY : ∀ (w : World) (h : Heap), YP w h → (K w.params).In h)
    (F : ∀ (w : World) (mg : Str → Option Value) (fa : Addr) (h : Heap), (K w.params).In h → h.Ns mainGlobals mg → mg d.name = some (.ref fa) → (∀ nm, ((recsOf q).any fun e => e.name == nm) = true → TabOf (K w.params) mg h nm) →
      ∃ (G : Pm) (fd : FuncData) (cs : List (Addr × Addr × Str)), G.K = K w.params ∧ (∀ p ∈ cs, h.get? p.2.1 = some { cls := .none, data := .fields #[] }) ∧ (∀ p ∈ cs, G.K.lookup p.2.1 = none) ∧ (∀ p ∈ cs, PySem.W.CodeHd h p.1 p.2.1) ∧
        (∀ (s : Shared) (u : Value), BindsTo s fd ⟨[u], []⟩ [(x, u)]) ∧
        ∀ base : Heap, G.K.In base → base.Ns mainGlobals mg → (∀ p ∈ cs, TabB base mg p.1 p.2.1) → FnOk l.prog w G.K mg base (CXN l.prog w) k fa fd [x] (sp1 (LawR G (cs.map fun p => p.2)))) :
    PySem.W.WalkO q loose XP YP l.row.toRowW d [] (fun f vs => PySem.call f vs) := by
  refine Att.attach_callB hn hdf fun w s₀ s₁ mg mb fa o pm cd doc a vs ns B Y ho hd hcd hmg hobj hints hlen hbits hg => ?_
  have KX := hY w _ Y
  have tabs : ∀ nm, ((recsOf q).any fun e => e.name == nm) = true → TabOf (K w.params) mg s₁.heap nm := fun nm hr g c Pt o1 fd1 e dd ws sl k0 k1 k2 k3 k4 k5 => by
    obtain ⟨dL, hm, hn1⟩ := List.any_eq_true.mp hr
    have hn2 : dL.name = nm := beq_iff_eq.mp hn1
    obtain ⟨a', o', fd', c', P', h1, h2, h3, h4, h5, h6⟩ := B.T.tab dL hm
    rw [hn2, k0] at h1
    cases h1
    rw [KX _ _ k1] at h2
    cases h2
    rw [k2] at h3
    cases h3
    rw [k3] at h4
    cases h4
    obtain ⟨⟨oc, vc, e1, _, e3, e4⟩, hP⟩ := h6
    rw [KX _ _ k4] at e1
    cases e1
    cases e3
    rw [k5] at e4
    cases e4
    exact hP
  obtain ⟨G, fd, cs, eG, hT, nT, C, hb, hF⟩ := F w mg fa _ KX B.T.g hmg tabs
  have mem : ∀ p ∈ cs.map (fun p => (p.1, p.2.1)), ∃ r ∈ cs, p = (r.1, r.2.1) := fun p hp => by
    obtain ⟨r, hr, e⟩ := List.mem_map.mp hp
    exact ⟨r, hr, e.symm⟩
  refine law_callTs (K := G.K) (cs := cs.map fun p => (p.1, p.2.1)) (by rw [eG]; exact KX) B.T.g B.T.b B.T.builtins B.T.nolimit hg ?_ ?_ ?_ B.T.bmain hobj hints (Nat.le_trans hlen (by decide)) hr (fun base h1 h2 h3 => hF base h1 h2 fun p hp => h3 _ (List.mem_map.mpr ⟨p, hp, rfl⟩)) hb (fun H hH hS => ⟨a, ns, rfl, hS, hlen, hbits, fun p hp => ?_, fun _ => rfl⟩) ?_
  · intro p hp
    obtain ⟨r, hr, rfl⟩ := mem p hp
    exact hT r hr
  · intro p hp
    obtain ⟨r, hr, rfl⟩ := mem p hp
    exact nT r hr
  · intro p hp
    obtain ⟨r, hr, rfl⟩ := mem p hp
    exact C r hr
  · obtain ⟨r, hr, rfl⟩ := List.mem_map.mp hp
    exact TabS.nil (hH (r.1, r.2.1) (List.mem_map.mpr ⟨r, hr, rfl⟩))
  · intro H e s' z
    obtain ⟨_, _, _, _, _, _, _, _, _, _, _, _, y⟩ := z
    exact y
end Sv

set_option Elab.async false
set_option linter.all false
set_option maxRecDepth 100000
set_option maxHeartbeats 4000000
/-! SvErr: the program's own errors, looked at as a whole: one equation that the kernel decides. -/
namespace Sv
open PySem PySem.Spec PyProof.Rows L2 Evl LamX
def errOk (K : PySem.W.Frag) (S c : Addr) : Bool :=
  PySem.W.excIn K c [.type "ValueError", .type "Exception", .type "BaseException", .type "object"] "ValueError.__new__" && (PySem.W.keepIn K (.ref c) && (decide (PySem.W.subIn K (.ref c) (.type "BaseException") = some true) && (decide (PySem.W.typeIn K (.ref c) = some (.type "type")) &&
  (decide (PySem.W.findIn K (.ref c) "__getattribute__" = some (some (.builtin "BaseException.__getattribute__"))) && (decide (PySem.W.findIn K (.ref c) "__getattr__" = some none) && (PySem.W.hasDictIn K c && (decide (PySem.W.findIn K (.ref c) "__class__" = some (some (.builtin "object.__class__"))) &&
  (decide (PySem.W.specialIn K (.builtin "object.__class__") "__get__" = some (some (.builtin "getset_descriptor.__get__"))) && (decide (PySem.W.takesIn K (.builtin "object.__class__") = some true) && (decide (PySem.W.mroIn K c (.type "object") = some true) &&
  (decide (PySem.W.kitOne K (.ref c) (.type "ValueError") = some true) && decide (PySem.W.exmOne K (.ref c) (.ref S) = some true))))))))))))
def errsB (K : PySem.W.Frag) (S : Addr) (cs : List Addr) : Bool := cs.all (errOk K S) && ((cs.all fun c => cs.all fun d => decide (PySem.W.kitOne K (.ref c) (.ref d) = some (decide (c = d)))) && decide cs.Nodup)
structure ErrX (K : PySem.W.Frag) (S c : Addr) : Prop where
  xC : PySem.W.excIn K c [.type "ValueError", .type "Exception", .type "BaseException", .type "object"] "ValueError.__new__" = true
  kC : PySem.W.keepIn K (.ref c) = true
  bC : PySem.W.subIn K (.ref c) (.type "BaseException") = some true
  tC : PySem.W.typeIn K (.ref c) = some (.type "type")
  ex : ExcC K c
  ve : PySem.W.kitOne K (.ref c) (.type "ValueError") = some true
  ma : PySem.W.exmOne K (.ref c) (.ref S) = some true
theorem errX_of {K : PySem.W.Frag} {S c : Addr} (h : errOk K S c = true) : ErrX K S c := by
  unfold errOk at h
  simp only [Bool.and_eq_true, decide_eq_true_eq] at h
  obtain ⟨h1, h2, h3, h4, h5, h6, h7, h8, h9, h10, h11, h12, h13⟩ := h
  exact ⟨h1, h2, h3, h4, ⟨h5, h6, h3, h7, h8, h9, h10, h11⟩, h12, h13⟩
structure ErrsOk (K : PySem.W.Frag) (S : Addr) (cs : List Addr) : Prop where
  one : ∀ c ∈ cs, ErrX K S c
  two : ∀ c ∈ cs, ∀ d ∈ cs, PySem.W.kitOne K (.ref c) (.ref d) = some (decide (c = d))
  nd : cs.Nodup
theorem errsOk_of {K : PySem.W.Frag} {S : Addr} {cs : List Addr} (h : errsB K S cs = true) : ErrsOk K S cs := by
  unfold errsB at h
  simp only [Bool.and_eq_true, List.all_eq_true, decide_eq_true_eq] at h
  exact ⟨fun c hc => errX_of (h.1 c hc), h.2.1, h.2.2⟩
theorem ErrX.at {K : PySem.W.Frag} {S c : Addr} {mg : Str → Option Value} {x : Str} (h : ErrX K S c) (g : mg x = some (.ref c)) : ErrAt K mg x c := ⟨g, h.xC, h.kC, h.bC, h.tC⟩
section
variable {K : PySem.W.Frag} {σ : L2.St} {H : Hp} {ta tb : TE} {C D e l : Addr} {b : Bool} {xs ys : List V}
theorem ev_isE {i : Nat} (h : σ[i]? = some (some (.ref e))) (k : PySem.W.kitOne K (.ref C) (.ref D) = some b) : Ev (tCB (rIsE K C e) (tCons (tVar i) (tCons (tC (.ref D)) tNil))) σ H (.bl b) :=
  ev_cb (ea_cons (ev_var h) (ea_cons ev_c ea_nil)) fun H1 _ Q q => ⟨.ref D, .ref D, b, rfl, fun u r => r, k, q H1 (Ex.refl H1)⟩
theorem ev_isET {i : Nat} {n : String} (h : σ[i]? = some (some (.ref e))) (k : PySem.W.kitOne K (.ref C) (.type n) = some b) : Ev (tCB (rIsE K C e) (tCons (tVar i) (tCons (tC (.ty n)) tNil))) σ H (.bl b) :=
  ev_cb (ea_cons (ev_var h) (ea_cons ev_c ea_nil)) fun H1 _ Q q => ⟨.ty n, .type n, b, rfl, fun u r => r, k, q H1 (Ex.refl H1)⟩
/-- xs + ys, a list that is tracked and a new one -/
theorem el_cat (ha : Ev ta σ H (.ref l)) (hl : H l = some (.lst xs)) (hb : EvL tb σ H ys) (hz : xs.length + ys.length ≤ 100000) : EvL (tOp rCat ta tb) σ H (xs ++ ys) :=
  fun H1 ex Q q => ha H1 ex _ fun H2 e2 => hb H2 (ex.trans e2) _ fun p H3 _ e3 h3 => ⟨l, p, xs, ys, rfl, rfl, (ex.trans (e2.trans e3)) l _ hl, h3, sz_of hz, fun r hr => q r _ (fresh_back (e2.trans e3) hr) ((e2.trans e3).trans (Ex.new hr)) upd_same⟩
theorem el_intsH {bs : List Bool} (ha : Ev ta σ H (.ref l)) (hl : SqL K H l (bs.map V.bl)) : EvL (tIntsH K ta) σ H (bs.map fun b => V.int (if b then 1 else 0)) :=
  fun H1 ex Q q => ha H1 ex _ fun H2 e2 => ⟨l, bs, rfl, ex_l (ex.trans e2) hl, fun D hD => q D _ (fresh_back e2 hD) (e2.trans (Ex.new hD)) upd_same⟩
theorem ev_sumB {bs : List Bool} (ha : EvL ta σ H (bs.map fun b => V.int (if b then 1 else 0))) : Ev (tCB (rSum K) (tCons ta tNil)) σ H (.int ((bs.map fun b => (if b then 1 else 0 : Int)).sum)) :=
  ev_sumN (ns := bs.map fun b => (if b then 1 else 0 : Int)) (el_eq ha (by rw [List.map_map]; rfl))
/-- flags.index(True) -/
theorem ev_idx {bs : List Bool} {j : Nat} (ha : Ev ta σ H (.ref l)) (hl : SqL K H l (bs.map V.bl)) (h1 : bs[j]? = some true) (h2 : ∀ m, m < j → bs[m]? = some false) : Ev (tBM K "list" (rIndex K) ta (tCons (tC (.bl true)) tNil)) σ H (.int (j : Int)) :=
  fun H1 ex Q q => ha H1 ex _ fun H2 e2 => ⟨.inl ⟨rfl, _, ex_l (ex.trans e2) hl⟩, l, bs.map V.bl, .bl true, j, .bl true, rfl, rfl, ex_l (ex.trans e2) hl, rfl, by rw [List.all_map]; exact List.all_eq_true.mpr fun _ _ => rfl, by rw [List.getElem?_map, h1]; rfl, rfl, fun m z' hm hz => by
    rw [List.getElem?_map, h2 m hm] at hz
    rw [← Option.some.inj hz]
    rfl, q H2 e2⟩
end
end Sv

set_option Elab.async false
set_option linter.all false
set_option maxRecDepth 100000
set_option maxHeartbeats 4000000
/-! SvNx: what is known goes on past what is told (NX); lists repeated, put end to end; calls that hand lists back. -/
namespace Sv
open PySem PySem.Spec PyProof.Rows L2 Evl HotX L2H LamX
section
variable {K : PySem.W.Frag} {σ : L2.St} {H H' H1 H2 : Hp} {ta tb te tc : TE} {x y z v : V} {a p : Addr} {xs ys : List V} {T : List (Addr × Str)} {D : Ends} {tz : TS} {W : Addr → Str → Prop} {t : XK → TE} {Q : VK}
abbrev rIsBl : R2 := fun x y H Q => ∃ a b, x = .bl a ∧ y = .bl b ∧ Q (.bl (decide (a = b))) H
abbrev rNotBl : R2 := fun x y H Q => ∃ a b, x = .bl a ∧ y = .bl b ∧ Q (.bl (!decide (a = b))) H
theorem rv_isB {i j : Bool} : RV rIsBl (.bl i) (.bl j) H (.bl (decide (i = j))) := fun H1 _ Q q => ⟨i, j, rfl, rfl, q H1 (Ex.refl H1)⟩
theorem rv_notB {i j : Bool} : RV rNotBl (.bl i) (.bl j) H (.bl (!decide (i = j))) := fun H1 _ Q q => ⟨i, j, rfl, rfl, q H1 (Ex.refl H1)⟩
/-- all but the tables of code objects stays, and these tables stand -/
def NX (T : List (Addr × Str)) (H H' : Hp) : Prop := ExtN H H' ∧ Tabs T H'
theorem NX.refl (h : Tabs T H) : NX T H H := ⟨ExtN.refl H, h⟩
theorem NX.trans (a : NX T H H1) (b : NX T H1 H2) : NX T H H2 := ⟨a.1.trans b.1, b.2⟩
theorem NX.ex (a : NX T H H1) (e : Ex H1 H2) : NX T H H2 := ⟨a.1.trans (ExtN.of e), a.2.ext e⟩
theorem nx_of (h : Tabs T H) (e : Ex H H1) : NX T H H1 := (NX.refl h).ex e
theorem NX.o (n : NX T H H') (h : H a = some (.lst xs)) : H' a = some (.lst xs) := n.1 a _ h fun ps z => by cases z
theorem NX.tu (n : NX T H H') (h : H a = some (.tup xs)) : H' a = some (.tup xs) := n.1 a _ h fun ps z => by cases z
theorem nx_rdl (n : ExtN H H') (h : Rd H a (.lst xs)) : Rd H' a (.lst xs) := by
  rcases h with h | ⟨o, h⟩
  · exact .inl (n a _ h fun ps z => by cases z)
  · exact .inr ⟨o, n a _ h fun ps z => by cases z⟩
theorem nx_rdt (n : ExtN H H') (h : Rd H a (.tup xs)) : Rd H' a (.tup xs) := by
  rcases h with h | ⟨o, h⟩
  · exact .inl (n a _ h fun ps z => by cases z)
  · exact .inr ⟨o, n a _ h fun ps z => by cases z⟩
theorem NX.l (n : NX T H H') (h : SqL K H a xs) : SqL K H' a xs := by
  rcases h with h | h
  · exact .inl (nx_rdl n.1 h)
  · exact .inr h
theorem NX.tq (n : NX T H H') (h : SqT K H a xs) : SqT K H' a xs := by
  rcases h with h | h
  · exact .inl (nx_rdt n.1 h)
  · exact .inr h
theorem told_go (hT : Tabs T H) (h : ∀ H1, NX T H H1 → t (ET W Q) σ H1 Q) : tTold T W t σ H Q := ⟨hT, fun H1 n1 t1 => h H1 ⟨n1, t1⟩⟩
theorem et_go {C : Addr} {nm : Str} (w : W C nm) (h : ∀ H2, Ex H H2 → Q (.str nm) H2) : ET W Q (.ref C) none H := ⟨C, nm, rfl, rfl, w, h⟩
/-- x = told(lambda: ..) -/
theorem q_told {i : Nat} (hT : Tabs T H) (h : ∀ H1, NX T H H1 → t (ET W fun v H2 => tz D (σ.set i (some v)) H2) σ H1 fun v H2 => tz D (σ.set i (some v)) H2) : tSeq (tAsg (tTold T W t) (gName i)) tz D σ H := ⟨hT, fun H1 n1 t1 => h H1 ⟨n1, t1⟩⟩
/-- a told value: what it is, whatever comes -/
def Tl (T : List (Addr × Str)) (te : TE) (σ : L2.St) (H : Hp) (v : V) : Prop := ∀ H1, NX T H H1 → ∀ Q : VK, (∀ H2, NX T H1 H2 → Q v H2) → te σ H1 Q
theorem tl_ev (h : ∀ H1, NX T H H1 → Ev te σ H1 v) : Tl T te σ H v := fun H1 n Q q => h H1 n H1 (Ex.refl H1) Q fun H2 e => q H2 (nx_of n.2 e)
theorem tl_told (h : ∀ H1, NX T H H1 → ∀ Q : VK, (∀ H2, NX T H1 H2 → Q v H2) → t (ET W Q) σ H1 Q) : Tl T (tTold T W t) σ H v := fun H1 n Q q => ⟨n.2, fun H2 n2 t2 => h H2 (n.trans ⟨n2, t2⟩) Q fun H3 n3 => q H3 (NX.trans ⟨n2, t2⟩ n3)⟩
theorem tl_op {r : R2} (ha : Tl T ta σ H x) (hb : Tl T tb σ H y) (hr : ∀ H1, NX T H H1 → RV r x y H1 z) : Tl T (tOp r ta tb) σ H z := fun H1 n Q q => ha H1 n _ fun H2 n2 => hb H2 (n.trans n2) _ fun H3 n3 => hr H3 ((n.trans n2).trans n3) H3 (Ex.refl H3) Q fun H4 e4 => q H4 ((n2.trans n3).ex e4)
theorem tl_var {i : Nat} (h : σ[i]? = some (some v)) : Tl T (tVar i) σ H v := tl_ev fun _ _ => ev_var h
theorem tl_c : Tl T (tC v) σ H v := tl_ev fun _ _ => ev_c
theorem q_tl {i : Nat} (hT : Tabs T H) (h : Tl T te σ H v) (k : ∀ H1, NX T H H1 → tz D (σ.set i (some v)) H1) : tSeq (tAsg te (gName i)) tz D σ H := h H (NX.refl hT) _ k
/-- tests -/
def TlT (T : List (Addr × Str)) (tt : TT) (σ : L2.St) (H : Hp) (b : Bool) : Prop := ∀ H1, NX T H H1 → ∀ Q : Bool → Hp → Prop, (∀ H2, NX T H1 H2 → Q b H2) → tt σ H1 Q
theorem tlt_of {u : TT} {b : Bool} (h : ∀ H1, NX T H H1 → EvT u σ H1 b) : TlT T u σ H b := fun H1 n Q q => h H1 n H1 (Ex.refl H1) Q fun H2 e => q H2 (nx_of n.2 e)
theorem tlt_test {b : Bool} (h : Tl T te σ H (.bl b)) : TlT T (tTest te) σ H b := fun H1 n _ q => h H1 n _ fun H2 e2 => ⟨b, rfl, q H2 e2⟩
theorem tlt_not {u : TT} {b : Bool} (h : TlT T u σ H b) : TlT T (tNot u) σ H (!b) := fun H1 n _ q => h H1 n _ fun H2 e2 => q H2 e2
theorem tlt_or {u w : TT} {a b : Bool} (h1 : TlT T u σ H a) (h2 : a = false → TlT T w σ H b) : TlT T (tOr u w) σ H (a || b) := fun H1 n Q q => h1 H1 n _ fun H2 n2 => by
  cases a with
  | true => exact q H2 n2
  | false => exact h2 rfl H2 (n.trans n2) Q fun H3 n3 => q H3 (n2.trans n3)
theorem tlt_and {u w : TT} {a b : Bool} (h1 : TlT T u σ H a) (h2 : a = true → TlT T w σ H b) : TlT T (tAnd u w) σ H (a && b) := fun H1 n Q q => h1 H1 n _ fun H2 n2 => by
  cases a with
  | true => exact h2 rfl H2 (n.trans n2) Q fun H3 n3 => q H3 (n2.trans n3)
  | false => exact q H2 n2
theorem tlt_is {u : TT} {a b : Bool} (h : TlT T u σ H a) (e : a = b) : TlT T u σ H b := e ▸ h
theorem qn_when {u : TT} {tu : TS} {b : Bool} (hT : Tabs T H) (h : TlT T u σ H b) (h1 : b = true → ∀ H1, NX T H H1 → tu { D with nx := tz D } σ H1) (h2 : b = false → ∀ H1, NX T H H1 → tz D σ H1) : tSeq (tIfS u tu tNext) tz D σ H := h H (NX.refl hT) _ fun H1 n => by
  cases b with
  | true => exact h1 rfl H1 n
  | false => exact h2 rfl H1 n
theorem sn_when {u : TT} {tu : TS} {b : Bool} (hT : Tabs T H) (h : TlT T u σ H b) (h1 : b = true → ∀ H1, NX T H H1 → tu D σ H1) (h2 : b = false → ∀ H1, NX T H H1 → D.nx σ H1) : tIfS u tu tNext D σ H := h H (NX.refl hT) _ fun H1 n => by
  cases b with
  | true => exact h1 rfl H1 n
  | false => exact h2 rfl H1 n
/-! ### lists -/
theorem rep_flat (n : Nat) (x : V) : (List.replicate n [x]).flatten = List.replicate n x := by
  induction n with
  | zero => rfl
  | succ n ih => rw [List.replicate_succ, List.flatten_cons, ih]; rfl
theorem el_rep {n : Nat} (ha : EvL ta σ H [x]) (hb : Ev tb σ H (.int (n : Int))) (hn : n ≤ 100000) : EvL (tOp rRep ta tb) σ H (List.replicate n x) :=
  fun H1 ex Q q => ha H1 ex _ fun p H2 h2 e2 hp => hb H2 (ex.trans e2) _ fun H3 e3 => ⟨p, (n : Int), [x], rfl, rfl, e3 p _ hp, by omega, by omega, sz_of (by simpa using hn), fun r hr => q r _ (fresh_back (e2.trans e3) hr) ((e2.trans e3).trans (Ex.new hr)) (by
    rw [Int.toNat_natCast, rep_flat]
    exact upd_same)⟩
theorem el_catN (ha : EvL ta σ H xs) (hb : ∀ H1, Ex H H1 → EvL tb σ H1 ys) (hz : xs.length + ys.length ≤ 100000) : EvL (tOp rCat ta tb) σ H (xs ++ ys) :=
  fun H1 ex Q q => ha H1 ex _ fun l H2 _ e2 hl => hb H2 (ex.trans e2) H2 (Ex.refl H2) _ fun p H3 _ e3 h3 => ⟨l, p, xs, ys, rfl, rfl, e3 l _ hl, h3, sz_of hz, fun r hr => q r _ (fresh_back (e2.trans e3) hr) ((e2.trans e3).trans (Ex.new hr)) upd_same⟩
theorem cut_1 : cutV xs (some 1) none = xs.drop 1 := by
  unfold cutV
  have h : HT.sIx xs.length 0 (some 1) = min 1 xs.length := by
    cases h : xs.length with
    | zero => rfl
    | succ n =>
      simp [HT.sIx]
  have h2 : HT.sIx xs.length xs.length none = xs.length := rfl
  rw [h, h2, List.take_of_length_le (by simp)]
  cases xs with
  | nil => simp
  | cons a l => simp
theorem el_from1 (h : Ev te σ H (.ref a)) (hs : SqL K H a xs) : EvL (tSl (rSlL K) te (tPart (tC (.int 1))) tNoPart) σ H (xs.drop 1) := by
  rw [← cut_1]
  exact el_sl h (eo_some ev_c) eo_none hs
theorem el_ca1 {R : R1} {E : XK} (ha : Ev ta σ H x) (h : ∀ H1, Ex H H1 → ∀ Q : VK, RetL xs H1 Q → R x H1 Q E) : EvL (tCall (sp1 R) [] E (tCons ta tNil)) σ H xs :=
  fun H1 e Q q => ha H1 e _ fun H2 e2 => h H2 (e.trans e2) Q fun p H3 h3 e3 k => q p H3 (fresh_back e2 h3) (e2.trans e3) k
theorem el_ca2 {R : R2'} {E : XK} (ha : Ev ta σ H x) (hb : Ev tb σ H y) (h : ∀ H1, Ex H H1 → ∀ Q : VK, RetL xs H1 Q → R x y H1 Q E) : EvL (tCall (sp2 R) [] E (tCons ta (tCons tb tNil))) σ H xs :=
  fun H1 e Q q => ha H1 e _ fun H2 e2 => hb H2 (e.trans e2) _ fun H3 e3 => h H3 (e.trans (e2.trans e3)) Q fun p H4 h4 e4 k => q p H4 (fresh_back (e2.trans e3) h4) ((e2.trans e3).trans e4) k
/-- .. the second argument a new list -/
theorem el_ca2L {R : R2'} {E : XK} {zs : List V} (ha : Ev ta σ H x) (hb : EvL tb σ H ys) (h : ∀ q H1, Ex H H1 → H1 q = some (.lst ys) → ∀ Q : VK, RetL zs H1 Q → R x (.ref q) H1 Q E) : EvL (tCall (sp2 R) [] E (tCons ta (tCons tb tNil))) σ H zs :=
  fun H1 e Q q => ha H1 e _ fun H2 e2 => hb H2 (e.trans e2) _ fun r H3 _ e3 h3 => h r H3 (e.trans (e2.trans e3)) h3 Q fun p H4 h4 e4 k => q p H4 (fresh_back (e2.trans e3) h4) ((e2.trans e3).trans e4) k
/-- == of a new list and a kept one | of two new ones -/
theorem ev_opL0 {r : R2} (ha : EvL ta σ H xs) (hb : Ev tb σ H y) (hr : ∀ p H1, H1 p = some (.lst xs) → Ex H H1 → RV r (.ref p) y H1 z) : Ev (tOp r ta tb) σ H z := ev_opL1 ha (fun H1 e => hb.mono e) hr
/-- f(..) as a statement, its refusals let out -/
theorem q_call1 {R : R1} {E : XK} (ha : Ev ta σ H x) (h : ∀ H1, Ex H H1 → R x H1 (fun _ H2 => tz D σ H2) E) : tSeq (tDrop (tCall (sp1 R) [] E (tCons ta tNil))) tz D σ H := ha H (Ex.refl H) _ fun H1 e1 => h H1 e1
theorem el_lcR2 {ta : TA} {j : Nat} {vs : List Nat} {u : TT} {lo n : Int} (f : Nat → Bool) (v : Nat → V) (h : EvA ta σ H [.int lo, .int n]) (hn : -40000 ≤ lo ∧ lo ≤ 40000 ∧ -40000 ≤ n ∧ n ≤ 40000 ∧ n - lo ≤ 40000) (hw : ∀ x, wipe ((wipe σ vs).set j (some x)) vs = wipe σ vs)
    (ht : ∀ (i : Nat) H1, Ex H H1 → lo + (i : Int) < n → EvT u ((wipe σ vs).set j (some (.int (lo + (i : Int))))) H1 (f i)) (he : ∀ (i : Nat) H1, Ex H H1 → lo + (i : Int) < n → f i = true → Ev te ((wipe σ vs).set j (some (.int (lo + (i : Int))))) H1 (v i)) :
    EvL (tLc (iRng2 ta) (gName j) u te vs) σ H (given (n - lo).toNat f v) := fun H0 e Q q => h H0 e _ fun H1 e1 => ⟨lo, n, rfl, ⟨by omega, by omega, by omega, by omega⟩, fun Dl hD =>
  lc_range (lo := lo) (n := (n - lo).toNat) (Cw H1 f v Dl) ⟨hD, Ex.new hD, upd_same⟩ (fun i H' hi p => ⟨hw _, cw_turn p (by omega) (ht i H1 (e.trans e1) (by omega)) (fun hf => he i H1 (e.trans e1) (by omega) hf)⟩) (fun H' p => q Dl H' (fresh_back e1 p.1) (e1.trans p.2.1) p.2.2)⟩
theorem el_ca1L {R : R1} {E : XK} {zs : List V} (ha : EvL ta σ H xs) (h : ∀ q H1, Ex H H1 → H1 q = some (.lst xs) → ∀ Q : VK, RetL zs H1 Q → R (.ref q) H1 Q E) : EvL (tCall (sp1 R) [] E (tCons ta tNil)) σ H zs :=
  fun H1 e Q q => ha H1 e _ fun r H2 _ e2 h2 => h r H2 (e.trans e2) h2 Q fun p H3 h3 e3 k => q p H3 (fresh_back e2 h3) (e2.trans e3) k
theorem tabs_mut {l : Addr} {o : HO} (hl : H l = some (.lst xs)) (h : Tabs T H) : Tabs T (upd H l o) := fun p hp => by
  obtain ⟨ps, h1, h2, h3⟩ := h p hp
  have n1 : p.1 ≠ l := fun z => by
    rw [z, hl] at h1
    cases h1
  refine ⟨ps, by rw [upd_ne n1]; exact h1, h2, fun pos cv hc => ?_⟩
  obtain ⟨c, e1, e2⟩ := h3 pos cv hc
  refine ⟨c, e1, ?_⟩
  rw [upd_ne]
  · exact e2
  · intro z
    rw [z, hl] at e2
    cases e2
theorem NX.mut {l : Addr} {o : HO} (n : NX T H H1) (h0 : H l = none) (hl : H1 l = some (.lst xs)) : NX T H (upd H1 l o) := ⟨fun b u hb nt => by
  rw [upd_ne (ne_of_none hb h0)]
  exact n.1 b u hb nt, tabs_mut hl n.2⟩
/-- xs.append(told(..)) -/
theorem q_appT {l : Addr} {i : Nat} (hT : Tabs T H) (hl : H l = some (.lst xs)) (hi : σ[i]? = some (some (.ref l))) (h : Tl T te σ H v) (hz : xs.length < 100000) (k : ∀ H1, NX T H H1 → tz D σ (upd H1 l (.lst (xs ++ [v])))) :
    tSeq (tDrop (tBM K "list" rAppend (tVar i) (tCons te tNil))) tz D σ H :=
  ⟨.ref l, hi, Or.inl ⟨rfl, xs, sq_of hl⟩, h H (NX.refl hT) _ fun H2 n2 => ⟨l, xs, v, rfl, rfl, n2.o hl, sz_lt hz, k H2 n2⟩⟩
end
/-! ### one flag of many -/
theorem one_flag (C : Addr) : ∀ (cs : List Addr) (j : Nat), cs.Nodup → cs[j]? = some C →
    ((cs.map fun D => decide (C = D)).map fun b => (if b then 1 else 0 : Int)).sum = 1 ∧ (cs.map fun D => decide (C = D))[j]? = some true ∧ ∀ m, m < j → (cs.map fun D => decide (C = D))[m]? = some false
  | [], _, _, h => by simp at h
  | c :: cs, 0, nd, h => by
    have e : c = C := by simpa using h
    subst e
    have no : ∀ D ∈ cs, c ≠ D := fun D hD z => (List.nodup_cons.mp nd).1 (z ▸ hD)
    refine ⟨?_, by simp, fun m hm => by omega⟩
    have z : ∀ ds : List Addr, (∀ D ∈ ds, c ≠ D) → ((ds.map fun D => decide (c = D)).map fun b => (if b then 1 else 0 : Int)).sum = 0 := fun ds => by
      induction ds with
      | nil => intro _; rfl
      | cons d ds ih =>
        intro h
        simp only [List.map_cons, List.sum_cons]
        rw [ih fun D hD => h D (List.mem_cons_of_mem _ hD), decide_eq_false (h d List.mem_cons_self)]
        rfl
    simp only [List.map_cons, List.sum_cons]
    rw [z cs no]
    simp
  | c :: cs, j + 1, nd, h => by
    obtain ⟨h1, h2, h3⟩ := one_flag C cs j (List.nodup_cons.mp nd).2 (by simpa using h)
    have ne : C ≠ c := fun z => (List.nodup_cons.mp nd).1 (z ▸ List.mem_of_getElem? (by simpa using h))
    refine ⟨?_, by simpa using h2, fun m hm => ?_⟩
    · simp only [List.map_cons, List.sum_cons]
      rw [h1, decide_eq_false ne]
      rfl
    · cases m with
      | zero => simp [ne]
      | succ m => simpa using h3 m (by omega)
end Sv

set_option Elab.async false
set_option linter.all false
set_option maxRecDepth 100000
set_option maxHeartbeats 4000000
/-! SvAll: a list of things that are made, one of them taken; lists of words; what is told put into a list. -/
namespace Sv
open PySem PySem.Spec PyProof.Rows L2 Evl HotX L2H LamX
section
variable {K : PySem.W.Frag} {σ : L2.St} {H H' H1 H2 : Hp} {ta tb te tc : TE} {tr : TA} {x y z v : V} {a p : Addr} {xs ys : List V} {T : List (Addr × Str)} {D : Ends} {tz : TS} {W : Addr → Str → Prop} {t : XK → TE} {Q : VK} {P : V → Hp → Prop}
/-- a value that P holds of -/
def EvP (te : TE) (σ : L2.St) (H : Hp) (P : V → Hp → Prop) : Prop := ∀ H1, Ex H H1 → ∀ Q : VK, (∀ v H2, Ex H1 H2 → P v H2 → Q v H2) → te σ H1 Q
def EvAll (tr : TA) (σ : L2.St) (H : Hp) (n : Nat) (P : V → Hp → Prop) : Prop := ∀ H1, Ex H H1 → ∀ Q : List V → Hp → Prop, (∀ vs H2, Ex H1 H2 → vs.length = n → (∀ v ∈ vs, P v H2) → Q vs H2) → tr σ H1 Q
theorem ep_ev (h : Ev te σ H v) (hp : ∀ H1, Ex H H1 → P v H1) : EvP te σ H P := fun H1 e Q q => h H1 e Q fun H2 e2 => q v H2 e2 (hp H2 (e.trans e2))
theorem ep_l (h : EvL te σ H xs) (hp : ∀ p H1, Ex H H1 → H1 p = some (.lst xs) → P (.ref p) H1) : EvP te σ H P := fun H1 e Q q => h H1 e Q fun p H2 _ e2 h2 => q _ H2 e2 (hp p H2 (e.trans e2) h2)
theorem ep_u (h : EvU te σ H xs) (hp : ∀ p H1, Ex H H1 → H1 p = some (.tup xs) → P (.ref p) H1) : EvP te σ H P := fun H1 e Q q => h H1 e Q fun p H2 _ e2 h2 => q _ H2 e2 (hp p H2 (e.trans e2) h2)
theorem eall_nil : EvAll tNil σ H 0 P := fun H1 _ Q q => q [] H1 (Ex.refl H1) rfl fun _ h => (by cases h)
theorem eall_cons {n : Nat} (st : ∀ v H H', Ex H H' → P v H → P v H') (h : EvP te σ H P) (hr : EvAll tr σ H n P) : EvAll (tCons te tr) σ H (n + 1) P := fun H1 e Q q =>
  h H1 e _ fun v H2 e2 hv => hr H2 (e.trans e2) _ fun vs H3 e3 hl hvs => q (v :: vs) H3 (e2.trans e3) (by rw [List.length_cons, hl]) fun w hw => by
    rcases List.mem_cons.mp hw with rfl | hw
    · exact st _ _ _ e3 hv
    · exact hvs w hw
/-- [..][j], a thing of which P holds -/
theorem ep_ix {n : Nat} {j : Nat} (st : ∀ v H H', Ex H H' → P v H → P v H') (ha : EvAll tr σ H n P) (hb : ∀ H1, Ex H H1 → Ev tb σ H1 (.int (j : Int))) (hj : j < n) (hn : n ≤ 100000) : EvP (tOp (rIxL K) (tLst tr) tb) σ H P := fun H1 e Q q =>
  ha H1 e _ fun vs H2 e2 hl hvs => ⟨sz_of (by omega), fun r hr => hb (upd H2 r (.lst vs)) ((e.trans e2).trans (Ex.new hr)) _ (Ex.refl _) _ fun H3 e3 =>
    ⟨r, vs, (j : Int), vs[j]'(by omega), rfl, rfl, sq_of (e3 r _ upd_same), atI_nat (List.getElem?_eq_getElem _), q _ H3 (e2.trans ((Ex.new hr).trans e3)) (st _ _ _ ((Ex.new hr).trans e3) (hvs _ (List.getElem_mem _)))⟩⟩
theorem q_asgP {i : Nat} (h : EvP te σ H P) (k : ∀ v H1, Ex H H1 → P v H1 → tz D (σ.set i (some v)) H1) : tSeq (tAsg te (gName i)) tz D σ H := h H (Ex.refl H) _ fun v H1 e p => k v H1 e p
theorem call1P {R : R1} {E : XK} (ha : EvP ta σ H P) (h : ∀ v H1, Ex H H1 → P v H1 → R v H1 Q E) : tCall (sp1 R) [] E (tCons ta tNil) σ H Q := ha H (Ex.refl H) _ fun v H1 e hp => h v H1 e hp
theorem call1 {R : R1} {E : XK} (ha : Ev ta σ H x) (h : ∀ H1, Ex H H1 → R x H1 Q E) : tCall (sp1 R) [] E (tCons ta tNil) σ H Q := ha H (Ex.refl H) _ fun H1 e => h H1 e
theorem call1L {R : R1} {E : XK} (ha : EvL ta σ H xs) (h : ∀ p H1, Ex H H1 → H1 p = some (.lst xs) → R (.ref p) H1 Q E) : tCall (sp1 R) [] E (tCons ta tNil) σ H Q := ha H (Ex.refl H) _ fun p H1 _ e h1 => h p H1 e h1
theorem call2 {R : R2'} {E : XK} (ha : Ev ta σ H x) (hb : Ev tb σ H y) (h : ∀ H1, Ex H H1 → R x y H1 Q E) : tCall (sp2 R) [] E (tCons ta (tCons tb tNil)) σ H Q := ha H (Ex.refl H) _ fun H1 e => hb H1 e _ fun H2 e2 => h H2 (e.trans e2)
theorem call2L {R : R2'} {E : XK} (ha : Ev ta σ H x) (hb : EvL tb σ H ys) (h : ∀ q H1, Ex H H1 → H1 q = some (.lst ys) → R x (.ref q) H1 Q E) : tCall (sp2 R) [] E (tCons ta (tCons tb tNil)) σ H Q := ha H (Ex.refl H) _ fun H1 e => hb H1 e _ fun q H2 _ e2 h2 => h q H2 (e.trans e2) h2
theorem q_asgC1 {R : R1} {E : XK} {i : Nat} (ha : Ev ta σ H x) (h : ∀ H1, Ex H H1 → R x H1 (fun v H2 => tz D (σ.set i (some v)) H2) E) : tSeq (tAsg (tCall (sp1 R) [] E (tCons ta tNil)) (gName i)) tz D σ H := call1 (Q := fun v H2 => tz D (σ.set i (some v)) H2) ha h
theorem q_asgC2 {R : R2'} {E : XK} {i : Nat} (ha : Ev ta σ H x) (hb : Ev tb σ H y) (h : ∀ H1, Ex H H1 → R x y H1 (fun v H2 => tz D (σ.set i (some v)) H2) E) : tSeq (tAsg (tCall (sp2 R) [] E (tCons ta (tCons tb tNil))) (gName i)) tz D σ H := call2 (Q := fun v H2 => tz D (σ.set i (some v)) H2) ha hb h
theorem ev_ca1L {R : R1} {E : XK} (ha : EvL ta σ H xs) (h : ∀ p H1, Ex H H1 → H1 p = some (.lst xs) → ∀ Q : VK, (∀ H2, Ex H1 H2 → Q z H2) → R (.ref p) H1 Q E) : Ev (tCall (sp1 R) [] E (tCons ta tNil)) σ H z :=
  fun H1 e Q q => ha H1 e _ fun p H2 _ e2 h2 => h p H2 (e.trans e2) h2 Q fun H3 e3 => q H3 (e2.trans e3)
/-- for x in [..], each of which P holds of -/
theorem s_forP {n j : Nat} {tu : TS} (st : ∀ v H H', Ex H H' → P v H → P v H') (ha : EvAll tr σ H n P) (hn : n ≤ 100000) (I : L2.St → Hp → Prop) (h0 : ∀ H1, Ex H H1 → I σ H1)
    (hs : ∀ H1 x σ' H', Ex H H1 → I σ' H' → Ex H1 H' → P x H' → tu { D with nx := fun σ2 H2 => I σ2 H2 ∧ Ex H1 H2, ct := fun σ2 H2 => I σ2 H2 ∧ Ex H1 H2, bk := D.nx } (σ'.set j (some x)) H') (hd : ∀ σ' H', I σ' H' → D.nx σ' H') : tFor (iList K (tLst tr)) (gName j) tu D σ H :=
  ha H (Ex.refl H) _ fun vs H1 e1 hl hvs => ⟨sz_of (by omega), fun r hr => ⟨r, rfl, ⟨vs, sq_of upd_same⟩, by
    have e2 := e1.trans (Ex.new (o := .lst vs) hr)
    exact for_list (xs := vs) (fun _ σ' H' => I σ' H' ∧ Ex (upd H1 r (.lst vs)) H') ⟨h0 _ e2, Ex.refl _⟩ (fun i σ' H' _ p => sq_of (p.2 r _ upd_same))
      (fun i x σ' H' hi p => hs _ x σ' H' e2 p.1 p.2 (st _ _ _ p.2 (st _ _ _ (Ex.new hr) (hvs x (List.mem_of_getElem? hi))))) fun σ' H' p => hd σ' H' p.1⟩⟩
theorem q_forP {n j : Nat} {tu : TS} (st : ∀ v H H', Ex H H' → P v H → P v H') (ha : EvAll tr σ H n P) (hn : n ≤ 100000) (I : L2.St → Hp → Prop) (h0 : ∀ H1, Ex H H1 → I σ H1)
    (hs : ∀ H1 x σ' H', Ex H H1 → I σ' H' → Ex H1 H' → P x H' → tu { D with nx := fun σ2 H2 => I σ2 H2 ∧ Ex H1 H2, ct := fun σ2 H2 => I σ2 H2 ∧ Ex H1 H2, bk := tz D } (σ'.set j (some x)) H') (hd : ∀ σ' H', I σ' H' → tz D σ' H') : tSeq (tFor (iList K (tLst tr)) (gName j) tu) tz D σ H :=
  s_forP (D := { D with nx := tz D }) st ha hn I h0 hs hd
theorem q_parUU {i j : Nat} (ha : EvU ta σ H xs) (hb : EvU tb σ H ys) (k : ∀ p q H1, Ex H H1 → H1 p = some (.tup xs) → H1 q = some (.tup ys) → tz D ((σ.set i (some (.ref p))).set j (some (.ref q))) H1) : tSeq (tPar i j (tCons ta (tCons tb tNil))) tz D σ H :=
  ha H (Ex.refl H) _ fun p H1 _ e1 h1 => hb H1 e1 _ fun q H2 _ e2 h2 => ⟨.ref p, .ref q, rfl, k p q H2 (e1.trans e2) (e2 p _ h1) h2⟩
theorem s_parVU {i j : Nat} (ha : Ev ta σ H v) (hb : EvU tb σ H ys) (k : ∀ q H1, Ex H H1 → H1 q = some (.tup ys) → D.nx ((σ.set i (some v)).set j (some (.ref q))) H1) : tPar i j (tCons ta (tCons tb tNil)) D σ H :=
  ha H (Ex.refl H) _ fun H1 e1 => hb H1 e1 _ fun q H2 _ e2 h2 => ⟨v, .ref q, rfl, k q H2 (e1.trans e2) h2⟩
theorem q_parLV {i j : Nat} (ha : EvL ta σ H xs) (hb : Ev tb σ H v) (k : ∀ q H1, H q = none → Ex H H1 → H1 q = some (.lst xs) → tz D ((σ.set i (some (.ref q))).set j (some v)) H1) : tSeq (tPar i j (tCons ta (tCons tb tNil))) tz D σ H :=
  ha H (Ex.refl H) _ fun q H1 h0 e1 h1 => hb H1 e1 _ fun H2 e2 => ⟨.ref q, v, rfl, k q H2 h0 (e1.trans e2) (e2 q _ h1)⟩
/-- [e for i, x in enumerate(xs) if t] -/
theorem el_lcE {j1 j2 : Nat} {vs : List Nat} {u : TT} (f : Nat → Bool) (v : Nat → V) (h : EvA tr σ H [.ref a]) (hx : SqL K H a xs) (hz : xs.length ≤ 40000) (hw : ∀ x y, wipe (((wipe σ vs).set j1 (some x)).set j2 (some y)) vs = wipe σ vs)
    (ht : ∀ (i : Nat) (x : V) H1, Ex H H1 → xs[i]? = some x → EvT u (((wipe σ vs).set j1 (some (.int (i : Nat)))).set j2 (some x)) H1 (f i)) (he : ∀ (i : Nat) (x : V) H1, Ex H H1 → xs[i]? = some x → f i = true → Ev te (((wipe σ vs).set j1 (some (.int (i : Nat)))).set j2 (some x)) H1 (v i)) :
    EvL (tLc (iEnum K tr) (gTup K 2 (gCons (gName j1) (gCons (gName j2) gNil))) u te vs) σ H (given xs.length f v) := fun H0 e Q q => h H0 e _ fun H1 e1 => ⟨a, xs, rfl, ex_l (e.trans e1) hx, fun Dl hD => by
  refine ⟨fun i m H' => m = xs.length - i ∧ i ≤ xs.length ∧ Cw H1 f v Dl i H', ⟨xs.length, by simp, Nat.zero_le _, hD, Ex.new hD, upd_same⟩, ?_⟩
  rintro i m H' ⟨rfl, hi, p⟩
  have hq := ex_l ((e.trans e1).trans p.2.1) hx
  by_cases hlt : i < xs.length
  · refine .inr ⟨⟨xs, xs[i], hq, by simp [hlt]⟩, Cw H1 f v Dl (i + 1), fun H2 p' => ⟨xs.length - (i + 1), by omega, rfl, hlt, p'⟩, fun x H2 y => ?_⟩
    obtain ⟨T0, x0, rfl, hT, rfl, hx0⟩ := y
    have hi0 := hx0 xs hq
    have p2 : Cw H1 f v Dl i (upd H' T0 (.tup [.int (i : Nat), x0])) := ⟨p.1, p.2.1.trans (Ex.new hT), by
      rw [upd_ne (ne_of_none p.2.2 hT)]
      exact p.2.2⟩
    exact g_tup2 (st_of upd_same) ⟨hw _ _, cw_turn p2 (by omega) (ht i x0 H1 (e.trans e1) hi0) fun hf => he i x0 H1 (e.trans e1) hi0 hf⟩
  · have ei : i = xs.length := by omega
    subst ei
    exact .inl ⟨⟨xs, hq, Nat.le_refl _⟩, q Dl H' (fresh_back e1 p.1) (e1.trans p.2.1) p.2.2⟩⟩
/-- a branch, what follows told once -/
theorem q_ifM {u : TT} {tu tw : TS} {b : Bool} {M : L2.St → Hp → Prop} (hz : ∀ σ' H', M σ' H' → tz D σ' H') (h : EvT u σ H b) (h1 : b = true → ∀ H1, Ex H H1 → ∀ N : L2.St → Hp → Prop, (∀ σ' H', M σ' H' → N σ' H') → tu { D with nx := N } σ H1)
    (h2 : b = false → ∀ H1, Ex H H1 → ∀ N : L2.St → Hp → Prop, (∀ σ' H', M σ' H' → N σ' H') → tw { D with nx := N } σ H1) : tSeq (tIfS u tu tw) tz D σ H :=
  q_if h (fun hb H1 e => h1 hb H1 e _ hz) fun hb H1 e => h2 hb H1 e _ hz
/-- x = [told(..)] -/
theorem q_lstT {i : Nat} (hT : Tabs T H) (h : Tl T te σ H v) (k : ∀ l H1, NX T H H1 → H1 l = none → tz D (σ.set i (some (.ref l))) (upd H1 l (.lst [v]))) : tSeq (tAsg (tLst (tCons te tNil)) (gName i)) tz D σ H :=
  h H (NX.refl hT) _ fun H2 n2 => ⟨sz_of (by show 1 ≤ 100000; decide), fun p hp => k p H2 n2 hp⟩
/-! ### lists of ints, of words, set against each other -/
theorem rv_neI {ns ms : List Int} {q : Addr} (h1 : SqL K H p (ns.map V.int)) (h2 : SqL K H q (ms.map V.int)) : RV (rNeD K) (.ref p) (.ref q) H (.bl (!decide (ns = ms))) := by
  rw [← eqv_il]
  exact rv_neD (dp_il h1) (dp_il h2) (sh_il _) (sh_il _)
theorem rv_eqI {ns ms : List Int} {q : Addr} (h1 : SqL K H p (ns.map V.int)) (h2 : SqL K H q (ms.map V.int)) : RV (rEqD K) (.ref p) (.ref q) H (.bl (decide (ns = ms))) := by
  rw [← eqv_il]
  exact rv_eqD (dp_il h1) (dp_il h2) (sh_il _) (sh_il _)
theorem dp_strs : ∀ ns : List Str, DpAll K H (ns.map V.str) (ns.map PyData.str)
  | [] => .nil
  | n :: ns => .cons (.str n) (dp_strs ns)
theorem canL_strs : ∀ ns : List Str, ns.all PyData.strOk = true → PyData.canLayAll0 (ns.map PyData.str) = true
  | [], _ => by simp [PyData.canLayAll0]
  | n :: ns, h => by
    rw [List.all_cons, Bool.and_eq_true] at h
    simp [PyData.canLayAll0, PyData.canLay0, canL_strs ns h.2, h.1]
theorem dep_strs : ∀ ns : List Str, PyData.depthAll (ns.map PyData.str) = 0
  | [] => by simp [PyData.depthAll]
  | n :: ns => by simp [PyData.depthAll, PyData.depth, dep_strs ns]
theorem sh_sl {ns : List Str} (h : ns.all PyData.strOk = true) : SeqAt.shaped (.list (ns.map PyData.str)) = true := by
  simp [SeqAt.shaped, PyData.canLay0, PyData.depth, canL_strs ns h, dep_strs]
theorem rv_neS {ns : List Str} {q : Addr} (h : ns.all PyData.strOk = true) (h1 : SqL K H p (ns.map V.str)) (h2 : SqL K H q (ns.map V.str)) : RV (rNeD K) (.ref p) (.ref q) H (.bl false) := by
  have := rv_neD (.lst h1 (dp_strs ns)) (.lst h2 (dp_strs ns)) (sh_sl h) (sh_sl h)
  rw [SeqAt.eqv_refl _ (SeqAt.canLay_of_shaped (sh_sl h))] at this
  exact this
end
end Sv

set_option Elab.async false
set_option linter.all false
set_option maxRecDepth 100000
set_option maxHeartbeats 4000000
/-! SvDat: lists of things that are made (each told by a word of it), loops over them past what is told; values by their data. -/
namespace Sv
open PySem PySem.Spec PyProof.Rows L2 Evl HotX L2H LamX
section
variable {K : PySem.W.Frag} {σ : L2.St} {H H' H1 H2 : Hp} {ta tb te tc : TE} {tr : TA} {x y z v : V} {a p : Addr} {xs ys : List V} {T : List (Addr × Str)} {D : Ends} {tz tu : TS} {W : Addr → Str → Prop} {t : XK → TE} {Q : VK} {P : V → Hp → Prop} {n m : Nat}
/-! ### a list each of whose n items P holds of -/
def EvLP (te : TE) (σ : L2.St) (H : Hp) (n : Nat) (P : V → Hp → Prop) : Prop := ∀ H1, Ex H H1 → ∀ Q : VK, (∀ p vs H2, Ex H1 H2 → H2 p = some (.lst vs) → vs.length = n → (∀ v ∈ vs, P v H2) → Q (.ref p) H2) → te σ H1 Q
theorem elp_lst (st : ∀ v H H', Ex H H' → P v H → P v H') (h : EvAll tr σ H n P) (hn : n ≤ 100000) : EvLP (tLst tr) σ H n P := fun H1 e Q q =>
  h H1 e _ fun vs H2 e2 hl hvs => ⟨sz_of (by omega), fun r hr => q r vs _ (e2.trans (Ex.new hr)) upd_same hl fun v hv => st _ _ _ (Ex.new hr) (hvs v hv)⟩
theorem elp_var {i : Nat} {vs : List V} (st : ∀ v H H', Ex H H' → P v H → P v H') (hi : σ[i]? = some (some (.ref p))) (hp : H p = some (.lst vs)) (hl : vs.length = n) (hv : ∀ v ∈ vs, P v H) : EvLP (tVar i) σ H n P := fun H1 e Q q =>
  ⟨.ref p, hi, q p vs H1 (Ex.refl H1) (e p _ hp) hl fun v h => st _ _ _ e (hv v h)⟩
theorem elp_cat (st : ∀ v H H', Ex H H' → P v H → P v H') (ha : EvLP ta σ H n P) (hb : EvLP tb σ H m P) (hn : n + m ≤ 100000) : EvLP (tOp rCat ta tb) σ H (n + m) P := fun H1 e Q q =>
  ha H1 e _ fun l vs H2 e2 h2 hl hv => hb H2 (e.trans e2) _ fun r ws H3 e3 h3 hl3 hw => ⟨l, r, vs, ws, rfl, rfl, e3 l _ h2, h3, sz_of (by omega), fun s hs => q s _ _ ((e2.trans e3).trans (Ex.new hs)) upd_same (by rw [List.length_append, hl, hl3]) fun v h => by
    rcases List.mem_append.mp h with h | h
    · exact st _ _ _ (e3.trans (Ex.new hs)) (hv v h)
    · exact st _ _ _ (Ex.new hs) (hw v h)⟩
theorem elp_rep (st : ∀ v H H', Ex H H' → P v H → P v H') (ha : EvLP ta σ H 1 P) (hn : n ≤ 100000) : EvLP (tOp rRep ta (tC (.int (n : Int)))) σ H n P := fun H1 e Q q =>
  ha H1 e _ fun l vs H2 e2 h2 hl hv => by
    obtain ⟨w, rfl⟩ := List.length_eq_one_iff.mp hl
    refine ⟨l, (n : Int), [w], rfl, rfl, h2, by omega, by omega, sz_of (by simpa using hn), fun s hs => q s (List.replicate n w) _ (e2.trans (Ex.new hs)) ?_ (by simp) fun v h => ?_⟩
    · rw [Int.toNat_natCast, rep_flat]
      exact upd_same
    · rw [(List.mem_replicate.mp h).2]
      exact st _ _ _ (Ex.new hs) (hv w List.mem_cons_self)
theorem ep_lp {P2 : V → Hp → Prop} (h : EvLP te σ H n P) (k : ∀ p vs H1, H1 p = some (.lst vs) → vs.length = n → (∀ v ∈ vs, P v H1) → P2 (.ref p) H1) : EvP te σ H P2 := fun H1 e Q q =>
  h H1 e _ fun p vs H2 e2 h2 hl hv => q _ H2 e2 (k p vs H2 h2 hl hv)
theorem q_asgLP {i : Nat} (h : EvLP te σ H n P) (k : ∀ p vs H1, Ex H H1 → H1 p = some (.lst vs) → vs.length = n → (∀ v ∈ vs, P v H1) → tz D (σ.set i (some (.ref p))) H1) : tSeq (tAsg te (gName i)) tz D σ H := h H (Ex.refl H) _ fun p vs H1 e h1 hl hv => k p vs H1 e h1 hl hv
/-- for x in such a list, past what is told -/
theorem s_forLP {j : Nat} (st : ∀ v H H', NX T H H' → P v H → P v H') (hT : Tabs T H) (ha : EvLP te σ H n P) (I : L2.St → Hp → Prop) (h0 : ∀ H1, NX T H H1 → I σ H1)
    (hs : ∀ H1 x σ' H', NX T H H1 → I σ' H' → NX T H1 H' → P x H' → tu { D with nx := fun σ2 H2 => I σ2 H2 ∧ NX T H1 H2, ct := fun σ2 H2 => I σ2 H2 ∧ NX T H1 H2, bk := D.nx } (σ'.set j (some x)) H') (hd : ∀ σ' H', I σ' H' → D.nx σ' H') : tFor (iList K te) (gName j) tu D σ H :=
  ha H (Ex.refl H) _ fun r vs H1 e1 h1 hl hvs => ⟨r, rfl, ⟨vs, sq_of h1⟩, by
    have n1 : NX T H H1 := nx_of hT e1
    exact for_list (xs := vs) (fun _ σ' H' => I σ' H' ∧ NX T H1 H') ⟨h0 _ n1, NX.refl n1.2⟩ (fun i σ' H' _ p => sq_of (p.2.o h1))
      (fun i x σ' H' hi p => hs _ x σ' H' n1 p.1 p.2 (st _ _ _ p.2 (hvs x (List.mem_of_getElem? hi)))) fun σ' H' p => hd σ' H' p.1⟩
theorem q_forLP {j : Nat} (st : ∀ v H H', NX T H H' → P v H → P v H') (hT : Tabs T H) (ha : EvLP te σ H n P) (I : L2.St → Hp → Prop) (h0 : ∀ H1, NX T H H1 → I σ H1)
    (hs : ∀ H1 x σ' H', NX T H H1 → I σ' H' → NX T H1 H' → P x H' → tu { D with nx := fun σ2 H2 => I σ2 H2 ∧ NX T H1 H2, ct := fun σ2 H2 => I σ2 H2 ∧ NX T H1 H2, bk := tz D } (σ'.set j (some x)) H') (hd : ∀ σ' H', I σ' H' → tz D σ' H') : tSeq (tFor (iList K te) (gName j) tu) tz D σ H :=
  s_forLP (D := { D with nx := tz D }) st hT ha I h0 hs hd
/-! ### told lists -/
def TlL (T : List (Addr × Str)) (te : TE) (σ : L2.St) (H : Hp) (xs : List V) : Prop := ∀ H1, NX T H H1 → ∀ Q : VK, (∀ p H2, NX T H1 H2 → H2 p = some (.lst xs) → Q (.ref p) H2) → te σ H1 Q
theorem tl_opLL {r : R2} (ha : TlL T ta σ H xs) (hb : ∀ H1, NX T H H1 → EvL tb σ H1 ys) (hr : ∀ p q H1, H1 p = some (.lst xs) → H1 q = some (.lst ys) → RV r (.ref p) (.ref q) H1 z) : Tl T (tOp r ta tb) σ H z := fun H1 n1 Q q =>
  ha H1 n1 _ fun p H2 n2 h2 => hb H2 (n1.trans n2) H2 (Ex.refl H2) _ fun s H3 _ e3 h3 => hr p s H3 (e3 p _ h2) h3 H3 (Ex.refl H3) Q fun H4 e4 => q H4 (n2.ex (e3.trans e4))
theorem tll_cat {i : Nat} {l : Addr} (ha : TlL T ta σ H xs) (hi : σ[i]? = some (some (.ref l))) (hl : H l = some (.lst ys)) (hz : xs.length + ys.length ≤ 100000) : TlL T (tOp rCat ta (tVar i)) σ H (xs ++ ys) := fun H1 n1 Q q =>
  ha H1 n1 _ fun p H2 n2 h2 => ⟨.ref l, hi, p, l, xs, ys, rfl, rfl, h2, (n1.trans n2).o hl, sz_of hz, fun r hr => q r _ (n2.ex (Ex.new hr)) upd_same⟩
theorem tll_ca2 {R : R2'} {E : XK} (ha : ∀ H1, NX T H H1 → Ev ta σ H1 x) (hb : ∀ H1, NX T H H1 → Ev tb σ H1 y) (h : ∀ H1, NX T H H1 → ∀ Q : VK, (∀ p H2, NX T H1 H2 → H2 p = some (.lst xs) → Q (.ref p) H2) → R x y H1 Q E) : TlL T (tCall (sp2 R) [] E (tCons ta (tCons tb tNil))) σ H xs :=
  fun H1 n1 Q q => ha H1 n1 H1 (Ex.refl H1) _ fun H2 e2 => hb H2 (n1.ex e2) H2 (Ex.refl H2) _ fun H3 e3 => h H3 (n1.ex (e2.trans e3)) Q fun p H4 n4 h4 => q p H4 ((nx_of n1.2 (e2.trans e3)).trans n4) h4
theorem tlt_B {b : Bool} (h : Tl T te σ H (.bl b)) : TlT T (tB te) σ H b := fun H1 n _ q => h H1 n _ fun H2 e2 => ⟨b, rfl, q H2 e2⟩
theorem tl_ca2 {R : R2'} {E : XK} (ha : ∀ H1, NX T H H1 → Ev ta σ H1 x) (hb : ∀ H1, NX T H H1 → Ev tb σ H1 y) (h : ∀ H1, NX T H H1 → ∀ Q : VK, (∀ H2, NX T H1 H2 → Q z H2) → R x y H1 Q E) : Tl T (tCall (sp2 R) [] E (tCons ta (tCons tb tNil))) σ H z :=
  fun H1 n Q q => ha H1 n H1 (Ex.refl H1) _ fun H2 e2 => hb H2 (n.ex e2) H2 (Ex.refl H2) _ fun H3 e3 => h H3 (n.ex (e2.trans e3)) Q fun H4 n4 => q H4 ((nx_of n.2 (e2.trans e3)).trans n4)
theorem call3 {w : V} {R : R3} {E : XK} (ha : Ev ta σ H x) (hb : Ev tb σ H y) (hc : Ev tc σ H w) (h : ∀ H1, Ex H H1 → R x y w H1 Q E) : tCall (sp3 R) [] E (tCons ta (tCons tb (tCons tc tNil))) σ H Q := ha H (Ex.refl H) _ fun H1 e => hb H1 e _ fun H2 e2 => hc H2 (e.trans e2) _ fun H3 e3 => h H3 ((e.trans e2).trans e3)
theorem call3c {R : R3} {E : XK} (ha : Ev ta σ H x) (hb : Ev tb σ H y) (h : ∀ H1, Ex H H1 → tc σ H1 fun v H2 => R x y v H2 Q E) : tCall (sp3 R) [] E (tCons ta (tCons tb (tCons tc tNil))) σ H Q := ha H (Ex.refl H) _ fun H1 e => hb H1 e _ fun H2 e2 => h H2 (e.trans e2)
/-- f(..).append(e), of a list that is new -/
theorem q_appN (ha : EvL ta σ H xs) (h : ∀ H1, Ex H H1 → Ev te σ H1 v) (hz : xs.length < 100000) (k : ∀ H1, Ex H H1 → tz D σ H1) : tSeq (tDrop (tBM K "list" rAppend ta (tCons te tNil))) tz D σ H :=
  ha H (Ex.refl H) _ fun p H1 h0 e1 h1 => ⟨Or.inl ⟨rfl, xs, sq_of h1⟩, h H1 e1 H1 (Ex.refl H1) _ fun H2 e2 => ⟨p, xs, v, rfl, rfl, e2 p _ h1, sz_lt hz, k _ (Ex.mut (e1.trans e2) h0)⟩⟩
/-! ### values by their data -/
def EvD (K : PySem.W.Frag) (te : TE) (σ : L2.St) (H : Hp) (d : PyData) : Prop := EvP te σ H fun v H => Dp K H v d
def EvDA (K : PySem.W.Frag) (tr : TA) (σ : L2.St) (H : Hp) (ds : List PyData) : Prop := ∀ H1, Ex H H1 → ∀ Q : List V → Hp → Prop, (∀ vs H2, Ex H1 H2 → DpAll K H2 vs ds → Q vs H2) → tr σ H1 Q
theorem dpAll_len : ∀ {vs : List V} {ds : List PyData}, DpAll K H vs ds → vs.length = ds.length
  | _, _, .nil => rfl
  | _, _, .cons _ h => congrArg (· + 1) (dpAll_len h)
theorem ed_ev {d : PyData} (h : Ev te σ H v) (hd : ∀ H1, Ex H H1 → Dp K H1 v d) : EvD K te σ H d := ep_ev h hd
theorem ed_i {i : Int} (h : Ev te σ H (.int i)) : EvD K te σ H (.int i) := ed_ev h fun _ _ => .int i
theorem ed_s {s : Str} (h : Ev te σ H (.str s)) : EvD K te σ H (.str s) := ed_ev h fun _ _ => .str s
theorem ed_n (h : Ev te σ H .non) : EvD K te σ H .none := ed_ev h fun _ _ => .non
theorem ed_var {i : Nat} {d : PyData} (h : σ[i]? = some (some v)) (hd : Dp K H v d) : EvD K (tVar i) σ H d := ed_ev (ev_var h) fun _ e => Dp.ex e d _ hd
theorem ed_l {ds : List PyData} (h : EvL te σ H xs) (hd : ∀ H1, DpAll K H1 xs ds) : EvD K te σ H (.list ds) := ep_l h fun p H1 _ h1 => .lst (sq_of h1) (hd H1)
theorem eda_nil : EvDA K tNil σ H [] := fun H1 _ Q q => q [] H1 (Ex.refl H1) .nil
theorem eda_cons {d : PyData} {ds : List PyData} (h : EvD K te σ H d) (hr : EvDA K tr σ H ds) : EvDA K (tCons te tr) σ H (d :: ds) := fun H1 e Q q =>
  h H1 e _ fun v H2 e2 hv => hr H2 (e.trans e2) _ fun vs H3 e3 hvs => q (v :: vs) H3 (e2.trans e3) (.cons (Dp.ex e3 d _ hv) hvs)
theorem ed_lst {ds : List PyData} (h : EvDA K tr σ H ds) (hl : ds.length ≤ 100000) : EvD K (tLst tr) σ H (.list ds) := fun H1 e Q q =>
  h H1 e _ fun vs H2 e2 hvs => ⟨sz_of (by rw [dpAll_len hvs]; exact hl), fun r hr => q _ _ (e2.trans (Ex.new hr)) (.lst (sq_of upd_same) (DpAll.ex (Ex.new hr) ds _ hvs))⟩
theorem ed_tup {ds : List PyData} (h : EvDA K tr σ H ds) (hl : ds.length ≤ 100000) : EvD K (tTup tr) σ H (.tuple ds) := fun H1 e Q q =>
  h H1 e _ fun vs H2 e2 hvs => ⟨sz_of (by rw [dpAll_len hvs]; exact hl), fun r hr => q _ _ (e2.trans (Ex.new hr)) (.tup (st_of upd_same) (DpAll.ex (Ex.new hr) ds _ hvs))⟩
theorem ev_neD {d e : PyData} (ha : EvD K ta σ H d) (hb : EvD K tb σ H e) (s1 : SeqAt.shaped d = true) (s2 : SeqAt.shaped e = true) : Ev (tOp (rNeD K) ta tb) σ H (.bl (!PyData.eqv d e)) := fun H1 ex Q q =>
  ha H1 ex _ fun v H2 e2 hv => hb H2 (ex.trans e2) _ fun w H3 e3 hw => ⟨d, e, Dp.ex e3 d _ hv, hw, s1, s2, q H3 (e2.trans e3)⟩
theorem ev_eqD {d e : PyData} (ha : EvD K ta σ H d) (hb : EvD K tb σ H e) (s1 : SeqAt.shaped d = true) (s2 : SeqAt.shaped e = true) : Ev (tOp (rEqD K) ta tb) σ H (.bl (PyData.eqv d e)) := fun H1 ex Q q =>
  ha H1 ex _ fun v H2 e2 hv => hb H2 (ex.trans e2) _ fun w H3 e3 hw => ⟨d, e, Dp.ex e3 d _ hv, hw, s1, s2, q H3 (e2.trans e3)⟩
theorem q_asgD {i : Nat} {d : PyData} (h : EvD K te σ H d) (k : ∀ v H1, Ex H H1 → Dp K H1 v d → tz D (σ.set i (some v)) H1) : tSeq (tAsg te (gName i)) tz D σ H := h H (Ex.refl H) _ fun v H1 e hv => k v H1 e hv
/-- [e for v, w in xs if t], of pairs -/
theorem el_lcP {j1 j2 : Nat} {vs : List Nat} {u : TT} {tl : TE} (v w : Nat → V) (f : Nat → Bool) (z : Nat → V) (h : Ev tl σ H (.ref a)) (hx : SqL K H a xs) (hz : xs.length ≤ 40000) (hw : ∀ x y, wipe (((wipe σ vs).set j1 (some x)).set j2 (some y)) vs = wipe σ vs)
    (hT : ∀ i, i < xs.length → ∀ H1, Ex H H1 → ∃ t, xs[i]? = some (.ref t) ∧ SqT K H1 t [v i, w i])
    (ht : ∀ (i : Nat) H1, Ex H H1 → i < xs.length → EvT u (((wipe σ vs).set j1 (some (v i))).set j2 (some (w i))) H1 (f i)) (he : ∀ (i : Nat) H1, Ex H H1 → i < xs.length → f i = true → Ev te (((wipe σ vs).set j1 (some (v i))).set j2 (some (w i))) H1 (z i)) :
    EvL (tLc (iList K tl) (gTup K 2 (gCons (gName j1) (gCons (gName j2) gNil))) u te vs) σ H (given xs.length f z) := fun H0 e Q q => h H0 e _ fun H1 e1 => ⟨a, rfl, ⟨xs, ex_l (e.trans e1) hx⟩, fun Dl hD =>
  lc_list (xs := xs) (Cw H1 f z Dl) ⟨hD, Ex.new hD, upd_same⟩ (fun i H' _ p => ex_l ((e.trans e1).trans p.2.1) hx) (fun i x H' hi p => by
    have il := (List.getElem?_eq_some_iff.mp hi).1
    obtain ⟨t, h1, h2⟩ := hT i il H' ((e.trans e1).trans p.2.1)
    rw [hi] at h1
    cases h1
    exact g_tup2 h2 ⟨hw _ _, cw_turn p (by omega) (ht i H1 (e.trans e1) il) (fun hf => he i H1 (e.trans e1) il hf)⟩)
    (fun H' p => q Dl H' (fresh_back e1 p.1) (e1.trans p.2.1) p.2.2)⟩
/-- {k1: .., k2: .., k3: ..}[x] -/
theorem ev_dict3 {t1 t2 t3 ty : TE} {k1 k2 k3 s : Str} {v1 v2 v3 : V} (h1 : Ev t1 σ H v1) (h2 : Ev t2 σ H v2) (h3 : Ev t3 σ H v3) (hy : Ev ty σ H (.str s))
    (hv : valV (mergeK [] [((Sum.inr k1 : Key), v1), (.inr k2, v2), (.inr k3, v3)]) (.inr s) = some v) : Ev (tDGet (tDisp [((tC (.str k1)), t1), ((tC (.str k2)), t2), ((tC (.str k3)), t3)]) ty) σ H v := fun H1 e Q q => by
  intro p hp
  have e0 : Ex H (upd H1 p (.dK [])) := e.trans (Ex.new hp)
  refine h1 _ e0 _ fun H2 e2 => h2 H2 (e0.trans e2) _ fun H3 e3 => h3 H3 ((e0.trans e2).trans e3) _ fun H4 e4 => ?_
  have e24 := (e2.trans e3).trans e4
  have hpd : H4 p = some (.dK []) := e24 p _ upd_same
  have eH : Ex H1 H4 := (Ex.new hp).trans e24
  refine ⟨hpd, [(.inr k1, v1), (.inr k2, v2), (.inr k3, v3)], rfl, by show 3 ≤ 15; decide, ?_⟩
  refine hy _ (Ex.mut (e.trans eH) (fresh_back e hp)) _ fun H5 e5 => ⟨p, v, rfl, .inl ⟨_, .inr s, .inl (e5 p _ upd_same), rfl, hv.symm⟩, q H5 ((Ex.mut eH hp).trans e5)⟩
theorem ev_lenN' (ha : EvL ta σ H xs) : Ev (tCB (bLenQ K) (tCons ta tNil)) σ H (.int (xs.length : Int)) := fun H1 e Q q =>
  ha H1 e _ fun p H2 _ e2 h2 => ⟨p, xs, rfl, .inl (sq_of h2), q H2 e2⟩
end
end Sv

set_option Elab.async false
set_option linter.all false
set_option maxRecDepth 100000
set_option maxHeartbeats 8000000
/-! SvSet: sorted(set(xs)) of a list of ints, any number of them. -/
namespace Sv
open PySem PySem.Spec PyProof.Rows L2 Evl
/-- an empty set -/
abbrev zs (w : World) : Obj := { cls := .type "set", dict := none, data := .set #[] 0 (.fresh 0 0 (!w.params.followText "set-order")) }
section
variable {P : Program} {w : World} {A : Around} {E : Value → Shared → Prop} {s : Shared}
theorem setL {l : Addr} {xs : Array Value} (ns : List Int) {Q : Value → Shared → Prop} (hh : A.handled = none) (hl : s.heap.IsList l xs) (hit : IntsAre xs.toList ns) (hb : ns.length + 1 < scanBound)
    (h : ∀ (h' : Heap) (tk c : Nat), SetR w h' s.heap.objs.size (fun j => decide (j ∈ ns)) c → c ≤ ns.length → (∀ b o, s.heap.get? b = some o → h'.get? b = some o) → Q (.ref s.heap.objs.size) { s with heap := h', toks := tk }) :
    wpAny (model P w) A (call (.type "set") [.ref l]) Q E s := by
  have n0 : xs.size = ns.length := (Array.length_toList (xs := xs)) ▸ IntsAre.length hit
  obtain ⟨c0, tl0, m0⟩ := F.called_set.mro
  have m1 := F.called_set.made
  have m2 := F.called_set.sub
  refine wpAny_call (codeAny_of_tree ?_)
  show wpAny _ _ (callAny (.type "set") _) _ _ _
  refine wpAny_pure ⟨Code.quiet_builtin _ (by decide +kernel), codeAny_builtin F.entry_type_call ?_⟩
  rw [Around.under_plain (weight_type_call_type "set" [.ref l] []) rfl]
  have m3 := F.called_set.notType
  have m4 := F.called_set.canCreate
  have m5 := F.typeCall_set_1 (.ref l)
  repeat (any_goals (first | assumption | wp_step))
  refine codeAny_mono (code_set_led1 (.ref l) (E := E) (Q₁ := fun ob t => ob = .ref s.heap.objs.size ∧ t = { s with heap := s.heap.push (zs w) }) ⟨rfl, rfl⟩) fun r t hr => ?_
  cases r with
  | error e => exact hr
  | ok fl =>
    cases fl with
    | ret ob =>
      obtain ⟨rfl, rfl⟩ := hr
      have g0 : (s.heap.push (zs w)).get? s.heap.objs.size = some (zs w) := Heap.get?_push_size _ rfl
      have hT : Shared.TypeIs { s with heap := s.heap.push (zs w) } (.ref s.heap.objs.size) "set" := ⟨_, g0, rfl⟩
      have m6 := F.called_set.init.lookup
      have m7 := F.called_set.init.bind (.ref s.heap.objs.size)
      repeat (any_goals (first | assumption | wp_step))
      refine codeAny_mono (codeAny_call_builtin (R := wants (fun r t => r = .none ∧ ∃ h' tk c, t = { s with heap := h', toks := tk } ∧ SetR w h' s.heap.objs.size (fun j => decide (j ∈ ns)) c ∧ c ≤ ns.length ∧
          (∀ b o, s.heap.get? b = some o → h'.get? b = some o)) E) F.called_set.init.plain F.entry_set_init (check_set_init_1 hT ?_)) fun r2 t2 hr2 => ?_
      · obtain ⟨⟨oc, od, oda, osl⟩, hol, hcl, nl, hdl⟩ := hl
        simp only at hcl hdl
        subst hcl
        subst hdl
        have hol2 : (s.heap.push (zs w)).get? l = some { cls := .type "list", dict := od, data := .seq xs nl, slots := osl } := Heap.get?_push_of_some _ hol
        have m8 := F.sub_list_set
        have m9 := F.sub_list_frozenset
        have ne : (Value.type "list" == Value.type "dict") = false := by decide
        have l1 : (s.heap.push (zs w)).IsList l xs := ⟨_, hol2, rfl, nl, rfl⟩
        unfold Builtin.«set.__init__» noKeywords Builtin.Frozenset.updateFrom
        generalize hPI : pyIter = PI
        wp_walk
        subst hPI
        refine wpAny_pyIter_list l1 (wpAny_bind (wpAny_runValue ?_))
        have lt : l < s.heap.objs.size := Heap.lt_size hol
        have h3 : A.in1.in1.in1.handled = none := by simp [hh]
        have sz : (s.heap.push (zs w)).objs.size = s.heap.objs.size + 1 := Heap.size_push ..
        have nI : l ≠ (s.heap.push (zs w)).objs.size := by
          rw [sz]
          exact Nat.ne_of_lt (Nat.lt_succ_of_lt lt)
        have nS : s.heap.objs.size ∉ [(s.heap.push (zs w)).objs.size, l] := by
          rw [sz]
          simp only [List.mem_cons, List.not_mem_nil, or_false, not_or]
          exact ⟨Nat.ne_of_lt (Nat.lt_succ_self _), Nat.ne_of_gt lt⟩
        have val : ∀ (i : Nat) (v : Value), xs[i]? = some v → ∃ k t, ns[i]? = some k ∧ v = .int k t := fun i v hv => by
          have hi : i < ns.length := n0 ▸ (Array.getElem?_eq_some_iff.mp hv).1
          obtain ⟨t, e⟩ := PyProof.Rows.IntsAre.int_at hit i v (by rw [Array.getElem?_toList]; exact hv)
          exact ⟨ns[i], t, List.getElem?_eq_getElem hi, by rw [e, List.getD_eq_getElem?_getD, List.getElem?_eq_getElem hi]; rfl⟩
        refine set_update_ints ((Walks.list h3 _ l nI xs).toS) s.heap.objs.size nS ns n0 hb val (xs.size - 0) 0 _ (by omega) (Nat.zero_le _) ⟨⟨_, Heap.get?_push_size _ rfl, rfl, rfl⟩, l1.push _⟩ ?_ ?_
        · exact ⟨0, Nat.le_refl 0, setR_new_at (Heap.get?_push_of_some _ g0)⟩
        · intro t c hm hc hS
          obtain ⟨h', g2, d2, tk, o2⟩ := t
          have e1 : g2 = s.gens := hm.gens
          have e2 : d2 = s.drawn := hm.drawn
          have e3 : o2 = s.os := hm.os
          subst e1 e2 e3
          show wpAny _ _ _ _ _ _
          refine wpAny_pure ?_
          show wpAny _ _ (ret Value.none) _ _ _
          refine wpAny_pure ⟨rfl, h', tk, c, rfl, hS, by rw [← n0]; exact hc, fun b o e => hm.heap b o ?_ (Heap.get?_push_of_some _ (Heap.get?_push_of_some _ e))⟩
          have b0 : b < s.heap.objs.size := Heap.lt_size e
          rw [sz]
          simp only [List.mem_cons, List.not_mem_nil, or_false, not_or]
          exact ⟨Nat.ne_of_lt b0, Nat.ne_of_lt (Nat.lt_succ_of_lt b0)⟩
      · cases r2 with
        | error e => exact hr2
        | ok f2 =>
          cases f2 with
          | ret r =>
            obtain ⟨rfl, h', tk, c, rfl, hS, hc, hk⟩ := hr2
            repeat (any_goals (first | assumption | wp_step))
            exact h _ _ _ hS hc hk
          | _ => exact hr2.elim
    | _ => exact hr.elim
/-- sorted of such a set -/
theorem sortL {a : Addr} {S : Int → Bool} {n : Nat} {Q : Value → Shared → Prop} (R : SetR w s.heap a S n) (hh : A.handled = none) (hn : n ≤ 100000)
    (hQ : ∀ t p (out : List Value) (c : Nat) (ns : List Int), (∀ b o, s.heap.get? b = some o → t.heap.get? b = some o) → t.gens = s.gens → t.os = s.os → s.heap.objs.size ≤ p →
      t.heap.get? p = some (seqObj "list" out.toArray c) → IntsAre out ns → ns.Pairwise (· < ·) → (∀ k, k ∈ ns ↔ S k = true) → ns.length = n → Q (.ref p) t) :
    wpAny (model P w) A (call (.builtin "sorted") [.ref a]) Q E s := by
  obtain ⟨o, es, ep, t, ho, hex, hd, g, nd, hm, hb, hf, hs, hr, hl⟩ := R
  refine Calls.call_function_entry kind_sorted plain_sorted entry_sorted (args_sorted1 _) ?_
  unfold Builtin.«sorted»
  refine wpAny_bind (m := checkCount "sorted" 1 1 _) (wpAny_pure ?_)
  refine wpAny_bind (collect_set (A := A.in1) hh ⟨o, ho, hex.1, hd⟩ hf hb hr hl fun s1 vs k1 hz g1 o1 pm => ?_)
  have vl : vs.length = n := by rw [pm.length_eq, List.length_map, Array.length_toList, hs]
  have zl : vs.length ≤ sizeLine := sz_of (by omega)
  have vi : IntsAre vs (vs.map Builtin.Re.reRawOf) := ints_of vs fun v hv => by
    obtain ⟨e, he, q⟩ := List.mem_map.mp (pm.mem_iff.mp hv)
    obtain ⟨k, tk, h1, _⟩ := g e he
    exact ⟨k, tk, q ▸ h1⟩
  have pk : (vs.map Builtin.Re.reRawOf).Perm (es.toList.map keyOf) := by
    have q := pm.map Builtin.Re.reRawOf
    rwa [List.map_map] at q
  refine wpAny_bind (wpAny_newList ?_ zl)
  have oL : (s1.heap.push (seqObj "list" vs.toArray 0)).get? s1.heap.objs.size = some (seqObj "list" vs.toArray 0) := Heap.get?_push_size _ rfl
  refine wpAny_bind (wpAny_holding (wpAny_call_entry slot_list_sort ⟨_, oL, rfl⟩ entry_list_sort (SrtO.list_sort_ord SrtO.swo_int oL zl (fun h2 => SrtO.ints_sortable vi h2) fun out a1 a2 => ⟨_, rfl, ?_⟩) (args_list_sort _)))
  obtain ⟨k1', k2', k3'⟩ := SrtO.ints_out vi a1 a2
  obtain ⟨c, hc⟩ := sortedHeap_at (vs := vs) (out := out.toArray) oL
  have pn : (out.map SrtO.iv).Perm (es.toList.map keyOf) := k2'.trans pk
  have nd2 := pn.nodup_iff.mpr nd
  refine wpAny_pure ⟨_, rfl, hQ _ s1.heap.objs.size out c (out.map SrtO.iv) (fun b u e => ?_) g1 o1 hz hc k1' ((k3'.and nd2).imp fun {x y} hxy => ?_) (fun k => by rw [pn.mem_iff, ← hm k]) ?_⟩
  · have q := k1 b u e
    have lt := Heap.lt_size q
    show (sortedHeap (s1.heap.push (seqObj "list" vs.toArray 0)) s1.heap.objs.size vs out.toArray).get? b = some u
    rw [sortedHeap_old (Nat.ne_of_lt lt) (by rw [size_push']; exact Nat.lt_succ_of_lt lt)]
    exact Heap.get?_push_of_some _ q
  · have := hxy.1
    have := hxy.2
    omega
  · rw [pn.length_eq, List.length_map, Array.length_toList, hs]
end
def tSortSet (K : PySem.W.Frag) (te : TE) : TE := fun σ H Q => te σ H fun x H1 => ∃ (a : Addr) (ns : List Int), x = .ref a ∧ SqL K H1 a (ns.map V.int) ∧ ns.length ≤ 1000 ∧
  ∀ (ms : List Int) (p : Addr), ms.Pairwise (· < ·) → (∀ k, k ∈ ms ↔ k ∈ ns) → H1 p = none → Q (.ref p) (upd H1 p (.lst (ms.map V.int)))
theorem pe_sortSet {X : Cx} {e : Expr} {te : TE} {p p2 q pos : Pos} (hc : X.calm = true) (hg : Gl X "sorted") (hm : X.mg "sorted" = none) (hg2 : Gl X "set") (hm2 : X.mg "set" = none) (he : PE X e te)
    (na : starEach [e] X.env = (false, eval e X.env) :: starEach [] X.env := by rfl) : PE X (.Call (.Name "sorted" p) [.Call (.Name "set" p2) [e] [] q] [] pos) (tSortSet X.K te) := by
  refine ⟨fun pins s σ H Q I h => ?_⟩
  refine Call_ (ld_blt I hg hm boot_sorted (PyProof.Rows.callWith_builtin1 (PyProof.Rows.args_cons ?_ rfl) rfl rfl))
  refine Call_ (ld_blt I hg2 hm2 boot_set ?_)
  refine PyProof.Rows.callWith_type1 (PyProof.Rows.args_cons (thn (he.run pins s σ H _ I h) fun v s1 ⟨x, H1, I1, r1, q1⟩ => PyProof.Rows.args_nil ?_) na) na rfl
  obtain ⟨a, ns, rfl, hS, hn, q1⟩ := q1
  cases r1
  obtain ⟨its, rv, pl, hz⟩ := I1.list hS
  have hd := I1.ok.hd hc
  refine setL ns hd pl.isList (by simpa using rv.ints) (by unfold scanBound; omega) fun h' tk c R hcn k => PyProof.Rows.args_nil ?_
  have I2 : Inv X pins σ H1 { s1 with heap := h', toks := tk } := I1.kept k
  refine sortL R (I2.ok.hd hc) (by omega) fun t r out cc ms hk hg ho hp hx hi hs hm3 hl => ?_
  have lz : (ms.map V.int).length ≤ sizeLine := by rw [List.length_map, hl]; exact sz_of (by omega)
  have hn0 : H1 r = none := I2.hok.fresh hp
  have J : Inv X pins σ (upd H1 r (.lst (ms.map V.int))) { ({ s1 with heap := h', toks := tk } : Shared) with heap := t.heap, gens := t.gens, drawn := t.drawn, toks := t.toks } :=
    I2.call (ch := []) (Un.laid hk hp hn0) (I2.hok.laid hk hp ⟨lz, out, cc, vals_of_ints hi, hx⟩) (by rw [hg]; exact I2.bare) (fun _ z => nomatch z)
  have e0 : t = { s1 with heap := t.heap, gens := t.gens, drawn := t.drawn, toks := t.toks } := by
    cases t
    cases s1
    cases ho
    rfl
  rw [e0]
  exact ⟨.ref r, _, J, rfl, q1 ms r hs (fun k => by rw [hm3 k, decide_eq_true_iff]) hn0⟩
end Sv

set_option Elab.async false
set_option linter.all false
set_option maxRecDepth 100000
set_option maxHeartbeats 4000000
/-! MSum: sums by 1..n; tables put together by divisors: in either turn, of three, taken back. -/
namespace Sv
/-- the sum of f a by a = 1..n -/
def S1 : Nat → (Nat → Int) → Int
  | 0, _ => 0
  | n + 1, f => S1 n f + f (n + 1)
section
variable {n m : Nat} {f g h : Nat → Int}
theorem S1_congr : ∀ {n : Nat} {f g : Nat → Int}, (∀ a, 1 ≤ a → a ≤ n → f a = g a) → S1 n f = S1 n g
  | 0, _, _, _ => rfl
  | n + 1, f, g, h => by
    show S1 n f + f (n + 1) = S1 n g + g (n + 1)
    rw [S1_congr fun a h1 h2 => h a h1 (by omega), h (n + 1) (by omega) (by omega)]
theorem S1_add (n : Nat) (f g : Nat → Int) : S1 n (fun a => f a + g a) = S1 n f + S1 n g := by
  induction n with
  | zero => rfl
  | succ n ih =>
    simp only [S1, ih]
    omega
theorem S1_sub (n : Nat) (f g : Nat → Int) : S1 n (fun a => f a - g a) = S1 n f - S1 n g := by
  induction n with
  | zero => rfl
  | succ n ih =>
    simp only [S1, ih]
    omega
theorem S1_zero (n : Nat) : S1 n (fun _ => 0) = 0 := by
  induction n with
  | zero => rfl
  | succ n ih => simp only [S1, ih]; rfl
theorem S1_mulL (n : Nat) (c : Int) (f : Nat → Int) : S1 n (fun a => c * f a) = c * S1 n f := by
  induction n with
  | zero => simp [S1]
  | succ n ih => simp only [S1, ih, Int.mul_add]
theorem S1_mulR (n : Nat) (c : Int) (f : Nat → Int) : S1 n (fun a => f a * c) = S1 n f * c := by
  induction n with
  | zero => simp [S1]
  | succ n ih => simp only [S1, ih, Int.add_mul]
theorem S1_swap (n m : Nat) (f : Nat → Nat → Int) : S1 n (fun a => S1 m (fun b => f a b)) = S1 m (fun b => S1 n (fun a => f a b)) := by
  induction n with
  | zero => simp only [S1, S1_zero]
  | succ n ih =>
    simp only [S1, ih]
    rw [S1_add]
theorem S1_one (n k : Nat) (c : Nat → Int) : S1 n (fun a => if a = k then c a else 0) = if 1 ≤ k ∧ k ≤ n then c k else 0 := by
  induction n with
  | zero =>
    rw [if_neg (by omega)]
    rfl
  | succ n ih =>
    simp only [S1, ih]
    by_cases h1 : n + 1 = k
    · subst h1
      rw [if_neg (by omega), if_pos rfl, if_pos (by omega)]
      omega
    · rw [if_neg h1]
      by_cases h2 : 1 ≤ k ∧ k ≤ n
      · rw [if_pos h2, if_pos (by omega)]
        omega
      · rw [if_neg h2, if_neg (by omega)]
        rfl
theorem S1_cut {k : Nat} (hk : k ≤ n) (h : ∀ a, k < a → a ≤ n → f a = 0) : S1 n f = S1 k f := by
  induction n with
  | zero =>
    have : k = 0 := by omega
    subst this
    rfl
  | succ n ih =>
    by_cases e : k = n + 1
    · subst e
      rfl
    · simp only [S1]
      rw [ih (by omega) (fun a h1 h2 => h a h1 (by omega)), h (n + 1) (by omega) (by omega)]
      omega
/-! ### by divisors -/
/-- put together, at n -/
def dv (f g : Nat → Int) (n : Nat) : Int := S1 n fun a => if n % a = 0 then f a * g (n / a) else 0
/-- .. by pairs up to N -/
def dc (N : Nat) (f g : Nat → Int) (n : Nat) : Int := S1 N fun a => S1 N fun b => if a * b = n then f a * g b else 0
theorem mul_is {a b n : Nat} (ha : 1 ≤ a) : a * b = n ↔ n % a = 0 ∧ b = n / a := by
  constructor
  · intro h
    subst h
    exact ⟨Nat.mul_mod_right a b, (Nat.mul_div_cancel_left b ha).symm⟩
  · rintro ⟨h1, rfl⟩
    exact Nat.mul_div_cancel' (Nat.dvd_of_mod_eq_zero h1)
theorem pair_one {N a n : Nat} {c : Nat → Int} (ha : 1 ≤ a) (hn : 1 ≤ n) (hN : n ≤ N) : S1 N (fun b => if a * b = n then c b else 0) = if n % a = 0 then c (n / a) else 0 := by
  by_cases h : n % a = 0
  · rw [if_pos h]
    have e : S1 N (fun b => if a * b = n then c b else 0) = S1 N (fun b => if b = n / a then c b else 0) := S1_congr fun b _ _ => by
      by_cases h1 : b = n / a
      · rw [if_pos h1, if_pos ((mul_is ha).mpr ⟨h, h1⟩)]
      · rw [if_neg h1, if_neg fun z => h1 ((mul_is ha).mp z).2]
    rw [e, S1_one, if_pos]
    have : n / a * a = n := Nat.div_mul_cancel (Nat.dvd_of_mod_eq_zero h)
    constructor
    · rcases Nat.eq_zero_or_pos (n / a) with z | z
      · rw [z] at this
        omega
      · exact z
    · exact Nat.le_trans (Nat.div_le_self n a) hN
  · rw [if_neg h]
    have e : S1 N (fun b => if a * b = n then c b else 0) = S1 N (fun _ => 0) := S1_congr fun b _ _ => if_neg fun z => h ((mul_is ha).mp z).1
    rw [e, S1_zero]
theorem dc_dv {N : Nat} (hn : 1 ≤ n) (hN : n ≤ N) : dc N f g n = dv f g n := by
  unfold dc dv
  rw [S1_congr (g := fun a => if n % a = 0 then f a * g (n / a) else 0) fun a h1 _ => pair_one (c := fun b => f a * g b) h1 hn hN]
  refine S1_cut hN fun a h1 _ => if_neg ?_
  rw [Nat.mod_eq_of_lt h1]
  omega
theorem dc_comm (N n : Nat) (f g : Nat → Int) : dc N f g n = dc N g f n := by
  unfold dc
  rw [S1_swap]
  refine S1_congr fun a _ _ => S1_congr fun b _ _ => ?_
  rw [Nat.mul_comm b a, Int.mul_comm (f b)]
theorem dv_comm (hn : 1 ≤ n) : dv f g n = dv g f n := by
  rw [← dc_dv hn (Nat.le_refl n), dc_comm, dc_dv hn (Nat.le_refl n)]
theorem dv_congr {f' g' : Nat → Int} (hn : 1 ≤ n) (hf : ∀ a, 1 ≤ a → a ≤ n → f a = f' a) (hg : ∀ a, 1 ≤ a → a ≤ n → g a = g' a) : dv f g n = dv f' g' n := by
  refine S1_congr fun a h1 h2 => ?_
  by_cases h : n % a = 0
  · rw [if_pos h, if_pos h, hf a h1 h2, hg (n / a) (Nat.div_pos h2 h1) (Nat.div_le_self _ _)]
  · rw [if_neg h, if_neg h]
theorem ite_S1 {p : Prop} [Decidable p] (n : Nat) (f : Nat → Int) : (if p then S1 n f else 0) = S1 n fun a => if p then f a else 0 := by
  by_cases h : p
  · simp only [if_pos h]
  · simp only [if_neg h, S1_zero]
/-- of three, by the three -/
def d3 (N : Nat) (f g h : Nat → Int) (n : Nat) : Int := S1 N fun a => S1 N fun b => S1 N fun c => if a * b * c = n then f a * g b * h c else 0
theorem d3_left {N : Nat} (hn : 1 ≤ n) (hN : n ≤ N) : dc N (dc N f g) h n = d3 N f g h n := by
  unfold dc d3
  have e1 : ∀ m c, (if m * c = n then (S1 N fun a => S1 N fun b => if a * b = m then f a * g b else 0) * h c else 0) = S1 N fun a => S1 N fun b => if a * b = m then (if m * c = n then f a * g b * h c else 0) else 0 := fun m c => by
    rw [← S1_mulR, ite_S1]
    refine S1_congr fun a _ _ => ?_
    rw [← S1_mulR, ite_S1]
    refine S1_congr fun b _ _ => ?_
    by_cases h1 : m * c = n <;> by_cases h2 : a * b = m <;> simp [h1, h2]
  rw [S1_congr fun m _ _ => S1_congr fun c _ _ => e1 m c]
  -- m inmost
  rw [S1_congr fun m _ _ => S1_swap N N fun c a => _, S1_swap]
  refine S1_congr fun a ha _ => ?_
  rw [S1_congr fun m _ _ => S1_swap N N fun c b => _, S1_swap]
  refine S1_congr fun b hb _ => ?_
  rw [S1_swap]
  refine S1_congr fun c hc _ => ?_
  rw [S1_congr (g := fun m => if m = a * b then (if m * c = n then f a * g b * h c else 0) else 0) fun m _ _ => by
    by_cases z : a * b = m
    · rw [if_pos z, if_pos z.symm]
    · rw [if_neg z, if_neg fun y => z y.symm], S1_one]
  by_cases z : a * b * c = n
  · rw [if_pos z, if_pos]
    exact ⟨Nat.mul_pos ha hb, Nat.le_trans (Nat.le_mul_of_pos_right _ hc) (by rw [z]; exact hN)⟩
  · rw [if_neg z]
    split <;> rfl
theorem d3_right {N : Nat} (hn : 1 ≤ n) (hN : n ≤ N) : dc N f (dc N g h) n = d3 N f g h n := by
  unfold dc d3
  refine S1_congr fun a ha _ => ?_
  have e1 : ∀ m, (if a * m = n then f a * (S1 N fun b => S1 N fun c => if b * c = m then g b * h c else 0) else 0) = S1 N fun b => S1 N fun c => if b * c = m then (if a * m = n then f a * g b * h c else 0) else 0 := fun m => by
    rw [← S1_mulL, ite_S1]
    refine S1_congr fun b _ _ => ?_
    rw [← S1_mulL, ite_S1]
    refine S1_congr fun c _ _ => ?_
    by_cases h1 : a * m = n <;> by_cases h2 : b * c = m <;> simp [h1, h2, Int.mul_assoc]
  rw [S1_congr fun m _ _ => e1 m, S1_swap]
  refine S1_congr fun b hb _ => ?_
  rw [S1_swap]
  refine S1_congr fun c hc _ => ?_
  rw [S1_congr (g := fun m => if m = b * c then (if a * m = n then f a * g b * h c else 0) else 0) fun m _ _ => by
    by_cases z : b * c = m
    · rw [if_pos z, if_pos z.symm]
    · rw [if_neg z, if_neg fun y => z y.symm], S1_one, ← Nat.mul_assoc]
  by_cases z : a * b * c = n
  · rw [if_pos z, if_pos]
    refine ⟨Nat.mul_pos hb hc, Nat.le_trans ?_ hN⟩
    rw [← z, Nat.mul_assoc]
    exact Nat.le_mul_of_pos_left _ ha
  · rw [if_neg z]
    split <;> rfl
theorem dv_assoc (hn : 1 ≤ n) : dv (dv f g) h n = dv f (dv g h) n := by
  have e : ∀ {f g f' g' : Nat → Int}, (∀ a, 1 ≤ a → a ≤ n → f a = f' a) → (∀ a, 1 ≤ a → a ≤ n → g a = g' a) → dv f g n = dc n f' g' n := fun h1 h2 => by
    rw [dc_dv hn (Nat.le_refl n)]
    exact dv_congr hn h1 h2
  rw [e (f' := dc n f g) (g' := h) (fun a h1 h2 => (dc_dv h1 h2).symm) (fun _ _ _ => rfl), d3_left hn (Nat.le_refl n), ← d3_right hn (Nat.le_refl n), e (f' := f) (g' := dc n g h) (fun _ _ _ => rfl) (fun a h1 h2 => (dc_dv h1 h2).symm)]
/-- 1 at 1 alone -/
def u1 (n : Nat) : Int := if n = 1 then 1 else 0
theorem dv_unitR (hn : 1 ≤ n) : dv f u1 n = f n := by
  unfold dv
  rw [S1_congr (g := fun a => if a = n then f a else 0) fun a h1 h2 => ?_, S1_one, if_pos ⟨hn, Nat.le_refl n⟩]
  by_cases h : a = n
  · subst h
    rw [if_pos rfl, Nat.mod_self, if_pos rfl, Nat.div_self h1, u1, if_pos rfl, Int.mul_one]
  · rw [if_neg h]
    split
    · rename_i h3
      have : a * (n / a) = n := Nat.mul_div_cancel' (Nat.dvd_of_mod_eq_zero h3)
      rw [u1, if_neg, Int.mul_zero]
      intro z
      rw [z] at this
      omega
    · rfl
theorem dv_unitL (hn : 1 ≤ n) : dv u1 f n = f n := by rw [dv_comm hn, dv_unitR hn]
theorem dv_last (n : Nat) (g f : Nat → Int) : dv g f (n + 1) = S1 n (fun a => if (n + 1) % a = 0 then g a * f ((n + 1) / a) else 0) + g (n + 1) * f 1 := by
  unfold dv
  simp only [S1]
  rw [Nat.mod_self, if_pos rfl, Nat.div_self (Nat.succ_pos n)]
theorem one_sq {z : Int} (h : z = 1 ∨ z = -1) : z * z = 1 := by
  rcases h with h | h <;> subst h <;> decide
/-- taken back -/
theorem inv_ex (f : Nat → Int) (h1 : f 1 = 1 ∨ f 1 = -1) : ∀ N, ∃ g : Nat → Int, ∀ n, 1 ≤ n → n ≤ N → dv g f n = u1 n
  | 0 => ⟨f, fun n h1 h2 => by omega⟩
  | N + 1 => by
    obtain ⟨g, hg⟩ := inv_ex f h1 N
    refine ⟨fun m => if m = N + 1 then f 1 * (u1 (N + 1) - S1 N (fun a => if (N + 1) % a = 0 then g a * f ((N + 1) / a) else 0)) else g m, fun n h2 h3 => ?_⟩
    by_cases e : n = N + 1
    · subst e
      rw [dv_last, if_pos rfl]
      rw [S1_congr (g := fun a => if (N + 1) % a = 0 then g a * f ((N + 1) / a) else 0) fun a _ h5 => by rw [if_neg (show ¬ a = N + 1 by omega)]]
      rw [Int.mul_comm (f 1), Int.mul_assoc, one_sq h1, Int.mul_one]
      omega
    · rw [← hg n h2 (by omega)]
      refine dv_congr h2 (fun a _ h5 => ?_) fun _ _ _ => rfl
      rw [if_neg (by omega)]
theorem inv_uniq {N : Nat} {g' : Nat → Int} (h1 : ∀ n, 1 ≤ n → n ≤ N → dv g f n = u1 n) (h2 : ∀ n, 1 ≤ n → n ≤ N → dv g' f n = u1 n) (hn : 1 ≤ n) (hN : n ≤ N) : g n = g' n := by
  have a1 : dv (dv g f) g' n = g' n := by
    rw [dv_congr (f' := u1) (g' := g') hn (fun a h3 h4 => h1 a h3 (by omega)) (fun _ _ _ => rfl), dv_unitL hn]
  have a2 : dv g (dv f g') n = g n := by
    rw [dv_congr (f' := g) (g' := u1) hn (fun _ _ _ => rfl) (fun a h3 h4 => by rw [dv_comm h3, h2 a h3 (by omega)]), dv_unitR hn]
  rw [← a2, ← dv_assoc hn, a1]
theorem inv_at1 {N : Nat} (hN : 1 ≤ N) (h : ∀ n, 1 ≤ n → n ≤ N → dv g f n = u1 n) : g 1 * f 1 = 1 := by
  have := h 1 (Nat.le_refl 1) hN
  simp only [dv, S1, u1, Nat.mod_self, Nat.div_self Nat.one_pos, if_pos rfl] at this
  simpa using this
end
/-! ### lists as tables -/
def tab (n : Nat) (F : Nat → Int) : List Int := (List.range n).map fun i => F (i + 1)
def at1 (xs : List Int) (m : Nat) : Int := xs.getD (m - 1) 0
section
variable {n m : Nat} {F G : Nat → Int} {xs ys zs : List Int}
@[simp] theorem tab_len : (tab n F).length = n := by simp [tab]
theorem tab_at (h1 : 1 ≤ m) (h2 : m ≤ n) : at1 (tab n F) m = F m := by
  unfold at1 tab
  rw [List.getD_eq_getElem?_getD, List.getElem?_map, List.getElem?_range (by omega)]
  show F (m - 1 + 1) = F m
  rw [show m - 1 + 1 = m by omega]
theorem tab_self (xs : List Int) : tab xs.length (at1 xs) = xs := by
  apply List.ext_getElem
  · simp
  · intro i h1 h2
    simp only [tab, List.getElem_map, List.getElem_range, at1]
    rw [show i + 1 - 1 = i by omega, List.getD_eq_getElem?_getD, List.getElem?_eq_getElem h2]
    rfl
theorem tab_congr (h : ∀ m, 1 ≤ m → m ≤ n → F m = G m) : tab n F = tab n G := by
  unfold tab
  refine List.map_congr_left fun i hi => h (i + 1) (by omega) ?_
  have := List.mem_range.mp hi
  omega
theorem tab_inj (h : tab n F = tab n G) (h1 : 1 ≤ m) (h2 : m ≤ n) : F m = G m := by
  rw [← tab_at (F := F) h1 h2, h, tab_at h1 h2]
theorem tab_set {v : Int} (h1 : 1 ≤ m) : (tab n F).set (m - 1) v = tab n fun k => if k = m then v else F k := by
  apply List.ext_getElem
  · simp
  · intro i h2 h3
    rw [List.getElem_set]
    simp only [tab, List.getElem_map, List.getElem_range]
    by_cases e : m - 1 = i
    · rw [if_pos e, if_pos (by omega)]
    · rw [if_neg e, if_neg (by omega)]
theorem tab_get (h1 : 1 ≤ m) (h2 : m ≤ n) : ((tab n F).map L2.V.int)[m - 1]? = some (.int (F m)) := by
  rw [List.getElem?_map, tab, List.getElem?_map, List.getElem?_range (by omega)]
  show some (L2.V.int (F (m - 1 + 1))) = _
  rw [show m - 1 + 1 = m by omega]
theorem tab_setV {v : Int} (h1 : 1 ≤ m) : ((tab n F).map L2.V.int).set (m - 1) (.int v) = (tab n fun k => if k = m then v else F k).map L2.V.int := by
  rw [← tab_set h1, List.map_set]
theorem at1_get (h1 : 1 ≤ m) (h2 : m ≤ xs.length) : (xs.map L2.V.int)[m - 1]? = some (.int (at1 xs m)) := by
  have := tab_get (F := at1 xs) h1 h2
  rwa [tab_self] at this
/-- two tables put together -/
def conv (xs ys : List Int) : List Int := tab xs.length (dv (at1 xs) (at1 ys))
@[simp] theorem conv_len : (conv xs ys).length = xs.length := by simp [conv]
theorem conv_comm (h : xs.length = ys.length) : conv xs ys = conv ys xs := by
  unfold conv
  rw [h]
  exact tab_congr fun m h1 _ => dv_comm h1
theorem conv_assoc (h : xs.length = ys.length) : conv (conv xs ys) zs = conv xs (conv ys zs) := by
  unfold conv
  rw [tab_len, ← h]
  refine tab_congr fun m h1 h2 => ?_
  rw [dv_congr (f' := dv (at1 xs) (at1 ys)) (g' := at1 zs) h1 (fun a h3 h4 => tab_at h3 (by omega)) (fun _ _ _ => rfl), dv_assoc h1]
  exact dv_congr h1 (fun _ _ _ => rfl) fun a h3 h4 => (tab_at h3 (by omega)).symm
/-- gs leads fs back to 1 at 1 alone -/
def Back (fs gs : List Int) : Prop := gs.length = fs.length ∧ ∀ n, 1 ≤ n → n ≤ fs.length → dv (at1 gs) (at1 fs) n = u1 n
theorem back_ex (fs : List Int) (h : at1 fs 1 = 1 ∨ at1 fs 1 = -1) : ∃ gs, Back fs gs := by
  obtain ⟨g, hg⟩ := inv_ex (at1 fs) h fs.length
  refine ⟨tab fs.length g, tab_len, fun n h1 h2 => ?_⟩
  rw [← hg n h1 h2]
  exact dv_congr h1 (fun a h3 h4 => tab_at h3 (by omega)) fun _ _ _ => rfl
theorem Back.sym {fs gs : List Int} (h : Back fs gs) : Back gs fs := ⟨h.1.symm, fun n h1 h2 => by rw [dv_comm h1, h.2 n h1 (by have := h.1; omega)]⟩
theorem Back.sign {fs gs : List Int} (h : Back fs gs) (hl : 1 ≤ fs.length) (h1 : at1 fs 1 = 1 ∨ at1 fs 1 = -1) : at1 gs 1 = at1 fs 1 := by
  have := inv_at1 hl h.2
  rcases h1 with e | e <;> rw [e] at this ⊢ <;> omega
theorem Back.conv {fs gs : List Int} (h : Back fs gs) : conv fs gs = tab fs.length u1 := tab_congr fun n h1 h2 => by rw [dv_comm h1, h.2 n h1 h2]
theorem unit_tab (n : Nat) : tab (n + 1) u1 = 1 :: List.replicate n 0 := by
  apply List.ext_getElem
  · simp
  · intro i h1 h2
    simp only [tab, List.getElem_map, List.getElem_range]
    cases i with
    | zero => rfl
    | succ i =>
      rw [List.getElem_cons_succ, List.getElem_replicate, u1, if_neg (by omega)]
end
end Sv

set_option Elab.async false
set_option linter.all false
set_option maxRecDepth 100000
set_option maxHeartbeats 4000000
/-! MMul: functions that go by shares (multiplicative ones): put together, taken back, built up of powers of primes; bounds. -/
namespace Sv
def Ml (N : Nat) (f : Nat → Int) : Prop := f 1 = 1 ∧ ∀ a b, 1 ≤ a → 1 ≤ b → a * b ≤ N → Nat.gcd a b = 1 → f (a * b) = f a * f b
section
variable {N m n : Nat} {f g F : Nat → Int}
theorem gcd_of_dvd {a b m n : Nat} (co : Nat.gcd m n = 1) (ha : a ∣ m) (hb : b ∣ n) : Nat.gcd a b = 1 := by
  have h1 : Nat.gcd a b ∣ Nat.gcd m n := Nat.dvd_gcd (Nat.dvd_trans (Nat.gcd_dvd_left a b) ha) (Nat.dvd_trans (Nat.gcd_dvd_right a b) hb)
  rw [co] at h1
  exact Nat.dvd_one.mp h1
theorem mod_dvd {m a : Nat} : m % a = 0 ↔ a ∣ m := ⟨Nat.dvd_of_mod_eq_zero, Nat.mod_eq_zero_of_dvd⟩
theorem pair_iff {m n a b c : Nat} (co : Nat.gcd m n = 1) (hc : (m * n) % c = 0) : (c = a * b ∧ m % a = 0 ∧ n % b = 0) ↔ (a = Nat.gcd c m ∧ b = Nat.gcd c n) := by
  constructor
  · rintro ⟨rfl, h1, h2⟩
    have d1 := mod_dvd.mp h1
    have d2 := mod_dvd.mp h2
    have c1 : Nat.Coprime b m := by
      have := gcd_of_dvd co (Nat.dvd_refl m) d2
      rwa [Nat.gcd_comm] at this
    have c2 : Nat.Coprime a n := gcd_of_dvd co d1 (Nat.dvd_refl n)
    refine ⟨?_, ?_⟩
    · rw [Nat.Coprime.gcd_mul_right_cancel a c1]
      exact (Nat.gcd_eq_left d1).symm
    · rw [Nat.Coprime.gcd_mul_left_cancel b c2]
      exact (Nat.gcd_eq_left d2).symm
  · rintro ⟨rfl, rfl⟩
    refine ⟨?_, mod_dvd.mpr (Nat.gcd_dvd_right c m), mod_dvd.mpr (Nat.gcd_dvd_right c n)⟩
    rw [← Nat.Coprime.gcd_mul c co, Nat.gcd_eq_left (mod_dvd.mp hc)]
theorem S1_pairs (hm : 1 ≤ m) (hn : 1 ≤ n) (co : Nat.gcd m n = 1) (F : Nat → Int) :
    S1 (m * n) (fun c => if (m * n) % c = 0 then F c else 0) = S1 m fun a => S1 n fun b => if m % a = 0 then (if n % b = 0 then F (a * b) else 0) else 0 := by
  have e1 : (S1 m fun a => S1 n fun b => if m % a = 0 then (if n % b = 0 then F (a * b) else 0) else 0) = S1 m fun a => S1 n fun b => S1 (m * n) fun c => if c = a * b then (if m % a = 0 then (if n % b = 0 then F c else 0) else 0) else 0 :=
    S1_congr fun a h1 h2 => S1_congr fun b h3 h4 => by
      rw [S1_one, if_pos (show 1 ≤ a * b ∧ a * b ≤ m * n from ⟨Nat.mul_pos h1 h3, Nat.mul_le_mul h2 h4⟩)]
  rw [e1, S1_congr fun a _ _ => S1_swap n (m * n) fun b c => _, S1_swap]
  refine S1_congr fun c h1 h2 => ?_
  by_cases hc : (m * n) % c = 0
  · rw [if_pos hc]
    have e2 : (S1 m fun a => S1 n fun b => if c = a * b then (if m % a = 0 then (if n % b = 0 then F c else 0) else 0) else 0) = S1 m fun a => if a = Nat.gcd c m then (S1 n fun b => if b = Nat.gcd c n then F c else 0) else 0 :=
      S1_congr fun a h3 h4 => by
        rw [ite_S1]
        refine S1_congr fun b h5 h6 => ?_
        have key := pair_iff (a := a) (b := b) co hc
        by_cases k : a = Nat.gcd c m ∧ b = Nat.gcd c n
        · obtain ⟨k1, k2, k3⟩ := key.mpr k
          rw [if_pos k1, if_pos k2, if_pos k3, if_pos k.1, if_pos k.2]
        · have nk : ¬ (c = a * b ∧ m % a = 0 ∧ n % b = 0) := fun z => k (key.mp z)
          have r : (if a = Nat.gcd c m then (if b = Nat.gcd c n then F c else 0) else 0) = 0 := by
            by_cases z1 : a = Nat.gcd c m
            · rw [if_pos z1, if_neg fun z2 => k ⟨z1, z2⟩]
            · rw [if_neg z1]
          rw [r]
          by_cases z1 : c = a * b
          · rw [if_pos z1]
            by_cases z2 : m % a = 0
            · rw [if_pos z2, if_neg fun z3 => nk ⟨z1, z2, z3⟩]
            · rw [if_neg z2]
          · rw [if_neg z1]
    rw [e2, S1_one, if_pos ⟨Nat.gcd_pos_of_pos_left _ h1, Nat.gcd_le_right _ hm⟩, S1_one, if_pos ⟨Nat.gcd_pos_of_pos_left _ h1, Nat.gcd_le_right _ hn⟩]
  · rw [if_neg hc]
    symm
    rw [S1_congr (g := fun _ => 0) fun a _ _ => ?_, S1_zero]
    rw [S1_congr (g := fun _ => 0) fun b _ _ => ?_, S1_zero]
    by_cases z1 : c = a * b
    · rw [if_pos z1]
      by_cases z2 : m % a = 0
      · rw [if_pos z2]
        by_cases z3 : n % b = 0
        · exact absurd (by rw [z1]; exact mod_dvd.mpr (Nat.mul_dvd_mul (mod_dvd.mp z2) (mod_dvd.mp z3))) hc
        · rw [if_neg z3]
      · rw [if_neg z2]
    · rw [if_neg z1]
theorem S1_prod (m n : Nat) (f g : Nat → Int) : S1 m f * S1 n g = S1 m fun a => S1 n fun b => f a * g b := by
  rw [← S1_mulR]
  exact S1_congr fun a _ _ => (S1_mulL n (f a) g).symm
theorem dv_one (f g : Nat → Int) : dv f g 1 = f 1 * g 1 := by
  simp [dv, S1]
theorem div_pairs {a b m n : Nat} (ha : m % a = 0) (hb : n % b = 0) : m * n / (a * b) = m / a * (n / b) := (Nat.div_mul_div_comm (mod_dvd.mp ha) (mod_dvd.mp hb)).symm
theorem div_gcd {a b m n : Nat} (co : Nat.gcd m n = 1) (ha : m % a = 0) (hb : n % b = 0) : Nat.gcd (m / a) (n / b) = 1 := gcd_of_dvd co (Nat.div_dvd_of_dvd (mod_dvd.mp ha)) (Nat.div_dvd_of_dvd (mod_dvd.mp hb))
theorem div_pos' {a m : Nat} (ha : 1 ≤ a) (h : a ≤ m) : 1 ≤ m / a := Nat.div_pos h ha
theorem div_le_pairs {a b m n : Nat} (hN : m * n ≤ N) : m / a * (n / b) ≤ N := Nat.le_trans (Nat.mul_le_mul (Nat.div_le_self _ _) (Nat.div_le_self _ _)) hN
theorem im4 (a b c d : Int) : a * b * (c * d) = a * c * (b * d) := by rw [Int.mul_assoc, Int.mul_left_comm b, ← Int.mul_assoc]
/-- two that go by shares, put together, do -/
theorem ml_dv (hf : Ml N f) (hg : Ml N g) : Ml N (dv f g) := by
  refine ⟨by rw [dv_one, hf.1, hg.1]; rfl, fun m n hm hn hN co => ?_⟩
  have e : dv f g (m * n) = S1 (m * n) fun c => if (m * n) % c = 0 then (fun c => f c * g (m * n / c)) c else 0 := rfl
  rw [e, S1_pairs hm hn co]
  unfold dv
  rw [S1_prod]
  refine S1_congr fun a h1 h2 => S1_congr fun b h3 h4 => ?_
  by_cases z1 : m % a = 0
  · by_cases z2 : n % b = 0
    · simp only [if_pos z1, if_pos z2]
      rw [div_pairs z1 z2, hf.2 a b h1 h3 (Nat.le_trans (Nat.mul_le_mul h2 h4) hN) (gcd_of_dvd co (mod_dvd.mp z1) (mod_dvd.mp z2)), hg.2 _ _ (div_pos' h1 h2) (div_pos' h3 h4) (div_le_pairs hN) (div_gcd co z1 z2)]
      rw [im4]
    · simp only [if_pos z1, if_neg z2, Int.mul_zero]
  · simp only [if_neg z1, Int.zero_mul]
/-- .. taken back -/
theorem ml_inv (hf : Ml N f) (hN1 : 1 ≤ N) (hg : ∀ n, 1 ≤ n → n ≤ N → dv g f n = u1 n) : Ml N g := by
  have g1 : g 1 = 1 := by
    have := inv_at1 hN1 hg
    rwa [hf.1, Int.mul_one] at this
  refine ⟨g1, ?_⟩
  have main : ∀ k m n, m * n = k → 1 ≤ m → 1 ≤ n → m * n ≤ N → Nat.gcd m n = 1 → g (m * n) = g m * g n := by
    intro k
    induction k using Nat.strongRecOn with
    | _ k ih =>
      intro m n hk hm hn hN co
      by_cases e1 : m = 1
      · subst e1
        rw [Nat.one_mul, g1, Int.one_mul]
      by_cases e2 : n = 1
      · subst e2
        rw [Nat.mul_one, g1, Int.mul_one]
      have hmN : m ≤ N := Nat.le_trans (Nat.le_mul_of_pos_right m hn) hN
      have hnN : n ≤ N := Nat.le_trans (Nat.le_mul_of_pos_left n hm) hN
      have hmn1 : m * n ≠ 1 := fun z => e1 (Nat.eq_one_of_mul_eq_one_right z)
      have h0 : dv g f (m * n) = 0 := by rw [hg _ (Nat.mul_pos hm hn) hN, u1, if_neg hmn1]
      have hm0 : dv g f m = 0 := by rw [hg _ hm hmN, u1, if_neg e1]
      have e : dv g f (m * n) = S1 (m * n) fun c => if (m * n) % c = 0 then (fun c => g c * f (m * n / c)) c else 0 := rfl
      rw [e, S1_pairs hm hn co] at h0
      have t : (S1 m fun a => S1 n fun b => if m % a = 0 then (if n % b = 0 then (fun c => g c * f (m * n / c)) (a * b) else 0) else 0) =
          (S1 m fun a => S1 n fun b => (if m % a = 0 then g a * f (m / a) else 0) * (if n % b = 0 then g b * f (n / b) else 0)) + S1 m fun a => if a = m then (S1 n fun b => if b = n then g (m * n) - g m * g n else 0) else 0 := by
        rw [← S1_add]
        refine S1_congr fun a h1 h2 => ?_
        rw [ite_S1, ← S1_add]
        refine S1_congr fun b h3 h4 => ?_
        by_cases z1 : m % a = 0
        · by_cases z2 : n % b = 0
          · simp only [if_pos z1, if_pos z2]
            rw [div_pairs z1 z2, hf.2 _ _ (div_pos' h1 h2) (div_pos' h3 h4) (div_le_pairs hN) (div_gcd co z1 z2)]
            by_cases kk : a = m ∧ b = n
            · obtain ⟨rfl, rfl⟩ := kk
              rw [if_pos rfl, if_pos rfl]
              rw [Nat.div_self hm, Nat.div_self hn, hf.1]
              simp only [Int.mul_one]
              omega
            · have r : (if a = m then (if b = n then g (m * n) - g m * g n else 0) else 0) = 0 := by
                by_cases z1 : a = m
                · rw [if_pos z1, if_neg fun z2 => kk ⟨z1, z2⟩]
                · rw [if_neg z1]
              rw [r]
              have lt : a * b < k := by
                rcases Nat.lt_or_ge a m with z | z
                · exact Nat.lt_of_lt_of_le (Nat.mul_lt_mul_of_pos_right z h3) (by rw [← hk]; exact Nat.mul_le_mul_left m h4)
                · have ea : a = m := Nat.le_antisymm h2 z
                  have lb : b < n := Nat.lt_of_le_of_ne h4 fun y => kk ⟨ea, y⟩
                  rw [← hk, ea]
                  exact Nat.mul_lt_mul_of_pos_left lb hm
              rw [ih (a * b) lt a b rfl h1 h3 (Nat.le_trans (Nat.mul_le_mul h2 h4) hN) (gcd_of_dvd co (mod_dvd.mp z1) (mod_dvd.mp z2)), im4, Int.add_zero]
          · have nb : b ≠ n := fun z => z2 (by rw [z, Nat.mod_self])
            simp only [if_pos z1, if_neg z2, if_neg nb, Int.mul_zero]
            split <;> rfl
        · have na : a ≠ m := fun z => z1 (by rw [z, Nat.mod_self])
          simp only [if_neg z1, if_neg na, Int.zero_mul]
          rfl
      rw [t, ← S1_prod, S1_one, if_pos ⟨hm, Nat.le_refl m⟩, S1_one, if_pos ⟨hn, Nat.le_refl n⟩] at h0
      have z : S1 m (fun a => if m % a = 0 then g a * f (m / a) else 0) = 0 := hm0
      rw [z, Int.zero_mul] at h0
      omega
  exact fun a b => main (a * b) a b rfl
/-! ### built up of powers of primes -/
def IsPart (n q : Nat) : Prop := ∃ p k, 2 ≤ p ∧ p ∣ n ∧ (∀ d, 2 ≤ d → d ∣ n → p ≤ d) ∧ 1 ≤ k ∧ q = p ^ k ∧ p ^ k ∣ n ∧ ¬ p ^ (k + 1) ∣ n
theorem IsPart.uniq {n q q' : Nat} (h : IsPart n q) (h' : IsPart n q') : q = q' := by
  obtain ⟨p, k, a1, a2, a3, a4, rfl, a6, a7⟩ := h
  obtain ⟨p', k', b1, b2, b3, b4, rfl, b6, b7⟩ := h'
  have e : p = p' := Nat.le_antisymm (a3 p' b1 b2) (b3 p a1 a2)
  subst e
  have e2 : k = k' := by
    rcases Nat.lt_trichotomy k k' with z | z | z
    · exact absurd (Nat.dvd_trans (Nat.pow_dvd_pow p z) b6) a7
    · exact z
    · exact absurd (Nat.dvd_trans (Nat.pow_dvd_pow p z) a6) b7
  rw [e2]
theorem IsPart.dvd {n q : Nat} (h : IsPart n q) : q ∣ n := by
  obtain ⟨p, k, _, _, _, _, rfl, a6, _⟩ := h
  exact a6
theorem IsPart.two {n q : Nat} (h : IsPart n q) : 2 ≤ q := by
  obtain ⟨p, k, a1, _, _, a4, rfl, _, _⟩ := h
  calc 2 ≤ p := a1
    _ = p ^ 1 := (Nat.pow_one p).symm
    _ ≤ p ^ k := Nat.pow_le_pow_right (by omega) a4
/-- what the law builds -/
def Bu (N : Nat) (F : Nat → Int) : Prop := F 1 = 1 ∧ ∀ n, 2 ≤ n → n ≤ N → ∃ q, IsPart n q ∧ (q = n → -3 ≤ F n ∧ F n ≤ 3) ∧ (q ≠ n → F n = F q * F (n / q))
theorem ml_bu (h : Bu N F) : Ml N F := by
  refine ⟨h.1, ?_⟩
  have main : ∀ k a b, a * b = k → 1 ≤ a → 1 ≤ b → a * b ≤ N → Nat.gcd a b = 1 → F (a * b) = F a * F b := by
    intro k
    induction k using Nat.strongRecOn with
    | _ k ih =>
      have core : ∀ a b q p j, a * b = k → 1 < a → 1 < b → a * b ≤ N → Nat.gcd a b = 1 → 2 ≤ p → p ∣ a → (∀ d, 2 ≤ d → d ∣ a * b → p ≤ d) → 1 ≤ j → q = p ^ j → p ^ j ∣ a * b → ¬ p ^ (j + 1) ∣ a * b → (q ≠ a * b → F (a * b) = F q * F (a * b / q)) → F (a * b) = F a * F b := by
        intro a b q p j hk ha hb hN co p2 pa pl j1 eq pd pn hF
        have cpb : Nat.Coprime p b := gcd_of_dvd co pa (Nat.dvd_refl b)
        have qa : q ∣ a := by
          rw [eq]
          exact Nat.Coprime.dvd_of_dvd_mul_right (Nat.Coprime.pow_left j cpb) pd
        have hq2 : 2 ≤ q := IsPart.two (n := a * b) ⟨p, j, p2, Nat.dvd_trans pa (Nat.dvd_mul_right a b), pl, j1, eq, pd, pn⟩
        have pq : IsPart a q := ⟨p, j, p2, pa, fun d d2 da => pl d d2 (Nat.dvd_trans da (Nat.dvd_mul_right a b)), j1, eq, eq ▸ qa, fun z => pn (Nat.dvd_trans z (Nat.dvd_mul_right a b))⟩
        obtain ⟨c, rfl⟩ := qa
        have c1 : 1 ≤ c := by
          rcases Nat.eq_zero_or_pos c with z | z
          · rw [z] at ha
            omega
          · exact z
        have qlt : q * c < q * c * b := by
          have := Nat.mul_lt_mul_of_pos_left hb (show 0 < q * c by omega)
          rwa [Nat.mul_one] at this
        have qle : q ≤ q * c := Nat.le_mul_of_pos_right q c1
        have e1 : q * c * b / q = c * b := by
          rw [Nat.mul_assoc, Nat.mul_div_cancel_left _ (by omega)]
        rw [hF (by omega), e1]
        have cb : c * b < k := by
          rw [← hk, Nat.mul_assoc]
          have := Nat.mul_lt_mul_of_pos_right (show 1 < q by omega) (show 0 < c * b from Nat.mul_pos c1 (by omega))
          rwa [Nat.one_mul] at this
        rw [ih (c * b) cb c b rfl c1 (by omega) (by omega) (gcd_of_dvd co (Nat.dvd_mul_left c q) (Nat.dvd_refl b)), ← Int.mul_assoc]
        congr 1
        by_cases e : c = 1
        · subst e
          rw [h.1, Int.mul_one, Nat.mul_one]
        · obtain ⟨q', h1, _, h3⟩ := h.2 (q * c) (by omega) (by omega)
          have := pq.uniq h1
          subst this
          have ne : q ≠ q * c := fun z => by
            have := Nat.mul_lt_mul_of_pos_left (show 1 < c by omega) (show 0 < q by omega)
            omega
          rw [h3 ne, Nat.mul_div_cancel_left _ (by omega)]
      intro a b hk ha hb hN co
      by_cases e1 : a = 1
      · subst e1
        rw [Nat.one_mul, h.1, Int.one_mul]
      by_cases e2 : b = 1
      · subst e2
        rw [Nat.mul_one, h.1, Int.mul_one]
      have n2 : 2 ≤ a * b := Nat.le_trans (show 2 ≤ a by omega) (Nat.le_mul_of_pos_right a hb)
      obtain ⟨q, ⟨p, j, p2, pd0, pl, j1, eq, pd, pn⟩, _, hF⟩ := h.2 (a * b) n2 hN
      by_cases pa : p ∣ a
      · exact core a b q p j hk (by omega) (by omega) hN co p2 pa pl j1 eq pd pn hF
      · have cpa : Nat.Coprime p a := by
          have d1 : Nat.gcd p a ∣ a * b := Nat.dvd_trans (Nat.gcd_dvd_right p a) (Nat.dvd_mul_right a b)
          rcases Nat.lt_or_ge (Nat.gcd p a) 2 with z | z
          · have : 0 < Nat.gcd p a := Nat.gcd_pos_of_pos_left _ (by omega)
            show Nat.gcd p a = 1
            omega
          · have l := pl _ z d1
            have l2 : Nat.gcd p a ≤ p := Nat.gcd_le_left _ (by omega)
            have e : Nat.gcd p a = p := Nat.le_antisymm l2 l
            exact absurd (e ▸ Nat.gcd_dvd_right p a) pa
        have pb : p ∣ b := Nat.Coprime.dvd_of_dvd_mul_left cpa pd0
        rw [Nat.mul_comm a b] at hk hN pl pd pn hF ⊢
        rw [Int.mul_comm]
        exact core b a q p j hk (by omega) (by omega) hN (by rw [Nat.gcd_comm]; exact co) p2 pb pl j1 eq pd pn hF
  exact fun a b => main (a * b) a b rfl
/-! ### bounds -/
theorem S1_abs {M : Nat} (h : ∀ a, 1 ≤ a → a ≤ n → (f a).natAbs ≤ M) : (S1 n f).natAbs ≤ n * M := by
  induction n with
  | zero => simp [S1]
  | succ n ih =>
    simp only [S1]
    have h1 := ih fun a h1 h2 => h a h1 (by omega)
    have h2 := h (n + 1) (by omega) (by omega)
    rw [Nat.succ_mul]
    exact Nat.le_trans (Int.natAbs_add_le _ _) (Nat.add_le_add h1 h2)
theorem dv_abs {A B : Nat} (hn : 1 ≤ n) (hf : ∀ a, 1 ≤ a → a ≤ n → (f a).natAbs ≤ A) (hg : ∀ a, 1 ≤ a → a ≤ n → (g a).natAbs ≤ B) : (dv f g n).natAbs ≤ n * (A * B) := by
  refine S1_abs fun a h1 h2 => ?_
  split
  · rw [Int.natAbs_mul]
    exact Nat.mul_le_mul (hf a h1 h2) (hg _ (Nat.div_pos h2 h1) (Nat.div_le_self _ _))
  · simp
theorem bu_abs (h : Bu N F) : ∀ n, 1 ≤ n → n ≤ N → (F n).natAbs ≤ 2 ^ (2 * n) := by
  intro n
  induction n using Nat.strongRecOn with
  | _ n ih =>
    intro h1 h2
    by_cases e : n = 1
    · subst e
      rw [h.1]
      decide
    obtain ⟨q, hq, ha, hb⟩ := h.2 n (by omega) h2
    by_cases eq : q = n
    · have := ha eq
      have : (F n).natAbs ≤ 2 ^ 2 := by
        show _ ≤ 4
        omega
      exact Nat.le_trans this (Nat.pow_le_pow_right (by decide) (by omega))
    · rw [hb eq, Int.natAbs_mul]
      obtain ⟨c, hc⟩ := hq.dvd
      have q2 := hq.two
      have c2 : 2 ≤ c := by
        rcases Nat.lt_or_ge c 2 with z | z
        · have : c = 0 ∨ c = 1 := by omega
          rcases this with y | y <;> subst y <;> simp at hc <;> omega
        · exact z
      have ed : n / q = c := by rw [hc, Nat.mul_div_cancel_left _ (by omega)]
      have sum : q + c ≤ n := by
        obtain ⟨x, rfl⟩ : ∃ x, q = x + 2 := ⟨q - 2, by omega⟩
        obtain ⟨y, rfl⟩ : ∃ y, c = y + 2 := ⟨c - 2, by omega⟩
        rw [hc, Nat.add_mul, Nat.mul_add]
        omega
      rw [ed]
      refine Nat.le_trans (Nat.mul_le_mul (ih q (by omega) (by omega) (by omega)) (ih c (by omega) (by omega) (by omega))) ?_
      rw [← Nat.pow_add]
      exact Nat.pow_le_pow_right (by decide) (by omega)
theorem inv_abs {N : Nat} (hN : N ≤ 63) (f1 : f 1 = 1) (hf : ∀ n, 1 ≤ n → n ≤ N → (f n).natAbs ≤ 2 ^ 130) (hg : ∀ n, 1 ≤ n → n ≤ N → dv g f n = u1 n) : ∀ n, 1 ≤ n → n ≤ N → (g n).natAbs ≤ 2 ^ (140 * n) := by
  intro n
  induction n using Nat.strongRecOn with
  | _ n ih =>
    intro h1 h2
    obtain ⟨k, rfl⟩ : ∃ k, n = k + 1 := ⟨n - 1, by omega⟩
    have e := hg (k + 1) h1 h2
    rw [dv_last, f1, Int.mul_one] at e
    have b : (S1 k fun a => if (k + 1) % a = 0 then g a * f ((k + 1) / a) else 0).natAbs ≤ k * (2 ^ (140 * k) * 2 ^ 130) := S1_abs fun a h3 h4 => by
      split
      · rw [Int.natAbs_mul]
        refine Nat.mul_le_mul (Nat.le_trans (ih a (by omega) h3 (by omega)) (Nat.pow_le_pow_right (by decide) (by omega))) (hf _ (Nat.div_pos (by omega) h3) (Nat.le_trans (Nat.div_le_self _ _) h2))
      · simp
    have u : (u1 (k + 1)).natAbs ≤ 1 := by
      unfold u1
      split <;> decide
    have z : (g (k + 1)).natAbs ≤ 1 + k * (2 ^ (140 * k) * 2 ^ 130) := by omega
    refine Nat.le_trans z ?_
    rw [show 140 * (k + 1) = 140 * k + 140 by omega, Nat.pow_add]
    have p : 1 ≤ 2 ^ (140 * k) := Nat.one_le_two_pow
    generalize 2 ^ (140 * k) = P at *
    have q1 : k * (P * 2 ^ 130) ≤ 63 * (P * 2 ^ 130) := Nat.mul_le_mul_right _ (by omega)
    omega
end
end Sv

set_option Elab.async false
set_option linter.all false
set_option maxRecDepth 100000
set_option maxHeartbeats 4000000
/-! MFac: primes and how often each is in a number; sums by divisors of powers of primes; the shares. -/
namespace Sv
def IsP (p : Nat) : Prop := 2 ≤ p ∧ ∀ d, 2 ≤ d → d ∣ p → d = p
def prodF : List (Nat × Nat) → Nat
  | [] => 1
  | q :: ps => q.1 ^ q.2 * prodF ps
def Fac (n : Nat) (ps : List (Nat × Nat)) : Prop := n = prodF ps ∧ (∀ q ∈ ps, IsP q.1 ∧ 1 ≤ q.2) ∧ ps.Pairwise fun a b => a.1 < b.1
section
variable {p q n e N : Nat} {ps : List (Nat × Nat)} {f g F : Nat → Int}
theorem IsP.cop (h : IsP p) {a : Nat} (hd : ¬ p ∣ a) : Nat.Coprime p a := by
  have d1 := Nat.gcd_dvd_left p a
  have gp : 0 < Nat.gcd p a := Nat.gcd_pos_of_pos_left _ (by have := h.1; omega)
  rcases Nat.lt_or_ge (Nat.gcd p a) 2 with z | z
  · show Nat.gcd p a = 1
    omega
  · have := h.2 _ z d1
    exact absurd (this ▸ Nat.gcd_dvd_right p a) hd
theorem IsP.ne_cop (h : IsP p) (hq : IsP q) (ne : p ≠ q) : Nat.Coprime p q := h.cop fun z => ne (hq.2 p h.1 z)
theorem IsP.dvd_mul (h : IsP p) {a b : Nat} (hd : p ∣ a * b) : p ∣ a ∨ p ∣ b := by
  by_cases z : p ∣ a
  · exact .inl z
  · exact .inr ((h.cop z).dvd_of_dvd_mul_left hd)
theorem cop_prodF (h : IsP p) : ∀ {ps : List (Nat × Nat)}, (∀ q ∈ ps, IsP q.1 ∧ p ≠ q.1) → Nat.Coprime p (prodF ps)
  | [], _ => Nat.coprime_one_right p
  | q :: ps, hq => Nat.Coprime.mul_right (Nat.Coprime.pow_right _ (h.ne_cop (hq q List.mem_cons_self).1 (hq q List.mem_cons_self).2)) (cop_prodF h fun r hr => hq r (List.mem_cons_of_mem _ hr))
theorem prodF_pos : ∀ {ps : List (Nat × Nat)}, (∀ q ∈ ps, IsP q.1 ∧ 1 ≤ q.2) → 1 ≤ prodF ps
  | [], _ => Nat.le_refl 1
  | q :: ps, h => Nat.mul_pos (Nat.pow_pos (by have := (h q List.mem_cons_self).1.1; omega)) (prodF_pos fun r hr => h r (List.mem_cons_of_mem _ hr))
theorem prodF_app : ∀ (ps qs : List (Nat × Nat)), prodF (ps ++ qs) = prodF ps * prodF qs
  | [], qs => by simp [prodF]
  | q :: ps, qs => by
    show q.1 ^ q.2 * prodF (ps ++ qs) = q.1 ^ q.2 * prodF ps * prodF qs
    rw [prodF_app ps qs, Nat.mul_assoc]
theorem Fac.pos (h : Fac n ps) : 1 ≤ n := by
  rw [h.1]
  exact prodF_pos h.2.1
/-- the head, apart from the rest -/
theorem fac_head {q : Nat × Nat} (h : Fac n (q :: ps)) : Fac (prodF ps) ps ∧ IsP q.1 ∧ 1 ≤ q.2 ∧ n = q.1 ^ q.2 * prodF ps ∧ Nat.gcd (q.1 ^ q.2) (prodF ps) = 1 ∧ 1 ≤ q.1 ^ q.2 := by
  obtain ⟨h1, h2, h3⟩ := h
  obtain ⟨h4, h5⟩ := List.pairwise_cons.mp h3
  have hp := h2 q List.mem_cons_self
  refine ⟨⟨rfl, fun r hr => h2 r (List.mem_cons_of_mem _ hr), h5⟩, hp.1, hp.2, h1, ?_, Nat.pow_pos (by have := hp.1.1; omega)⟩
  exact Nat.Coprime.pow_left _ (cop_prodF hp.1 fun r hr => ⟨(h2 r (List.mem_cons_of_mem _ hr)).1, fun z => by have := h4 r hr; omega⟩)
/-- divisors of a power of a prime -/
theorem dvd_pp (h : IsP p) : ∀ {e d : Nat}, d ∣ p ^ e → ∃ k, k ≤ e ∧ d = p ^ k
  | 0, d, hd => ⟨0, Nat.le_refl 0, by
    rw [Nat.pow_zero] at hd ⊢
    exact Nat.dvd_one.mp hd⟩
  | e + 1, d, hd => by
    by_cases z : p ∣ d
    · obtain ⟨c, rfl⟩ := z
      rw [Nat.pow_succ, Nat.mul_comm] at hd
      obtain ⟨k, hk, rfl⟩ := dvd_pp h (Nat.dvd_of_mul_dvd_mul_right (k := p) (by have := h.1; omega) hd)
      exact ⟨k + 1, by omega, by rw [Nat.pow_succ, Nat.mul_comm]⟩
    · have c : Nat.Coprime d (p ^ (e + 1)) := Nat.Coprime.pow_right _ (Nat.Coprime.symm (h.cop z))
      exact ⟨0, Nat.zero_le _, by
        rw [Nat.pow_zero]
        have := Nat.gcd_eq_left hd
        rw [← this]
        exact c⟩
theorem pow_inj (h : IsP p) {j k : Nat} (e : p ^ j = p ^ k) : j = k := by
  rcases Nat.lt_trichotomy j k with z | z | z
  · have := Nat.pow_lt_pow_right h.1 z
    omega
  · exact z
  · have := Nat.pow_lt_pow_right h.1 z
    omega
/-- a sum by the divisors of a power of a prime -/
theorem S1_pp (h : IsP p) (e : Nat) (F : Nat → Int) : S1 (p ^ e) (fun a => if p ^ e % a = 0 then F a else 0) = S1 (e + 1) fun k => F (p ^ (k - 1)) := by
  have pp : 0 < p := by have := h.1; omega
  have e1 : S1 (p ^ e) (fun a => if p ^ e % a = 0 then F a else 0) = S1 (p ^ e) fun a => S1 (e + 1) fun k => if a = p ^ (k - 1) then F a else 0 := S1_congr fun a h1 h2 => by
    by_cases z : p ^ e % a = 0
    · rw [if_pos z]
      obtain ⟨j, hj, rfl⟩ := dvd_pp h (mod_dvd.mp z)
      rw [S1_congr (g := fun k => if k = j + 1 then F (p ^ j) else 0) fun k k1 k2 => ?_, S1_one, if_pos ⟨by omega, by omega⟩]
      by_cases y : k = j + 1
      · subst y
        rw [if_pos rfl, if_pos (by rw [show j + 1 - 1 = j by omega])]
      · rw [if_neg y, if_neg]
        intro x
        have := pow_inj h x
        omega
    · rw [if_neg z, S1_congr (g := fun _ => 0) fun k k1 k2 => ?_, S1_zero]
      rw [if_neg]
      rintro rfl
      exact z (mod_dvd.mpr (Nat.pow_dvd_pow p (by omega)))
  rw [e1, S1_swap]
  refine S1_congr fun k k1 k2 => ?_
  rw [S1_one, if_pos ⟨Nat.pow_pos pp, Nat.pow_le_pow_right pp (by omega)⟩]
/-- what a multiplicative function is, by a number's primes -/
def pI : List Int → Int
  | [] => 1
  | z :: zs => z * pI zs
theorem ml_fac (hf : Ml N f) : ∀ {ps : List (Nat × Nat)} {n : Nat}, Fac n ps → n ≤ N → f n = pI (ps.map fun q => f (q.1 ^ q.2))
  | [], n, h, _ => by
    have : n = 1 := h.1
    rw [this]
    exact hf.1
  | q :: ps, n, h, hn => by
    obtain ⟨h1, h2, h3, h4, h5, h6⟩ := fac_head h
    have p1 := h1.pos
    rw [h4] at hn ⊢
    rw [hf.2 _ _ h6 p1 hn h5, ml_fac hf h1 (Nat.le_trans (Nat.le_mul_of_pos_left _ h6) hn)]
    rfl
def w1 (_ : Nat) : Int := 1
def wId (n : Nat) : Int := n
theorem ml_w1 (N : Nat) : Ml N w1 := ⟨rfl, fun _ _ _ _ _ _ => rfl⟩
theorem ml_wId (N : Nat) : Ml N wId := ⟨rfl, fun a b _ _ _ _ => by unfold wId; rw [Int.natCast_mul]⟩
/-- how many divisors, their sum -/
def wMany : Nat → Int := dv w1 w1
def wSum : Nat → Int := dv wId w1
theorem S1_const (n : Nat) (c : Int) : S1 n (fun _ => c) = n * c := by
  induction n with
  | zero => simp [S1]
  | succ n ih =>
    simp only [S1, ih]
    rw [Int.natCast_add, Int.add_mul]
    simp
theorem many_fac (h : Fac n ps) : wMany n = pI (ps.map fun q => ((q.2 + 1 : Nat) : Int)) := by
  unfold wMany
  rw [ml_fac (ml_dv (ml_w1 n) (ml_w1 n)) h (Nat.le_refl n)]
  congr 1
  refine List.map_congr_left fun q hq => ?_
  have : dv w1 w1 (q.1 ^ q.2) = S1 (q.1 ^ q.2) fun a => if q.1 ^ q.2 % a = 0 then (fun _ => (1 : Int)) a else 0 := rfl
  rw [this, S1_pp (h.2.1 q hq).1, S1_const]
  simp
theorem sum_fac (h : Fac n ps) : wSum n = pI (ps.map fun q => S1 (q.2 + 1) fun k => ((q.1 ^ (k - 1) : Nat) : Int)) := by
  unfold wSum
  rw [ml_fac (ml_dv (ml_wId n) (ml_w1 n)) h (Nat.le_refl n)]
  congr 1
  refine List.map_congr_left fun q hq => ?_
  have : dv wId w1 (q.1 ^ q.2) = S1 (q.1 ^ q.2) fun a => if q.1 ^ q.2 % a = 0 then wId a else 0 := S1_congr fun a _ _ => by
    split
    · show wId a * 1 = wId a
      rw [Int.mul_one]
    · rfl
  rw [this, S1_pp (h.2.1 q hq).1]
  rfl
/-! ### the shares: how many numbers up to n have no common divisor with n -/
def wShares (n : Nat) : Int := S1 n fun k => if Nat.gcd k n = 1 then 1 else 0
theorem S1_mult (d m : Nat) (hd : 1 ≤ d) (F : Nat → Int) : S1 (d * m) (fun k => if k % d = 0 then F k else 0) = S1 m fun j => F (d * j) := by
  have e1 : S1 (d * m) (fun k => if k % d = 0 then F k else 0) = S1 (d * m) fun k => S1 m fun j => if k = d * j then F k else 0 := S1_congr fun k k1 k2 => by
    by_cases z : k % d = 0
    · rw [if_pos z]
      obtain ⟨j, rfl⟩ := mod_dvd.mp z
      rw [S1_congr (g := fun i => if i = j then F (d * j) else 0) fun i _ _ => ?_, S1_one, if_pos]
      · refine ⟨?_, Nat.le_of_mul_le_mul_left k2 hd⟩
        rcases Nat.eq_zero_or_pos j with y | y
        · rw [y] at k1
          omega
        · exact y
      · by_cases y : i = j
        · rw [if_pos y, if_pos (by rw [y])]
        · rw [if_neg y, if_neg fun x => y (Nat.eq_of_mul_eq_mul_left hd x).symm]
    · rw [if_neg z, S1_congr (g := fun _ => 0) fun j _ _ => ?_, S1_zero]
      rw [if_neg]
      rintro rfl
      exact z (Nat.mul_mod_right d j)
  rw [e1, S1_swap]
  refine S1_congr fun j j1 j2 => ?_
  rw [S1_one, if_pos ⟨Nat.mul_pos hd j1, Nat.mul_le_mul_left d j2⟩]
/-- the shares of all divisors together -/
theorem shares_sum {n : Nat} (hn : 1 ≤ n) : dv w1 wShares n = n := by
  have e0 : (n : Int) = S1 n fun k => S1 n fun d => if d = Nat.gcd k n then 1 else 0 := by
    rw [S1_congr (g := fun _ => 1) fun k k1 k2 => ?_, S1_const, Int.mul_one]
    rw [S1_one, if_pos ⟨Nat.gcd_pos_of_pos_left _ k1, Nat.gcd_le_right _ hn⟩]
  rw [e0, S1_swap]
  unfold dv
  refine S1_congr fun d d1 d2 => ?_
  by_cases z : n % d = 0
  · rw [if_pos z]
    obtain ⟨m, rfl⟩ := mod_dvd.mp z
    have dm : d * m / d = m := Nat.mul_div_cancel_left m d1
    rw [dm]
    show w1 d * wShares m = _
    unfold w1 wShares
    rw [Int.one_mul]
    have key : S1 m (fun j => if Nat.gcd j m = 1 then (1 : Int) else 0) = S1 m fun j => (fun k => if d = Nat.gcd k (d * m) then (1 : Int) else 0) (d * j) := S1_congr fun j _ _ => by
      show _ = if d = Nat.gcd (d * j) (d * m) then (1 : Int) else 0
      rw [Nat.gcd_mul_left]
      by_cases y : Nat.gcd j m = 1
      · rw [if_pos y, y, Nat.mul_one, if_pos rfl]
      · rw [if_neg y, if_neg]
        intro x
        have : d * 1 = d * Nat.gcd j m := by rw [Nat.mul_one]; exact x
        exact y (Nat.eq_of_mul_eq_mul_left d1 this).symm
    refine key.trans ((S1_mult d m d1 (fun k => if d = Nat.gcd k (d * m) then (1 : Int) else 0)).symm.trans ?_)
    refine S1_congr fun k k1 k2 => ?_
    by_cases y : k % d = 0
    · rw [if_pos y]
    · rw [if_neg y, if_neg]
      intro x
      exact y (mod_dvd.mpr (x ▸ Nat.gcd_dvd_left k (d * m)))
  · rw [if_neg z, S1_congr (g := fun _ => 0) fun k _ _ => ?_, S1_zero]
    rw [if_neg]
    intro x
    exact z (mod_dvd.mpr (x ▸ Nat.gcd_dvd_right k n))
theorem ml_congr' {n : Nat} {f g : Nat → Int} (n1 : 1 ≤ n) (h : ∀ m, 1 ≤ m → m ≤ n → f m = g m) (hf : Ml n f) : Ml n g := ⟨by rw [← h 1 (Nat.le_refl 1) n1]; exact hf.1, fun a b ha hb hab co => by
  rw [← h _ (Nat.mul_pos ha hb) hab, ← h a ha (Nat.le_trans (Nat.le_mul_of_pos_right a hb) hab), ← h b hb (Nat.le_trans (Nat.le_mul_of_pos_left b ha) hab)]
  exact hf.2 a b ha hb hab co⟩
theorem ml_shares (N : Nat) (hN : 1 ≤ N) : Ml N wShares := by
  obtain ⟨mu, hmu⟩ := inv_ex w1 (.inl rfl) N
  have mm : Ml N mu := ml_inv (ml_w1 N) hN hmu
  refine ml_congr' hN (fun n h1 h2 => ?_) (ml_dv mm (ml_wId N))
  have a1 : dv (dv mu w1) wShares n = wShares n := by
    rw [dv_congr (f' := u1) (g' := wShares) h1 (fun a h3 h4 => hmu a h3 (by omega)) (fun _ _ _ => rfl), dv_unitL h1]
  rw [← a1, dv_assoc h1]
  exact dv_congr h1 (fun _ _ _ => rfl) fun a h3 h4 => (shares_sum h3).symm
end
end Sv

set_option Elab.async false
set_option linter.all false
set_option maxRecDepth 100000
set_option maxHeartbeats 4000000
/-! MFac2: a number's primes are one list; the named functions by them. -/
namespace Sv
section
variable {p q n e N : Nat} {ps qs : List (Nat × Nat)}
theorem IsP.dvd_pow (h : IsP p) : ∀ {k a : Nat}, p ∣ a ^ k → p ∣ a
  | 0, a, hd => by
    rw [Nat.pow_zero] at hd
    have := Nat.le_of_dvd (by decide) hd
    have := h.1
    omega
  | k + 1, a, hd => by
    rw [Nat.pow_succ] at hd
    rcases h.dvd_mul hd with z | z
    · exact h.dvd_pow z
    · exact z
theorem IsP.in_prodF (h : IsP p) : ∀ {ps : List (Nat × Nat)}, (∀ q ∈ ps, IsP q.1 ∧ 1 ≤ q.2) → p ∣ prodF ps → ∃ q ∈ ps, q.1 = p
  | [], _, hd => by
    have : p ≤ 1 := Nat.le_of_dvd (by decide) hd
    have := h.1
    omega
  | q :: ps, hq, hd => by
    rcases h.dvd_mul hd with z | z
    · exact ⟨q, List.mem_cons_self, ((hq q List.mem_cons_self).1.2 p h.1 (h.dvd_pow z)).symm⟩
    · obtain ⟨r, hr, e⟩ := h.in_prodF (fun r hr => hq r (List.mem_cons_of_mem _ hr)) z
      exact ⟨r, List.mem_cons_of_mem _ hr, e⟩
theorem fac_uniq : ∀ {ps qs : List (Nat × Nat)} {n : Nat}, Fac n ps → Fac n qs → ps = qs
  | [], [], _, _, _ => rfl
  | [], q :: qs, n, h, h' => by
    obtain ⟨_, h2, h3, h4, _, h6⟩ := fac_head h'
    have e : n = 1 := h.1
    have : q.1 ∣ 1 := by
      rw [← e, h4]
      exact Nat.dvd_trans (Nat.dvd_trans (by rw [Nat.pow_one]; exact Nat.dvd_refl _) (Nat.pow_dvd_pow q.1 h3)) (Nat.dvd_mul_right _ _)
    have := Nat.le_of_dvd (by decide) this
    have := h2.1
    omega
  | q :: qs, [], n, h', h => by
    obtain ⟨_, h2, h3, h4, _, h6⟩ := fac_head h'
    have e : n = 1 := h.1
    have : q.1 ∣ 1 := by
      rw [← e, h4]
      exact Nat.dvd_trans (Nat.dvd_trans (by rw [Nat.pow_one]; exact Nat.dvd_refl _) (Nat.pow_dvd_pow q.1 h3)) (Nat.dvd_mul_right _ _)
    have := Nat.le_of_dvd (by decide) this
    have := h2.1
    omega
  | a :: ps, b :: qs, n, h, h' => by
    have dv0 : ∀ {q : Nat × Nat} {ps : List (Nat × Nat)}, Fac n (q :: ps) → q.1 ∣ n := fun {q ps} h => by
      obtain ⟨_, _, h3, h4, _, _⟩ := fac_head h
      rw [h4]
      exact Nat.dvd_trans (Nat.dvd_trans (by rw [Nat.pow_one]; exact Nat.dvd_refl _) (Nat.pow_dvd_pow q.1 h3)) (Nat.dvd_mul_right _ _)
    have le : ∀ {q r : Nat × Nat} {ps qs : List (Nat × Nat)}, Fac n (q :: ps) → Fac n (r :: qs) → r.1 ≤ q.1 := fun {q r ps qs} h h' => by
      have d := dv0 h
      rw [h'.1] at d
      obtain ⟨s, hs, es⟩ := (h.2.1 q List.mem_cons_self).1.in_prodF h'.2.1 d
      rcases List.mem_cons.mp hs with rfl | hs
      · omega
      · have := (List.pairwise_cons.mp h'.2.2).1 s hs
        omega
    have e1 : a.1 = b.1 := Nat.le_antisymm (le h' h) (le h h')
    obtain ⟨f1, p1, k1, g1, c1, t1⟩ := fac_head h
    obtain ⟨f2, p2, k2, g2, c2, t2⟩ := fac_head h'
    have nd : ∀ {q r : Nat × Nat} {ps qs : List (Nat × Nat)}, q.1 = r.1 → Fac n (q :: ps) → Fac n (r :: qs) → q.2 ≤ r.2 := fun {q r ps qs} e h h' => by
      obtain ⟨f1, p1, k1, g1, c1, t1⟩ := fac_head h
      obtain ⟨f2, p2, k2, g2, c2, t2⟩ := fac_head h'
      have d : q.1 ^ q.2 ∣ r.1 ^ r.2 * prodF qs := by
        rw [← g2, g1]
        exact Nat.dvd_mul_right _ _
      have c : Nat.Coprime (q.1 ^ q.2) (prodF qs) := by
        rw [e]
        refine Nat.Coprime.pow_left _ (cop_prodF p2 fun s hs => ⟨(h'.2.1 s (List.mem_cons_of_mem _ hs)).1, fun z => ?_⟩)
        have := (List.pairwise_cons.mp h'.2.2).1 s hs
        omega
      have d2 := c.dvd_of_dvd_mul_right d
      rw [e] at d2
      rcases Nat.lt_or_ge r.2 q.2 with z | z
      · have l := Nat.le_of_dvd t2 d2
        have := Nat.pow_lt_pow_right p2.1 z
        omega
      · exact z
    have e2 : a.2 = b.2 := Nat.le_antisymm (nd e1 h h') (nd e1.symm h' h)
    have eab : a = b := Prod.ext e1 e2
    subst eab
    have e3 : prodF ps = prodF qs := by
      have : a.1 ^ a.2 * prodF ps = a.1 ^ a.2 * prodF qs := by rw [← g1, ← g2]
      exact Nat.eq_of_mul_eq_mul_left t1 this
    rw [fac_uniq (n := prodF ps) f1 (by rw [e3]; exact f2)]
/-- the one list -/
noncomputable def facOf (n : Nat) : List (Nat × Nat) := @dite _ (∃ ps, Fac n ps) (Classical.propDecidable _) (fun h => Classical.choose h) fun _ => []
theorem facOf_eq (h : Fac n ps) : facOf n = ps := by
  unfold facOf
  rw [dif_pos ⟨ps, h⟩]
  exact fac_uniq (Classical.choose_spec (⟨ps, h⟩ : ∃ ps, Fac n ps)) h
/-! ### shares by the primes -/
theorem shares_pp (h : IsP p) (e : Nat) (he : 1 ≤ e) : wShares (p ^ e) = ((p ^ (e - 1) : Nat) : Int) * ((p : Int) - 1) := by
  have pp : 0 < p := by have := h.1; omega
  have sm : ∀ e, (S1 (e + 1) fun k => wShares (p ^ (k - 1))) = ((p ^ e : Nat) : Int) := fun e => by
    have pe : 1 ≤ p ^ e := Nat.pow_pos pp
    rw [← shares_sum pe, dv_comm pe, ← S1_pp h]
    refine S1_congr fun a _ _ => ?_
    split
    · show wShares a = wShares a * 1
      rw [Int.mul_one]
    · rfl
  obtain ⟨k, rfl⟩ : ∃ k, e = k + 1 := ⟨e - 1, by omega⟩
  have h1 := sm (k + 1)
  have h2 := sm k
  have h3 : (S1 (k + 1 + 1) fun k => wShares (p ^ (k - 1))) = (S1 (k + 1) fun k => wShares (p ^ (k - 1))) + wShares (p ^ (k + 1)) := rfl
  rw [h3, h2] at h1
  rw [show k + 1 - 1 = k by omega, Int.mul_sub, Int.mul_one]
  rw [Nat.pow_succ, Int.natCast_mul] at h1
  rw [Nat.pow_succ]
  omega
theorem shares_fac (h : Fac n ps) : wShares n = pI (ps.map fun q => ((q.1 ^ (q.2 - 1) : Nat) : Int) * ((q.1 : Int) - 1)) := by
  rw [ml_fac (ml_shares n h.pos) h (Nat.le_refl n)]
  congr 1
  exact List.map_congr_left fun q hq => shares_pp (h.2.1 q hq).1 _ (h.2.1 q hq).2
/-! ### free, mark, even, prime -/
def cntE (ps : List (Nat × Nat)) : Nat := (ps.map (·.2)).sum
def flatE (ps : List (Nat × Nat)) : Bool := ps.all fun q => decide (q.2 ≤ 1)
noncomputable def wEven (n : Nat) : Int := 1 - 2 * ((cntE (facOf n) : Int) % 2)
noncomputable def wFree (n : Nat) : Int := if flatE (facOf n) then 1 else 0
noncomputable def wMark (n : Nat) : Int := wFree n * wEven n
def wPrime (n : Nat) : Int := if wMany n = 2 then 1 else 0
theorem flat_cnt (h : ∀ q ∈ ps, 1 ≤ q.2) (hf : flatE ps = true) : cntE ps = ps.length := by
  induction ps with
  | nil => rfl
  | cons q ps ih =>
    unfold flatE at hf
    rw [List.all_cons, Bool.and_eq_true] at hf
    have h1 := of_decide_eq_true hf.1
    have h2 := h q List.mem_cons_self
    have h3 := ih (fun r hr => h r (List.mem_cons_of_mem _ hr)) hf.2
    unfold cntE at h3 ⊢
    rw [List.map_cons, List.sum_cons, h3, List.length_cons]
    omega
theorem pI_pos : ∀ ps : List (Nat × Nat), 1 ≤ pI (ps.map fun q => ((q.2 + 1 : Nat) : Int))
  | [] => Int.le_refl 1
  | q :: ps => by
    have h := pI_pos ps
    show 1 ≤ ((q.2 + 1 : Nat) : Int) * pI _
    have h2 : (1 : Int) ≤ ((q.2 + 1 : Nat) : Int) := by omega
    calc (1 : Int) = 1 * 1 := rfl
      _ ≤ _ := Int.mul_le_mul h2 h (by decide) (by omega)
theorem prime_fac (h : ∀ q ∈ ps, 1 ≤ q.2) : pI (ps.map fun q => ((q.2 + 1 : Nat) : Int)) = 2 ↔ ∃ p, ps = [(p, 1)] := by
  constructor
  · intro e
    match ps, h, e with
    | [], _, e => exact absurd e (by decide)
    | [q], h, e =>
      have : ((q.2 + 1 : Nat) : Int) * 1 = 2 := e
      exact ⟨q.1, by rw [show q = (q.1, 1) from Prod.ext rfl (by show q.2 = 1; omega)]⟩
    | q :: r :: ps, h, e =>
      have e' : ((q.2 + 1 : Nat) : Int) * (((r.2 + 1 : Nat) : Int) * pI (ps.map fun q => ((q.2 + 1 : Nat) : Int))) = 2 := e
      have a := h q List.mem_cons_self
      have b := h r (List.mem_cons_of_mem _ List.mem_cons_self)
      have c := pI_pos ps
      have d : (2 : Int) * 1 ≤ ((r.2 + 1 : Nat) : Int) * pI (ps.map fun q => ((q.2 + 1 : Nat) : Int)) := Int.mul_le_mul (by omega) c (by decide) (by omega)
      have f : (2 : Int) * 2 ≤ ((q.2 + 1 : Nat) : Int) * (((r.2 + 1 : Nat) : Int) * pI (ps.map fun q => ((q.2 + 1 : Nat) : Int))) := Int.mul_le_mul (by omega) d (by decide) (by omega)
      omega
  · rintro ⟨p, rfl⟩
    rfl
/-- the named functions, in their turn -/
noncomputable def W : Nat → Nat → Int
  | 0 => u1
  | 1 => w1
  | 2 => wId
  | 3 => wMany
  | 4 => wSum
  | 5 => wShares
  | 6 => wFree
  | 7 => wMark
  | 8 => wEven
  | _ => wPrime
end
end Sv

set_option Elab.async false
set_option linter.all false
set_option maxRecDepth 100000
set_option maxHeartbeats 4000000
/-! MDiv: all divisors, by the primes; how many at most; sorted lists. -/
namespace Sv
/-- the products that the program lays, pair by pair -/
def dlN (ds : List Nat) (q : Nat × Nat) : List Nat := ds.flatMap fun d => (List.range (q.2 + 1)).map fun k => d * q.1 ^ k
def dl (ps : List (Nat × Nat)) : List Nat := ps.foldl dlN [1]
def divs (n : Nat) : List Nat := ((List.range n).map (· + 1)).filter fun d => decide (n % d = 0)
section
variable {p q n e : Nat} {ps : List (Nat × Nat)}
theorem dl_snoc (ps : List (Nat × Nat)) (q : Nat × Nat) : dl (ps ++ [q]) = dlN (dl ps) q := by
  unfold dl
  rw [List.foldl_append]
  rfl
theorem dlN_len (ds : List Nat) (q : Nat × Nat) : (dlN ds q).length = ds.length * (q.2 + 1) := by
  unfold dlN
  induction ds with
  | nil => simp
  | cons d ds ih =>
    rw [List.flatMap_cons, List.length_append, ih, List.length_map, List.length_range, List.length_cons, Nat.succ_mul, Nat.add_comm]
def cntD : List (Nat × Nat) → Nat
  | [] => 1
  | q :: ps => (q.2 + 1) * cntD ps
theorem cntD_snoc : ∀ (ps : List (Nat × Nat)) (q : Nat × Nat), cntD (ps ++ [q]) = cntD ps * (q.2 + 1)
  | [], q => by simp [cntD]
  | r :: ps, q => by
    show (r.2 + 1) * cntD (ps ++ [q]) = (r.2 + 1) * cntD ps * (q.2 + 1)
    rw [cntD_snoc ps q, Nat.mul_assoc]
theorem cntD_pos : ∀ ps : List (Nat × Nat), 1 ≤ cntD ps
  | [] => Nat.le_refl 1
  | q :: ps => Nat.mul_pos (Nat.succ_pos _) (cntD_pos ps)
theorem pI_cnt : ∀ ps : List (Nat × Nat), pI (ps.map fun q => ((q.2 + 1 : Nat) : Int)) = (cntD ps : Int)
  | [] => rfl
  | q :: ps => by
    show ((q.2 + 1 : Nat) : Int) * pI _ = (((q.2 + 1) * cntD ps : Nat) : Int)
    rw [pI_cnt ps, Int.natCast_mul]
/-- bounds -/
theorem sq4 : ∀ e : Nat, (e + 1) * (e + 1) ≤ 4 ^ e
  | 0 => by decide
  | e + 1 => by
    have h := sq4 e
    rw [Nat.pow_succ]
    have : (e + 1 + 1) * (e + 1 + 1) ≤ (e + 1) * (e + 1) * 4 := by
      rw [Nat.add_mul, Nat.mul_add, Nat.one_mul, Nat.mul_one]
      have : e + 1 ≤ (e + 1) * (e + 1) := Nat.le_mul_of_pos_left _ (Nat.succ_pos e)
      omega
    exact Nat.le_trans this (Nat.mul_le_mul_right 4 h)
theorem sq2 : ∀ e : Nat, 4 * ((e + 1) * (e + 1)) ≤ 9 * 2 ^ e
  | 0 => by decide
  | 1 => by decide
  | 2 => by decide
  | e + 3 => by
    have h := sq2 (e + 2)
    rw [Nat.pow_succ]
    have : (e + 3 + 1) * (e + 3 + 1) ≤ (e + 2 + 1) * (e + 2 + 1) * 2 := by
      have a : (e + 3 + 1) * (e + 3 + 1) = (e + 3) * (e + 3) + 2 * (e + 3) + 1 := by
        rw [Nat.add_mul, Nat.mul_add, Nat.one_mul, Nat.mul_one]
        omega
      have b : 3 * (e + 3) ≤ (e + 3) * (e + 3) := Nat.mul_le_mul_right _ (by omega)
      rw [a]
      show (e + 3) * (e + 3) + 2 * (e + 3) + 1 ≤ (e + 3) * (e + 3) * 2
      omega
    omega
theorem cnt_big : ∀ {ps : List (Nat × Nat)}, (∀ q ∈ ps, 4 ≤ q.1) → cntD ps * cntD ps ≤ prodF ps
  | [], _ => Nat.le_refl 1
  | q :: ps, h => by
    have h1 := cnt_big fun r hr => h r (List.mem_cons_of_mem _ hr)
    have h2 := Nat.le_trans (sq4 q.2) (Nat.pow_le_pow_left (h q List.mem_cons_self) q.2)
    show (q.2 + 1) * cntD ps * ((q.2 + 1) * cntD ps) ≤ q.1 ^ q.2 * prodF ps
    rw [Nat.mul_mul_mul_comm]
    exact Nat.mul_le_mul h2 h1
theorem cnt_step {q : Nat × Nat} {c : Nat} (h2 : 2 ≤ q.1) (h : c * (cntD ps * cntD ps) ≤ 9 * prodF ps) : 4 * c * (cntD (q :: ps) * cntD (q :: ps)) ≤ 9 * 9 * prodF (q :: ps) := by
  have a := Nat.le_trans (sq2 q.2) (Nat.mul_le_mul_left 9 (Nat.pow_le_pow_left h2 q.2))
  show 4 * c * ((q.2 + 1) * cntD ps * ((q.2 + 1) * cntD ps)) ≤ 9 * 9 * (q.1 ^ q.2 * prodF ps)
  rw [Nat.mul_mul_mul_comm (q.2 + 1), Nat.mul_mul_mul_comm 4 c, Nat.mul_mul_mul_comm 9 9]
  exact Nat.mul_le_mul a h
theorem cnt_bound (h : Fac n ps) (hn : n ≤ 1000000000) : cntD ps ≤ 90000 := by
  have main : 16 * (cntD ps * cntD ps) ≤ 81 * prodF ps := by
    match ps, h with
    | [], _ => decide
    | q :: ps, h =>
      have p2 := (h.2.1 q List.mem_cons_self).1.1
      obtain ⟨l1, l2⟩ := List.pairwise_cons.mp h.2.2
      refine cnt_step (c := 4) p2 ?_
      match ps, h, l1, l2 with
      | [], _, _, _ => decide
      | r :: ps, h, l1, l2 =>
        have r3 : 3 ≤ r.1 := by
          have := l1 r List.mem_cons_self
          omega
        obtain ⟨m1, m2⟩ := List.pairwise_cons.mp l2
        have big := cnt_big (ps := ps) fun s hs => by
          have := m1 s hs
          omega
        show 4 * ((r.2 + 1) * cntD ps * ((r.2 + 1) * cntD ps)) ≤ 9 * (r.1 ^ r.2 * prodF ps)
        have a := Nat.le_trans (sq2 r.2) (Nat.mul_le_mul_left 9 (Nat.pow_le_pow_left (show 2 ≤ r.1 by omega) r.2))
        rw [Nat.mul_mul_mul_comm (r.2 + 1), ← Nat.mul_assoc, ← Nat.mul_assoc 9]
        exact Nat.mul_le_mul a big
  rw [← h.1] at main
  rcases Nat.lt_or_ge 90000 (cntD ps) with z | z
  · have := Nat.mul_le_mul (Nat.le_of_lt z) (Nat.le_of_lt z)
    omega
  · exact z
/-- members of dl -/
theorem fac_snoc {q : Nat × Nat} (h : Fac n (ps ++ [q])) : Fac (prodF ps) ps ∧ IsP q.1 ∧ 1 ≤ q.2 ∧ n = prodF ps * q.1 ^ q.2 ∧ Nat.gcd (prodF ps) (q.1 ^ q.2) = 1 := by
  obtain ⟨h1, h2, h3⟩ := h
  obtain ⟨h4, _, h5⟩ := List.pairwise_append.mp h3
  have hp := h2 q (List.mem_append_right _ List.mem_cons_self)
  refine ⟨⟨rfl, fun r hr => h2 r (List.mem_append_left _ hr), h4⟩, hp.1, hp.2, ?_, ?_⟩
  · rw [h1, prodF_app]
    simp [prodF]
  · have c : Nat.Coprime q.1 (prodF ps) := cop_prodF hp.1 fun r hr => ⟨(h2 r (List.mem_append_left _ hr)).1, fun z => by
      have := h5 r hr q List.mem_cons_self
      omega⟩
    exact Nat.Coprime.pow_right _ c.symm
theorem dl_mem : ∀ (k : Nat) {ps : List (Nat × Nat)} {n : Nat}, ps.length = k → Fac n ps → ∀ d, d ∈ dl ps ↔ d ∣ n
  | 0, ps, n, hk, h, d => by
    have : ps = [] := List.length_eq_zero_iff.mp hk
    subst this
    have : n = 1 := h.1
    rw [this, Nat.dvd_one]
    simp [dl]
  | k + 1, ps, n, hk, h, d => by
    rcases List.eq_nil_or_concat ps with rfl | ⟨qs, q, rfl⟩
    · cases hk
    · rw [List.concat_eq_append] at hk h ⊢
      obtain ⟨f1, p1, k1, e1, c1⟩ := fac_snoc h
      have ih := dl_mem k (by simpa using hk) f1
      rw [dl_snoc]
      unfold dlN
      rw [List.mem_flatMap]
      constructor
      · rintro ⟨a, ha, hd⟩
        obtain ⟨j, hj, rfl⟩ := List.mem_map.mp hd
        have := List.mem_range.mp hj
        rw [e1]
        exact Nat.mul_dvd_mul ((ih a).mp ha) (Nat.pow_dvd_pow q.1 (by omega))
      · intro hd
        rw [e1] at hd
        have e2 : d = Nat.gcd d (prodF qs) * Nat.gcd d (q.1 ^ q.2) := by
          rw [← Nat.Coprime.gcd_mul d c1, Nat.gcd_eq_left hd]
        obtain ⟨j, hj, ej⟩ := dvd_pp p1 (Nat.gcd_dvd_right d (q.1 ^ q.2))
        refine ⟨Nat.gcd d (prodF qs), (ih _).mpr (Nat.gcd_dvd_right _ _), List.mem_map.mpr ⟨j, List.mem_range.mpr (by omega), ?_⟩⟩
        rw [← ej]
        exact e2.symm
theorem dl_nodup : ∀ (k : Nat) {ps : List (Nat × Nat)} {n : Nat}, ps.length = k → Fac n ps → (dl ps).Nodup
  | 0, ps, n, hk, h => by
    have : ps = [] := List.length_eq_zero_iff.mp hk
    subst this
    simp [dl]
  | k + 1, ps, n, hk, h => by
    rcases List.eq_nil_or_concat ps with rfl | ⟨qs, q, rfl⟩
    · cases hk
    · rw [List.concat_eq_append] at hk h ⊢
      obtain ⟨f1, p1, k1, e1, c1⟩ := fac_snoc h
      have ih := dl_nodup k (by simpa using hk) f1
      have im := dl_mem k (by simpa using hk) f1
      have pos : ∀ d ∈ dl qs, 0 < d := fun d hd => Nat.pos_of_dvd_of_pos ((im d).mp hd) f1.pos
      -- the parts of a product
      have part : ∀ d ∈ dl qs, ∀ j, Nat.gcd (d * q.1 ^ j) (prodF qs) = d := fun d hd j => by
        have cj : Nat.Coprime (q.1 ^ j) (prodF qs) := by
          have : Nat.Coprime q.1 (prodF qs) := by
            have := gcd_of_dvd c1 (Nat.dvd_refl _) (Nat.dvd_trans (by rw [Nat.pow_one]; exact Nat.dvd_refl _) (Nat.pow_dvd_pow q.1 k1))
            rw [Nat.gcd_comm] at this
            exact this
          exact Nat.Coprime.pow_left _ this
        rw [Nat.Coprime.gcd_mul_right_cancel d cj]
        exact Nat.gcd_eq_left ((im d).mp hd)
      rw [dl_snoc]
      unfold dlN
      have gen : ∀ ds : List Nat, ds.Nodup → (∀ d ∈ ds, d ∈ dl qs) → (ds.flatMap fun d => (List.range (q.2 + 1)).map fun k => d * q.1 ^ k).Nodup := fun ds => by
        induction ds with
        | nil => intro _ _; simp
        | cons d ds ihd =>
          intro hn hm
          rw [List.flatMap_cons, List.nodup_append]
          obtain ⟨n1, n2⟩ := List.nodup_cons.mp hn
          refine ⟨?_, ihd n2 fun x hx => hm x (List.mem_cons_of_mem _ hx), fun x hx y hy e => ?_⟩
          · refine List.Pairwise.map _ (fun a b hab e => hab ?_) List.nodup_range
            have := Nat.eq_of_mul_eq_mul_left (pos d (hm d List.mem_cons_self)) e
            exact pow_inj p1 this
          · obtain ⟨j, _, rfl⟩ := List.mem_map.mp hx
            obtain ⟨c, hc, hy⟩ := List.mem_flatMap.mp hy
            obtain ⟨i, _, rfl⟩ := List.mem_map.mp hy
            have a := part d (hm d List.mem_cons_self) j
            have b := part c (hm c (List.mem_cons_of_mem _ hc)) i
            rw [e, b] at a
            exact n1 (a ▸ hc)
      exact gen _ ih fun d hd => hd
/-- sorted lists of the same members -/
theorem sorted_ext : ∀ {l l' : List Int}, l.Pairwise (· < ·) → l'.Pairwise (· < ·) → (∀ x, x ∈ l ↔ x ∈ l') → l = l'
  | [], [], _, _, _ => rfl
  | [], b :: l', _, _, h => by
    have := (h b).mpr List.mem_cons_self
    cases this
  | a :: l, [], _, _, h => by
    have := (h a).mp List.mem_cons_self
    cases this
  | a :: l, b :: l', h1, h2, h => by
    obtain ⟨a1, a2⟩ := List.pairwise_cons.mp h1
    obtain ⟨b1, b2⟩ := List.pairwise_cons.mp h2
    have ab : a = b := by
      rcases List.mem_cons.mp ((h a).mp List.mem_cons_self) with z | z
      · exact z
      · rcases List.mem_cons.mp ((h b).mpr List.mem_cons_self) with y | y
        · exact y.symm
        · have := a1 b y
          have := b1 a z
          omega
    subst ab
    rw [sorted_ext a2 b2 fun x => ?_]
    constructor
    · intro hx
      rcases List.mem_cons.mp ((h x).mp (List.mem_cons_of_mem _ hx)) with z | z
      · have := a1 x hx
        omega
      · exact z
    · intro hx
      rcases List.mem_cons.mp ((h x).mpr (List.mem_cons_of_mem _ hx)) with z | z
      · have := b1 x hx
        omega
      · exact z
theorem divs_mem (hn : 1 ≤ n) (d : Nat) : d ∈ divs n ↔ d ∣ n := by
  unfold divs
  rw [List.mem_filter, List.mem_map]
  constructor
  · rintro ⟨_, h⟩
    exact mod_dvd.mp (of_decide_eq_true h)
  · intro h
    have d1 : 0 < d := Nat.pos_of_dvd_of_pos h hn
    have d2 := Nat.le_of_dvd hn h
    exact ⟨⟨d - 1, List.mem_range.mpr (by omega), by omega⟩, decide_eq_true (mod_dvd.mpr h)⟩
theorem divs_sorted (n : Nat) : (divs n).Pairwise (· < ·) := by
  unfold divs
  refine List.Pairwise.filter _ (List.Pairwise.map _ (fun a b h => ?_) List.pairwise_lt_range)
  omega
/-- what is sorted of dl is divs -/
theorem sorted_dl (h : Fac n ps) {ms : List Int} (hp : ms.Perm ((dl ps).map fun d : Nat => (d : Int))) (hs : ms.Pairwise (· ≤ ·)) : ms = (divs n).map fun d : Nat => (d : Int) := by
  have nd : ms.Nodup := by
    rw [hp.nodup_iff]
    refine List.Pairwise.map _ (fun a b hab e => hab ?_) (dl_nodup _ rfl h)
    omega
  refine sorted_ext ?_ ?_ fun x => ?_
  · refine (hs.and nd).imp fun {a b} hab => ?_
    have := hab.1
    have := hab.2
    omega
  · refine List.Pairwise.map _ (fun a b hab => ?_) (divs_sorted n)
    omega
  · rw [hp.mem_iff, List.mem_map, List.mem_map]
    constructor
    · rintro ⟨d, hd, rfl⟩
      exact ⟨d, (divs_mem h.pos d).mpr ((dl_mem _ rfl h d).mp hd), rfl⟩
    · rintro ⟨d, hd, rfl⟩
      exact ⟨d, (dl_mem _ rfl h d).mpr ((divs_mem h.pos d).mp hd), rfl⟩
end
end Sv

set_option Elab.async false
set_option linter.all false
set_option maxRecDepth 100000
set_option maxHeartbeats 4000000
/-! MFac3: each number has its primes. -/
namespace Sv
theorem least_div {n : Nat} (hn : 2 ≤ n) : ∃ d, 2 ≤ d ∧ d ∣ n ∧ ∀ e, 2 ≤ e → e ∣ n → d ≤ e := by
  have main : ∀ k d, d ≤ k → 2 ≤ d → d ∣ n → ∃ d, 2 ≤ d ∧ d ∣ n ∧ ∀ e, 2 ≤ e → e ∣ n → d ≤ e := fun k => by
    induction k with
    | zero => intro d h1 h2; omega
    | succ k ih =>
      intro d h1 h2 h3
      by_cases z : ∃ e, 2 ≤ e ∧ e ∣ n ∧ e < d
      · obtain ⟨e, e2, en, ed⟩ := z
        exact ih e (by omega) e2 en
      · refine ⟨d, h2, h3, fun e e2 en => ?_⟩
        rcases Nat.lt_or_ge e d with y | y
        · exact absurd ⟨e, e2, en, y⟩ z
        · exact y
  exact main n n (Nat.le_refl n) hn (Nat.dvd_refl n)
theorem max_pow {d : Nat} (hd : 2 ≤ d) : ∀ k n, n ≤ k → 1 ≤ n → ∃ e m, n = d ^ e * m ∧ ¬ d ∣ m := fun k => by
  induction k with
  | zero => intro n h1 h2; omega
  | succ k ih =>
    intro n h1 h2
    by_cases z : d ∣ n
    · obtain ⟨c, rfl⟩ := z
      have c1 : 1 ≤ c := by
        rcases Nat.eq_zero_or_pos c with y | y
        · rw [y] at h2
          omega
        · exact y
      have : 2 * c ≤ d * c := Nat.mul_le_mul_right c hd
      obtain ⟨e, m, h3, h4⟩ := ih c (by omega) c1
      exact ⟨e + 1, m, by rw [h3, Nat.pow_succ, Nat.mul_comm (d ^ e) d, Nat.mul_assoc], h4⟩
    · exact ⟨0, n, by simp, z⟩
theorem fac_ex' : ∀ k n, n ≤ k → 1 ≤ n → ∃ ps, Fac n ps ∧ ∀ p, (∀ d, 2 ≤ d → d ∣ n → p ≤ d) → ∀ q ∈ ps, p ≤ q.1 := fun k => by
  induction k with
  | zero => intro n h1 h2; omega
  | succ k ih =>
    intro n h1 h2
    by_cases e : n = 1
    · subst e
      exact ⟨[], ⟨rfl, fun _ h => (by cases h), .nil⟩, fun _ _ _ h => (by cases h)⟩
    · obtain ⟨d, d2, dn, dl⟩ := least_div (n := n) (by omega)
      obtain ⟨j, m, hm, nd⟩ := max_pow d2 n n (Nat.le_refl n) h2
      have pd : IsP d := ⟨d2, fun c c2 cd => by
        have a := dl c c2 (Nat.dvd_trans cd dn)
        have b := Nat.le_of_dvd (by omega) cd
        omega⟩
      have j1 : 1 ≤ j := by
        rcases Nat.eq_zero_or_pos j with z | z
        · subst z
          rw [Nat.pow_zero, Nat.one_mul] at hm
          rw [hm] at dn
          exact absurd dn nd
        · exact z
      have m1 : 1 ≤ m := by
        rcases Nat.eq_zero_or_pos m with z | z
        · rw [z] at nd
          exact absurd (Nat.dvd_zero d) nd
        · exact z
      have pw : 2 ≤ d ^ j := Nat.le_trans d2 (by
        calc d = d ^ 1 := (Nat.pow_one _).symm
          _ ≤ d ^ j := Nat.pow_le_pow_right (by omega) j1)
      have lt : 2 * m ≤ n := by
        rw [hm]
        exact Nat.mul_le_mul_right m pw
      obtain ⟨ps, hF, hl⟩ := ih m (by omega) m1
      have big : ∀ q ∈ ps, d + 1 ≤ q.1 := hl (d + 1) fun c c2 cm => by
        have a := dl c c2 (Nat.dvd_trans cm ⟨d ^ j, by rw [hm, Nat.mul_comm]⟩)
        rcases Nat.lt_or_ge d c with z | z
        · exact z
        · have : c = d := by omega
          exact absurd (this ▸ cm) nd
      refine ⟨(d, j) :: ps, ⟨?_, fun q hq => ?_, List.pairwise_cons.mpr ⟨fun q hq => big q hq, hF.2.2⟩⟩, fun p hp q hq => ?_⟩
      · rw [hm, hF.1]
        rfl
      · rcases List.mem_cons.mp hq with rfl | hq
        · exact ⟨pd, j1⟩
        · exact hF.2.1 q hq
      · have a := hp d d2 dn
        rcases List.mem_cons.mp hq with rfl | hq
        · exact a
        · have := big q hq
          omega
theorem fac_ex {n : Nat} (hn : 1 ≤ n) : ∃ ps, Fac n ps := by
  obtain ⟨ps, h, _⟩ := fac_ex' n n (Nat.le_refl n) hn
  exact ⟨ps, h⟩
end Sv

set_option Elab.async false
set_option linter.all false
set_option maxRecDepth 100000
set_option maxHeartbeats 4000000
/-! MFac4: one more prime; few primes, few divisors. -/
namespace Sv
def ins (p : Nat) : List (Nat × Nat) → List (Nat × Nat)
  | [] => [(p, 1)]
  | q :: ps => if p = q.1 then (q.1, q.2 + 1) :: ps else if p < q.1 then (p, 1) :: q :: ps else q :: ins p ps
theorem ins_mem {p : Nat} : ∀ {ps : List (Nat × Nat)} {r : Nat × Nat}, r ∈ ins p ps → r = (p, 1) ∨ (∃ q ∈ ps, r.1 = q.1 ∧ 1 ≤ r.2 + 0 ∧ q.2 ≤ r.2)∨ r.2 = 0
  | [], r, h => .inl (List.mem_singleton.mp h)
  | q :: ps, r, h => by
    unfold ins at h
    split at h
    · rcases List.mem_cons.mp h with rfl | h
      · exact .inr (.inl ⟨q, List.mem_cons_self, rfl, by show 1 ≤ q.2 + 1 + 0; omega, by show q.2 ≤ q.2 + 1; omega⟩)
      · rcases Nat.eq_zero_or_pos r.2 with z | z
        · exact .inr (.inr z)
        · exact .inr (.inl ⟨r, List.mem_cons_of_mem _ h, rfl, by omega, Nat.le_refl _⟩)
    · split at h
      · rcases List.mem_cons.mp h with rfl | h
        · exact .inl rfl
        · rcases Nat.eq_zero_or_pos r.2 with z | z
          · exact .inr (.inr z)
          · exact .inr (.inl ⟨r, h, rfl, by omega, Nat.le_refl _⟩)
      · rcases List.mem_cons.mp h with rfl | h
        · rcases Nat.eq_zero_or_pos r.2 with z | z
          · exact .inr (.inr z)
          · exact .inr (.inl ⟨r, List.mem_cons_self, rfl, by omega, Nat.le_refl _⟩)
        · rcases ins_mem h with h | ⟨s, hs, h1, h2, h3⟩ | h
          · exact .inl h
          · exact .inr (.inl ⟨s, List.mem_cons_of_mem _ hs, h1, h2, h3⟩)
          · exact .inr (.inr h)
theorem ins_prod {p : Nat} : ∀ ps : List (Nat × Nat), prodF (ins p ps) = prodF ps * p
  | [] => by simp [ins, prodF]
  | q :: ps => by
    unfold ins
    split
    · rename_i h
      show q.1 ^ (q.2 + 1) * prodF ps = q.1 ^ q.2 * prodF ps * p
      rw [h, Nat.pow_succ, Nat.mul_assoc, Nat.mul_assoc, Nat.mul_comm q.1]
    · split
      · show p ^ 1 * (q.1 ^ q.2 * prodF ps) = q.1 ^ q.2 * prodF ps * p
        rw [Nat.pow_one, Nat.mul_comm]
      · show q.1 ^ q.2 * prodF (ins p ps) = q.1 ^ q.2 * prodF ps * p
        rw [ins_prod ps, Nat.mul_assoc]
theorem ins_cnt {p : Nat} : ∀ ps : List (Nat × Nat), cntE (ins p ps) = cntE ps + 1
  | [] => rfl
  | q :: ps => by
    have e : ∀ (r : Nat × Nat) (l : List (Nat × Nat)), cntE (r :: l) = r.2 + cntE l := fun r l => by
      unfold cntE
      rw [List.map_cons, List.sum_cons]
    unfold ins
    split
    · rw [e, e]
      show q.2 + 1 + _ = _
      omega
    · split
      · rw [e]
        show 1 + _ = _
        omega
      · rw [e, e, ins_cnt ps]
        omega
theorem ins_gt {p b : Nat} (hb : b < p) : ∀ {ps : List (Nat × Nat)}, (∀ q ∈ ps, b < q.1) → ∀ q ∈ ins p ps, b < q.1
  | [], _, q, hq => by
    rw [List.mem_singleton.mp hq]
    exact hb
  | r :: ps, h, q, hq => by
    unfold ins at hq
    split at hq
    · rcases List.mem_cons.mp hq with rfl | hq
      · exact h r List.mem_cons_self
      · exact h q (List.mem_cons_of_mem _ hq)
    · split at hq
      · rcases List.mem_cons.mp hq with rfl | hq
        · exact hb
        · exact h q hq
      · rcases List.mem_cons.mp hq with rfl | hq
        · exact h q List.mem_cons_self
        · exact ins_gt hb (fun s hs => h s (List.mem_cons_of_mem _ hs)) q hq
theorem ins_sorted {p : Nat} : ∀ {ps : List (Nat × Nat)}, ps.Pairwise (fun a b => a.1 < b.1) → (ins p ps).Pairwise (fun a b => a.1 < b.1)
  | [], _ => List.pairwise_singleton _ _
  | q :: ps, h => by
    obtain ⟨h1, h2⟩ := List.pairwise_cons.mp h
    unfold ins
    split
    · exact List.pairwise_cons.mpr ⟨h1, h2⟩
    · rename_i n1
      split
      · rename_i n2
        refine List.pairwise_cons.mpr ⟨fun r hr => ?_, h⟩
        rcases List.mem_cons.mp hr with rfl | hr
        · exact n2
        · exact Nat.lt_trans n2 (h1 r hr)
      · rename_i n2
        exact List.pairwise_cons.mpr ⟨ins_gt (by omega) h1, ins_sorted h2⟩
theorem ins_ok {p : Nat} (hp : IsP p) : ∀ {ps : List (Nat × Nat)}, (∀ q ∈ ps, IsP q.1 ∧ 1 ≤ q.2) → ∀ q ∈ ins p ps, IsP q.1 ∧ 1 ≤ q.2
  | [], _, q, hq => by
    rw [List.mem_singleton.mp hq]
    exact ⟨hp, Nat.le_refl 1⟩
  | r :: ps, h, q, hq => by
    unfold ins at hq
    split at hq
    · rcases List.mem_cons.mp hq with rfl | hq
      · exact ⟨(h r List.mem_cons_self).1, Nat.succ_pos _⟩
      · exact h q (List.mem_cons_of_mem _ hq)
    · split at hq
      · rcases List.mem_cons.mp hq with rfl | hq
        · exact ⟨hp, Nat.le_refl 1⟩
        · exact h q hq
      · rcases List.mem_cons.mp hq with rfl | hq
        · exact h q List.mem_cons_self
        · exact ins_ok hp (fun s hs => h s (List.mem_cons_of_mem _ hs)) q hq
/-- n p, of one prime more -/
theorem fac_ins {n p : Nat} {ps : List (Nat × Nat)} (h : Fac n ps) (hp : IsP p) : Fac (n * p) (ins p ps) := ⟨by rw [ins_prod, ← h.1], ins_ok hp h.2.1, ins_sorted h.2.2⟩
theorem cntD_two : ∀ {ps : List (Nat × Nat)}, cntD ps ≤ 2 ^ cntE ps
  | [] => Nat.le_refl 1
  | q :: ps => by
    have e : cntE (q :: ps) = q.2 + cntE ps := by
      unfold cntE
      rw [List.map_cons, List.sum_cons]
    rw [e, Nat.pow_add]
    exact Nat.mul_le_mul (Nat.lt_two_pow_self) cntD_two
end Sv

set_option Elab.async false
set_option linter.all false
set_option maxRecDepth 100000
set_option maxHeartbeats 4000000
namespace Sv
open PySem PySem.Spec PyProof.Rows L2 Evl
local macro_rules | `(tactic| walk_at "ev") => `(tactic| (repeat' (first | exact ev_var rfl | exact ev_c | exact rv_I0 | exact ea_nil | exact ru_neg | exact rv_eq rfl | exact rv_ne rfl | apply ev_op | apply rv_I | apply ev_un | apply et_test | apply et_B | apply et_not | apply ea_cons | apply ev_maxI | apply ev_minI)))
/-! ### a cell of the script, a drawn number -/
def cellS (ns : List Int) (k : Nat) : Int := if ns = [] then (k : Int) * 7919 else ns.getD (k % ns.length) 0 + ((k / ns.length : Nat) : Int) * 104729
def dP1 : Int := 340282366920938463463374607431768211507
def drawn (c k : Int) : Int :=
  let m1 := (c * 6364136223846793005 + (k + 1) * 1442695040888963407) % 340282366920938463463374607431768211507
  let m2 := m1 * m1 % 340282366920938463463374607431768211297
  let m3 := (m2 % 18446744073709551557 + 1) * (m2 / 18446744073709551557 + 1) * m2
  m3 % 340282366920938463463374607431768211507
theorem drawn_nn (c k : Int) : 0 ≤ drawn c k := Int.emod_nonneg _ (by decide)
theorem drawn_lt (c k : Int) : drawn c k < 340282366920938463463374607431768211507 := Int.emod_lt_of_pos _ (by decide)
def R__law_cell (G : Pm) : R2' := fun x y H Q _ => ∃ (a : Addr) (ns : List Int) (k : Nat), x = .ref a ∧ y = .int (k : Int) ∧ SqL G.K H a (ns.map V.int) ∧ ns.length ≤ 63 ∧ k ≤ 1000 ∧ RetV (.int (cellS ns k)) H Q
def R__law_drawn (G : Pm) : R2' := fun x y H Q _ => ∃ c k : Int, x = .int c ∧ y = .int k ∧ 0 ≤ k ∧ k ≤ 1000000 ∧ RetV (.int (drawn c k)) H Q
abbrev n__law_cell : List Str := ["_law_script", "_law_k"]
abbrev p__law_cell : List Str := ["_law_script", "_law_k"]
def sp__law_cell (G : Pm) : Sp := sp2 (R__law_cell G)
def t__law_cell (G : Pm) (E : XK) : TS :=
  (tSeq (tIfS (tTest (tOp (rEqD G.K) (tVar 0) (tLst tNil)))
  (tRet (tOp oMul (tVar 1) (tC (.int 7919))))
  tNext)
  (tRet (tOp oAdd (tOp (rIxL G.K) (tVar 0) (tOp oMod (tVar 1) (tCB (bLenQ G.K) (tCons (tVar 0) tNil)))) (tOp oMul (tOp oDiv (tVar 1) (tCB (bLenQ G.K) (tCons (tVar 0) tNil))) (tC (.int 104729))))))
def P__law_cell (G : Pm) : Prop := ∀ x0 x1 H Q E, R__law_cell G x0 x1 H Q E → t__law_cell G E (dn Q) (start n__law_cell [x0, x1]) H
abbrev n__law_drawn : List Str := ["_law_cell_here", "_law_k", "_law_more"]
abbrev p__law_drawn : List Str := ["_law_cell_here", "_law_k"]
def sp__law_drawn (G : Pm) : Sp := sp2 (R__law_drawn G)
def t__law_drawn (G : Pm) (E : XK) : TS :=
  (tSeq (tAsg (tOp oMod (tOp oAdd (tOp oMul (tVar 0) (tC (.int 6364136223846793005))) (tOp oMul (tOp oAdd (tVar 1) (tC (.int 1))) (tC (.int 1442695040888963407)))) (tC (.int 340282366920938463463374607431768211507))) (gName 2))
  (tSeq (tAsg (tOp oMod (tOp oMul (tVar 2) (tVar 2)) (tC (.int 340282366920938463463374607431768211297))) (gName 2))
  (tSeq (tAsg (tOp oMul (tOp oMul (tOp oAdd (tOp oMod (tVar 2) (tC (.int 18446744073709551557))) (tC (.int 1))) (tOp oAdd (tOp oDiv (tVar 2) (tC (.int 18446744073709551557))) (tC (.int 1)))) (tVar 2)) (gName 2))
  (tRet (tOp oMod (tVar 2) (tC (.int 340282366920938463463374607431768211507)))))))
def P__law_drawn (G : Pm) : Prop := ∀ x0 x1 H Q E, R__law_drawn G x0 x1 H Q E → t__law_drawn G E (dn Q) (start n__law_drawn [x0, x1]) H
theorem cm_r {i j : Int} (h1 : -(2 ^ 64) < j) (h2 : j < 2 ^ 64) : CM i j := .inl (.inr ⟨h1, h2⟩)
theorem cm_l {i j : Int} (h1 : -(2 ^ 64) < i) (h2 : i < 2 ^ 64) : CM i j := .inl (.inl ⟨h1, h2⟩)
theorem cdiv_w {i j : Int} (h : 0 < j) (h2 : j < 2 ^ 62) : CDivW i j := wide_div (b := 62) h (by omega) (by decide) (by decide)
theorem pure__law_cell (G : Pm) : P__law_cell G := by
  intro x0 x1 H Q E h
  obtain ⟨a, ns, k, rfl, rfl, hS, hl, hk, q⟩ := h
  refine q_when (b := decide (ns = [])) ?_ (fun hb H1 e1 => ?_) (fun hb H1 e1 => ?_)
  · refine et_test (ev_is (ev_opL (ev_var rfl) (el_lst ea_nil (Nat.zero_le _)) fun p H1 h1 e1 => rv_eqD (dp_il (ex_l e1 hS)) (dp_il (ns := []) (sq_of h1)) (sh_il _) (sh_il _)) ?_)
    rw [eqv_il]
  · have e0 : ns = [] := of_decide_eq_true hb
    refine s_ret (v := .int ((k : Int) * 7919)) ?_ fun H2 e2 => ?_
    · walk_at "ev"
      exact cm_r (by decide) (by decide)
    · have := q.go (e1.trans e2)
      unfold cellS at this
      rw [if_pos e0] at this
      exact this
  · have e0 : ns ≠ [] := of_decide_eq_false hb
    have lp : 0 < ns.length := List.length_pos_iff.mpr e0
    have lq : (0 : Int) < ((ns.map V.int).length : Int) := by
      rw [List.length_map]
      omega
    have hS1 := ex_l e1 hS
    have hm : k % ns.length < ns.length := Nat.mod_lt _ lp
    refine s_ret (v := .int (cellS ns k)) ?_ fun H2 e2 => q.go (e1.trans e2)
    refine ev_is (ev_op (ev_op (ev_var rfl) (ev_op (ev_var rfl) (ev_lenL (ev_var rfl) hS1) (rv_I lq)) (rv_ixL hS1 (v := .int (ns.getD (k % ns.length) 0)) ?_)) (ev_op (ev_op (ev_var rfl) (ev_lenL (ev_var rfl) hS1) (rv_I (cdiv_w lq ?_))) ev_c (rv_I (cm_r (by decide) (by decide)))) rv_I0) ?_
    · rw [List.length_map, ← Int.natCast_emod]
      refine atI_nat ?_
      rw [List.getElem?_map, List.getElem?_eq_getElem hm, List.getD_eq_getElem?_getD, List.getElem?_eq_getElem hm]
      rfl
    · rw [List.length_map]
      omega
    · rw [List.length_map, ← Int.natCast_ediv]
      unfold cellS
      rw [if_neg e0]
theorem two_128 : (340282366920938463463374607431768211507 : Int) < 2 ^ 129 := by decide
theorem na_lt {i : Int} {n : Nat} (h0 : 0 ≤ i) (h : i < 2 ^ n) : i.natAbs < 2 ^ n := by
  have e : ((2 ^ n : Nat) : Int) = (2 : Int) ^ n := by
    rw [Int.natCast_pow]
    rfl
  omega
theorem pure__law_drawn (G : Pm) : P__law_drawn G := by
  intro x0 x1 H Q E h
  obtain ⟨c, k, rfl, rfl, k0, k1, q⟩ := h
  have a0 : 0 ≤ (c * 6364136223846793005 + (k + 1) * 1442695040888963407) % 340282366920938463463374607431768211507 := Int.emod_nonneg _ (by decide)
  have a1 : (c * 6364136223846793005 + (k + 1) * 1442695040888963407) % 340282366920938463463374607431768211507 < 2 ^ 129 := Int.lt_trans (Int.emod_lt_of_pos _ (by decide)) two_128
  refine q_asg (v := .int ((c * 6364136223846793005 + (k + 1) * 1442695040888963407) % 340282366920938463463374607431768211507)) ?_ fun H1 e1 => ?_
  · walk_at "ev"
    · exact cm_r (by decide) (by decide)
    · exact cm_r (by decide) (by decide)
    · decide
  generalize hm1 : (c * 6364136223846793005 + (k + 1) * 1442695040888963407) % 340282366920938463463374607431768211507 = m1 at *
  have b0 : 0 ≤ m1 * m1 % 340282366920938463463374607431768211297 := Int.emod_nonneg _ (by decide)
  have b1 : m1 * m1 % 340282366920938463463374607431768211297 < 340282366920938463463374607431768211297 := Int.emod_lt_of_pos _ (by decide)
  refine q_asg (v := .int (m1 * m1 % 340282366920938463463374607431768211297)) ?_ fun H2 e2 => ?_
  · walk_at "ev"
    · exact .inr (wide_mul (a := 129) (b := 129) (na_lt a0 a1) (na_lt a0 a1) (by decide) (by decide) (by decide))
    · decide
  generalize hm2 : m1 * m1 % 340282366920938463463374607431768211297 = m2 at *
  refine q_asg (v := .int ((m2 % 18446744073709551557 + 1) * (m2 / 18446744073709551557 + 1) * m2)) ?_ fun H3 e3 => ?_
  · have d0 : 0 ≤ m2 % 18446744073709551557 := Int.emod_nonneg _ (by decide)
    have d1 : m2 % 18446744073709551557 < 18446744073709551557 := Int.emod_lt_of_pos _ (by decide)
    have f0 : 0 ≤ m2 / 18446744073709551557 := by omega
    have f1 : m2 / 18446744073709551557 < 2 ^ 65 := by omega
    walk_at "ev"
    · decide
    · exact wide_div (b := 64) (by decide) (by decide) (by decide) (by decide)
    · exact cm_l (by omega) (by omega)
    · refine .inr (wide_mul (a := 200) (b := 129) (Nat.lt_of_lt_of_le (wide_lt (a := 65) (b := 66) (na_lt (by omega) (by omega)) (na_lt (by omega) (by omega))) (by decide)) (na_lt b0 (by omega)) (by decide) (by decide) (by decide))
  refine s_ret (v := .int (drawn c k)) ?_ fun H4 e4 => q.go (((e1.trans e2).trans e3).trans e4)
  refine ev_is (v := .int ((m2 % 18446744073709551557 + 1) * (m2 / 18446744073709551557 + 1) * m2 % 340282366920938463463374607431768211507)) ?_ ?_
  · walk_at "ev"
    decide
  · unfold drawn
    rw [hm1]
    dsimp only
    rw [hm2]
end Sv

set_option Elab.async false
set_option linter.all false
set_option maxRecDepth 100000
set_option maxHeartbeats 4000000
namespace Sv
open PySem PySem.Spec PyProof.Rows L2 Evl HotX L2H LamX
local macro_rules | `(tactic| walk_at "ev") => `(tactic| (repeat' (first | exact ev_var rfl | exact ev_c | exact rv_I0 | exact ea_nil | exact ru_neg | exact rv_eq rfl | exact rv_ne rfl | apply ev_op | apply rv_I | apply ev_un | apply et_test | apply et_B | apply et_not | apply ea_cons | apply ev_maxI | apply ev_minI)))
/-- a refusal -/
def No (C : Addr) (H : Hp) (E : XK) : Prop := ∀ H', Ex H H' → E (.ref C) none H'
theorem No.ex {C : Addr} {H H' : Hp} {E : XK} (e : Ex H H') (h : No C H E) : No C H' E := fun H1 e1 => h H1 (e.trans e1)
theorem RetV.ex {v : V} {H H' : Hp} {Q : VK} (e : Ex H H') (h : RetV v H Q) : RetV v H' Q := fun H1 e1 => h H1 (e.trans e1)
theorem RetL.ex {xs : List V} {H H' : Hp} {Q : VK} (e : Ex H H') (h : RetL xs H Q) : RetL xs H' Q := fun p H1 hp e1 h1 => h p H1 (fresh_back e hp) (e.trans e1) h1
/-! ### numbers and what is none -/
def NumBad (x : V) (lo hi : Int) : Prop := x = .non ∨ (∃ b, x = .bl b) ∨ (∃ s, x = .str s) ∨ ∃ i : Int, x = .int i ∧ ¬ (lo ≤ i ∧ i ≤ hi)
def R_need_number (G : Pm) : R3 := fun x y z H Q E => ∃ lo hi : Int, y = .int lo ∧ z = .int hi ∧ ((∃ i : Int, x = .int i ∧ lo ≤ i ∧ i ≤ hi ∧ RetV .non H Q) ∨ (NumBad x lo hi ∧ No G.BadNumber H E))
/-! ### lists of pairs of numbers -/
inductive Rows (K : PySem.W.Frag) (H : Hp) : List V → List (Nat × Nat) → Prop
  | nil : Rows K H [] []
  | cons {t : Addr} {p : Nat × Nat} {xs : List V} {ps : List (Nat × Nat)} : SqT K H t [.int (p.1 : Int), .int (p.2 : Int)] → Rows K H xs ps → Rows K H (.ref t :: xs) (p :: ps)
theorem Rows.ex {K : PySem.W.Frag} {H H' : Hp} (e : Ex H H') : ∀ {xs : List V} {ps : List (Nat × Nat)}, Rows K H xs ps → Rows K H' xs ps
  | _, _, .nil => .nil
  | _, _, .cons h r => .cons (ex_t e h) (r.ex e)
theorem Rows.len {K : PySem.W.Frag} {H : Hp} : ∀ {xs : List V} {ps : List (Nat × Nat)}, Rows K H xs ps → xs.length = ps.length
  | _, _, .nil => rfl
  | _, _, .cons _ r => congrArg (· + 1) r.len
theorem Rows.app {K : PySem.W.Frag} {H : Hp} : ∀ {xs ys : List V} {ps qs : List (Nat × Nat)}, Rows K H xs ps → Rows K H ys qs → Rows K H (xs ++ ys) (ps ++ qs)
  | _, _, _, _, .nil, s => s
  | _, _, _, _, .cons h r, s => .cons h (r.app s)
theorem Rows.rev {K : PySem.W.Frag} {H : Hp} : ∀ {xs : List V} {ps : List (Nat × Nat)}, Rows K H xs ps → Rows K H xs.reverse ps.reverse
  | _, _, .nil => .nil
  | _, _, .cons h r => by
    rw [List.reverse_cons, List.reverse_cons]
    exact r.rev.app (.cons h .nil)
theorem Rows.at {K : PySem.W.Frag} {H : Hp} : ∀ {xs : List V} {ps : List (Nat × Nat)} {i : Nat} {x : V}, Rows K H xs ps → xs[i]? = some x → ∃ t p, x = .ref t ∧ ps[i]? = some p ∧ SqT K H t [.int (p.1 : Int), .int (p.2 : Int)]
  | _, _, _, _, .nil, h => by simp at h
  | _, _, 0, x, .cons (t := t) (p := p) h r, e => by
    simp at e
    exact ⟨t, p, e.symm, rfl, h⟩
  | _, _, i + 1, x, .cons h r, e => r.at (by simpa using e)
def pd (p : Nat × Nat) : PyData := .tuple [.int (p.1 : Int), .int (p.2 : Int)]
theorem Rows.dp {K : PySem.W.Frag} {H : Hp} : ∀ {xs : List V} {ps : List (Nat × Nat)}, Rows K H xs ps → DpAll K H xs (ps.map pd)
  | _, _, .nil => .nil
  | _, _, .cons h r => .cons (.tup h (.cons (.int _) (.cons (.int _) .nil))) r.dp
theorem can_pd : ∀ ps : List (Nat × Nat), PyData.canLayAll0 (ps.map pd) = true
  | [] => by simp [PyData.canLayAll0]
  | p :: ps => by simp [PyData.canLayAll0, PyData.canLay0, pd, can_pd ps]
theorem dep_pd : ∀ ps : List (Nat × Nat), PyData.depthAll (ps.map pd) ≤ 1
  | [] => by simp [PyData.depthAll]
  | p :: ps => by
    have := dep_pd ps
    simp [PyData.depthAll, PyData.depth, pd] at *
    omega
theorem sh_rows (ps : List (Nat × Nat)) : SeqAt.shaped (.list (ps.map pd)) = true := by
  have := dep_pd ps
  simp [SeqAt.shaped, PyData.canLay0, PyData.depth, can_pd]
  omega
def RowsAt (K : PySem.W.Frag) (H : Hp) (a : Addr) (ps : List (Nat × Nat)) : Prop := ∃ xs, SqL K H a xs ∧ Rows K H xs ps
theorem RowsAt.ex {K : PySem.W.Frag} {H H' : Hp} {a : Addr} {ps : List (Nat × Nat)} (e : Ex H H') (h : RowsAt K H a ps) : RowsAt K H' a ps := by
  obtain ⟨xs, h1, h2⟩ := h
  exact ⟨xs, ex_l e h1, h2.ex e⟩
/-! ### numbers and their primes: the specs -/
def NMS : List Str := ["unit", "one", "self", "many", "sum", "shares", "free", "mark", "even", "prime"]
def strOf : Value → Option Str
  | .str s _ => some s
  | _ => none
def namesB (K : PySem.W.Frag) (a : Addr) (ns : List Str) : Bool := match K.lookup a with
  | some ⟨c, _, .seq its _, _⟩ => decide (c = .type "tuple") && (decide (its.size ≤ 1000) && decide (its.toList.map strOf = ns.map some))
  | _ => false
theorem vals_strs : ∀ {us : List Value} {ns : List Str}, us.map strOf = ns.map some → Vals (ns.map V.str) us
  | [], [], _ => .nil
  | [], n :: ns, h => by cases h
  | u :: us, [], h => by cases h
  | u :: us, n :: ns, h => by
    rw [List.map_cons, List.map_cons] at h
    obtain ⟨h1, h2⟩ := List.cons.inj h
    refine .cons ?_ (vals_strs h2)
    cases u <;> first | (cases h1; exact ⟨_, rfl⟩) | (cases h1)
theorem names_of {K : PySem.W.Frag} {a : Addr} {ns : List Str} (h : namesB K a ns = true) (H : Hp) : SqT K H a (ns.map V.str) := by
  unfold namesB at h
  split at h
  · rename_i c d its n sl e
    simp only [Bool.and_eq_true, decide_eq_true_eq] at h
    exact .inr ⟨_, its, n, e, h.1, rfl, Nat.le_trans h.2.1 (by decide), vals_strs h.2.2⟩
  · cases h
def NameBad (x : V) : Prop := flatV x = true ∧ inV x (NMS.map V.str) = false
def isN (x : V) (i : Nat) : Prop := ∃ s, NMS[i]? = some s ∧ x = .str s
def R_need_name (G : Pm) : R1 := fun x H Q E => ((∃ i, isN x i) ∧ RetV .non H Q) ∨ (NameBad x ∧ No G.BadName H E)
def RetRows (G : Pm) (ps : List (Nat × Nat)) (H : Hp) (Q : VK) : Prop := ∀ p xs H2, H p = none → Ex H H2 → H2 p = some (.lst xs) → Rows G.K H2 xs ps → Q (.ref p) H2
abbrev isZ (x : V) (n : Nat) : Prop := x = .int (n : Int) ∧ 1 ≤ n ∧ n ≤ 1000000000
def R_apart (G : Pm) : R1 := fun x H Q _ => ∃ n, isZ x n ∧ ∀ ps, Fac n ps → RetRows G ps H Q
def R_primes_of (G : Pm) : R1 := fun x H Q E => (∃ n, isZ x n ∧ ∀ ps, Fac n ps → RetRows G ps H Q) ∨ (NumBad x 1 1000000000 ∧ No G.BadNumber H E)
def R_power (_ : Pm) : R2' := fun x y H Q _ => ∃ b k : Nat, x = .int (b : Int) ∧ b ≤ 1000000000 ∧ y = .int (k : Int) ∧ k ≤ 40000 ∧ RetV (.int ((b ^ k : Nat) : Int)) H Q
abbrev n_need_number : List Str := ["number", "least", "most"]
abbrev p_need_number : List Str := ["number", "least", "most"]
def sp_need_number (G : Pm) : Sp := sp3 (R_need_number G)
def t_need_number (G : Pm) (E : XK) : TS :=
  (tIfS (tOr (tNot (tB (tCB (rIsi G.K) (tCons (tVar 0) (tCons (tC (.ty "int")) tNil))))) (tOr (tB (tCB (rIsi G.K) (tCons (tVar 0) (tCons (tC (.ty "bool")) tNil)))) (tNot (tTest (tChain cLe cLe (tVar 1) (tVar 0) (tVar 2))))))
  (tRaise G.BadNumber E)
  tNext)
def P_need_number (G : Pm) : Prop := ∀ x0 x1 x2 H Q E, R_need_number G x0 x1 x2 H Q E → t_need_number G E (dn Q) (start n_need_number [x0, x1, x2]) H
abbrev n_need_name : List Str := ["name"]
abbrev p_need_name : List Str := ["name"]
def sp_need_name (G : Pm) : Sp := sp1 (R_need_name G)
def t_need_name (G : Pm) (E : XK) : TS :=
  (tIfS (tTest (tOp (rIn G.K true) (tVar 0) (tC (.ref G.NAMES))))
  (tRaise G.BadName E)
  tNext)
def P_need_name (G : Pm) : Prop := ∀ x0 H Q E, R_need_name G x0 H Q E → t_need_name G E (dn Q) (start n_need_name [x0]) H
abbrev n_apart : List Str := ["number", "found", "prime", "often"]
abbrev p_apart : List Str := ["number"]
def sp_apart (G : Pm) : Sp := sp1 (R_apart G)
def t_apart (G : Pm) (E : XK) : TS :=
  (tSeq (tAsg (tLst tNil) (gName 1))
  (tSeq (tAsg (tC (.int 2)) (gName 2))
  (tSeq (tWhile (tTest (tOp cLe (tOp oMul (tVar 2) (tVar 2)) (tVar 0)))
  (tSeq (tAsg (tC (.int 0)) (gName 3))
  (tSeq (tWhile (tTest (tOp rEq (tOp oMod (tVar 0) (tVar 2)) (tC (.int 0))))
  (tSeq (tAsg (tOp oDiv (tVar 0) (tVar 2)) (gName 0))
  (tAsg (tOp oAdd (tVar 3) (tC (.int 1))) (gName 3))))
  (tSeq (tIfS (tTest (tOp cGt (tVar 3) (tC (.int 0))))
  (tDrop (tBM G.K "list" rAppend (tVar 1) (tCons (tTup (tCons (tVar 2) (tCons (tVar 3) tNil))) tNil)))
  tNext)
  (tAsg (tOp oAdd (tVar 2) (tC (.int 1))) (gName 2))))))
  (tSeq (tIfS (tTest (tOp cGt (tVar 0) (tC (.int 1))))
  (tDrop (tBM G.K "list" rAppend (tVar 1) (tCons (tTup (tCons (tVar 0) (tCons (tC (.int 1)) tNil))) tNil)))
  tNext)
  (tRet (tVar 1))))))
def P_apart (G : Pm) : Prop := ∀ x0 H Q E, R_apart G x0 H Q E → t_apart G E (dn Q) (start n_apart [x0]) H
abbrev n_primes_of : List Str := ["number"]
abbrev p_primes_of : List Str := ["number"]
def sp_primes_of (G : Pm) : Sp := sp1 (R_primes_of G)
def t_primes_of (G : Pm) (E : XK) : TS :=
  (tSeq (tDrop (tCall (sp_need_number G) [] E (tCons (tVar 0) (tCons (tC (.int 1)) (tCons (tC (.int 1000000000)) tNil)))))
  (tRet (tCall (sp_apart G) [] E (tCons (tVar 0) tNil))))
def P_primes_of (G : Pm) : Prop := ∀ x0 H Q E, R_primes_of G x0 H Q E → t_primes_of G E (dn Q) (start n_primes_of [x0]) H
abbrev n_power : List Str := ["base", "many", "found", "turn"]
abbrev p_power : List Str := ["base", "many"]
def sp_power (G : Pm) : Sp := sp2 (R_power G)
def t_power (G : Pm) (E : XK) : TS :=
  (tSeq (tAsg (tC (.int 1)) (gName 2))
  (tSeq (tFor (iRng1 (tCons (tVar 1) tNil)) (gName 3)
  (tAsg (tOp oMul (tVar 2) (tVar 0)) (gName 2)))
  (tRet (tVar 2))))
def P_power (G : Pm) : Prop := ∀ x0 x1 H Q E, R_power G x0 x1 H Q E → t_power G E (dn Q) (start n_power [x0, x1]) H
theorem given_nil {n : Nat} {f : Nat → Bool} {v : Nat → V} : given n f v = [] ↔ ∀ k, k < n → f k = false := by
  unfold given
  rw [List.map_eq_nil_iff, List.filter_eq_nil_iff]
  constructor
  · intro h k hk
    have := h k (List.mem_range.mpr hk)
    simpa using this
  · intro h k hk
    rw [h k (List.mem_range.mp hk)]
    decide
theorem int_mod_dec (a c : Nat) : decide (V.int ((a : Int) % (c : Int)) = V.int 0) = decide (a % c = 0) := by
  rw [← Int.natCast_emod]
  by_cases z : a % c = 0
  · rw [z]
    rfl
  · rw [decide_eq_false z, decide_eq_false]
    intro y
    have := V.int.inj y
    omega
theorem given_first {n : Nat} {f : Nat → Bool} {v : Nat → V} (m : Nat) (hm : m < n) (hf : f m = true) : ∃ c, c < n ∧ f c = true ∧ (∀ d, d < c → f d = false) ∧ (given n f v)[0]? = some (v c) := by
  have e : ((List.range n).filter f)[0]? = (List.range n).find? f := by rw [← List.head?_filter, List.head?_eq_getElem?]
  cases h : (List.range n).find? f with
  | none =>
    have := List.find?_eq_none.mp h m (List.mem_range.mpr hm)
    exact absurd hf this
  | some c =>
    obtain ⟨h1, h2, h3⟩ := List.find?_range_eq_some.mp h
    refine ⟨c, List.mem_range.mp h2, h1, fun d hd => by simpa using h3 d hd, ?_⟩
    unfold given
    rw [List.getElem?_map, e, h]
    rfl
theorem pure_need_number (G : Pm) : P_need_number G := by
  intro x0 x1 x2 H Q E h
  obtain ⟨lo, hi, rfl, rfl, h⟩ := h
  have num : ∀ i : Int, x0 = .int i → ∀ b, b = (!(decide (lo ≤ i) && decide (i ≤ hi))) → (b = true → No G.BadNumber H E) → (b = false → RetV .non H Q) → t_need_number G E (dn Q) (start n_need_number [x0, .int lo, .int hi]) H := by
    rintro i rfl b rfl h1 h2
    refine s_when (b := !true || (false || !(decide (lo ≤ i) && decide (i ≤ hi)))) (et_or (et_not (et_B (ev_isi (ev_var rfl) (fun _ _ => .base (.int i)) (by decide +kernel)))) fun _ => et_or (et_B (ev_isi (ev_var rfl) (fun _ _ => .base (.int i)) (by decide +kernel))) fun _ => et_not (et_chain (ev_chain (ev_var rfl) (ev_var rfl) rv_I0 (fun _ => ev_var rfl) fun _ => rv_I0))) (fun hb H1 e1 => h1 (by simpa using hb) H1 e1) fun hb H1 e1 => h2 (by simpa using hb) H1 e1
  have odd : ∀ (n m : Bool) (t : String), (∀ H1, Ex H H1 → TyX G.K H1 x0 (.type t)) → kitB t "int" = some n → kitB t "bool" = some m → (!n || (m || true)) = true → (n = true → m = true) → No G.BadNumber H E → t_need_number G E (dn Q) (start n_need_number [x0, .int lo, .int hi]) H := by
    intro n m t ht k1 k2 _ hnm no
    refine s_when (b := !n || (m || true)) (et_or (et_not (et_B (ev_isi (ev_var rfl) ht k1))) fun z => et_or (et_B (ev_isi (ev_var rfl) ht k2)) fun y => ?_) (fun _ H1 e1 => no H1 e1) fun hb => ?_
    · have : n = true := by simpa using z
      have := hnm this
      rw [y] at this
      cases this
    · cases n <;> cases m <;> cases hb
  rcases h with ⟨i, rfl, l1, l2, q⟩ | ⟨hb, no⟩
  · refine num i rfl _ rfl (fun z => ?_) fun _ => q
    rw [decide_eq_true l1, decide_eq_true l2] at z
    cases z
  · rcases hb with rfl | ⟨b, rfl⟩ | ⟨s, rfl⟩ | ⟨i, rfl, hi'⟩
    · exact odd false false "NoneType" (fun _ _ => .base .non) (by decide +kernel) (by decide +kernel) rfl (fun z => (by cases z)) no
    · exact odd true true "bool" (fun _ _ => .base (.bl b)) (by decide +kernel) (by decide +kernel) rfl (fun _ => rfl) no
    · exact odd false false "str" (fun _ _ => .base (.str s)) (by decide +kernel) (by decide +kernel) rfl (fun z => (by cases z)) no
    · refine num i rfl _ rfl (fun _ => no) fun z => ?_
      have : lo ≤ i ∧ i ≤ hi := by simpa using z
      exact (hi' this).elim
/-- need_number(..) as a statement -/
theorem q_num {G : Pm} {σ : L2.St} {H : Hp} {ta tb tc : TE} {E : XK} {D : Ends} {tz : TS} {x : V} {lo hi : Int} (ha : Ev ta σ H x) (hb : Ev tb σ H (.int lo)) (hc : Ev tc σ H (.int hi))
    (h : ((∃ i : Int, x = .int i ∧ lo ≤ i ∧ i ≤ hi) ∧ ∀ H1, Ex H H1 → tz D σ H1) ∨ (NumBad x lo hi ∧ No G.BadNumber H E)) : tSeq (tDrop (tCall (sp_need_number G) [] E (tCons ta (tCons tb (tCons tc tNil))))) tz D σ H :=
  ha H (Ex.refl H) _ fun H1 e1 => hb H1 e1 _ fun H2 e2 => hc H2 (e1.trans e2) _ fun H3 e3 => by
    have e := (e1.trans e2).trans e3
    refine ⟨lo, hi, rfl, rfl, ?_⟩
    rcases h with ⟨⟨i, h1, h2, h3⟩, k⟩ | ⟨h1, no⟩
    · exact .inl ⟨i, h1, h2, h3, fun H4 e4 => k H4 (e.trans e4)⟩
    · exact .inr ⟨h1, no.ex e⟩
theorem s_num {G : Pm} {σ : L2.St} {H : Hp} {ta tb tc : TE} {E : XK} {D : Ends} {x : V} {lo hi : Int} (ha : Ev ta σ H x) (hb : Ev tb σ H (.int lo)) (hc : Ev tc σ H (.int hi))
    (h : ((∃ i : Int, x = .int i ∧ lo ≤ i ∧ i ≤ hi) ∧ ∀ H1, Ex H H1 → D.nx σ H1) ∨ (NumBad x lo hi ∧ No G.BadNumber H E)) : tDrop (tCall (sp_need_number G) [] E (tCons ta (tCons tb (tCons tc tNil)))) D σ H :=
  ha H (Ex.refl H) _ fun H1 e1 => hb H1 e1 _ fun H2 e2 => hc H2 (e1.trans e2) _ fun H3 e3 => by
    have e := (e1.trans e2).trans e3
    refine ⟨lo, hi, rfl, rfl, ?_⟩
    rcases h with ⟨⟨i, h1, h2, h3⟩, k⟩ | ⟨h1, no⟩
    · exact .inl ⟨i, h1, h2, h3, fun H4 e4 => k H4 (e.trans e4)⟩
    · exact .inr ⟨h1, no.ex e⟩
theorem pure_need_name (G : Pm) (hN : ∀ H, SqT G.K H G.NAMES (NMS.map V.str)) : P_need_name G := by
  intro x0 H Q E h
  have fl : (NMS.map V.str).all flatV = true := rfl
  have hx : flatV x0 = true := by
    rcases h with ⟨⟨i, s, _, rfl⟩, _⟩ | ⟨h, _⟩
    · rfl
    · exact h.1
  refine s_when (b := !inV x0 (NMS.map V.str)) (et_test (ev_op (ev_var rfl) ev_c (rv_niT (hN H) hx fl))) (fun hb H1 e1 => ?_) fun hb H1 e1 => ?_
  · rcases h with ⟨⟨i, s, hs, rfl⟩, _⟩ | ⟨_, no⟩
    · have : inV (.str s) (NMS.map V.str) = true := by
        unfold inV
        rw [List.any_map, List.any_eq_true]
        exact ⟨s, List.mem_of_getElem? hs, by simp [eqV]⟩
      rw [this] at hb
      cases hb
    · exact no H1 e1
  · rcases h with ⟨_, q⟩ | ⟨hn, _⟩
    · exact q H1 e1
    · rw [hn.2] at hb
      cases hb
/-! ### apart -/
theorem facP {c p : Nat} (hc : 2 ≤ c) (h : ∀ d, 2 ≤ d → d ∣ c → p ≤ d) (hp : c < p * p) : IsP c := by
  refine ⟨hc, fun d d2 dc => ?_⟩
  obtain ⟨e, he⟩ := dc
  rcases Nat.lt_or_ge e 2 with z | z
  · have : e = 0 ∨ e = 1 := by omega
    rcases this with y | y
    · rw [y, Nat.mul_zero] at he
      omega
    · rw [y, Nat.mul_one] at he
      exact he.symm
  · have l1 := h d d2 ⟨e, he⟩
    have l2 := h e z ⟨d, by rw [he, Nat.mul_comm]⟩
    have := Nat.mul_le_mul l1 l2
    rw [← he] at this
    omega
theorem Rows.mut {K : PySem.W.Frag} {H : Hp} {l : Addr} {zs : List V} {o : HO} (hl : H l = some (.lst zs)) : ∀ {xs : List V} {ps : List (Nat × Nat)}, Rows K H xs ps → Rows K (upd H l o) xs ps
  | _, _, .nil => .nil
  | _, _, .cons h r => .cons (sqT_mut hl h) (r.mut hl)
theorem pure_apart (G : Pm) : P_apart G := by
  intro x0 H Q E h
  obtain ⟨n, ⟨rfl, n1, n9⟩, q⟩ := h
  refine q_asgL (el_lst ea_nil (Nat.zero_le _)) fun l H1 l0 e1 h1 => ?_
  refine q_asg (v := .int ((2 : Nat) : Int)) ev_c fun H2 e2 => ?_
  refine q_whl (fun m σ' H' => ∃ (c p : Nat) (ps : List (Nat × Nat)) (xs : List V) (y3 : Option V), σ' = [some (.int (c : Int)), some (.ref l), some (.int (p : Int)), y3] ∧ m = n + 2 - p ∧ Ex H H' ∧ H' l = some (.lst xs) ∧ Rows G.K H' xs ps ∧
    n = prodF ps * c ∧ 1 ≤ c ∧ 2 ≤ p ∧ p ≤ 40000 ∧ (∀ d, 2 ≤ d → d ∣ c → p ≤ d) ∧ (∀ q ∈ ps, IsP q.1 ∧ 1 ≤ q.2) ∧ (∀ q ∈ ps, q.1 < p) ∧ ps.Pairwise (fun a b => a.1 < b.1) ∧ ps.length + 2 ≤ p) (n + 2 - 2)
    ⟨n, 2, [], [], _, rfl, rfl, e1.trans e2, e2 l _ h1, .nil, by simp [prodF], n1, Nat.le_refl 2, by decide, fun d d2 _ => d2, fun _ h => by simp at h, fun _ h => by simp at h, .nil, Nat.le_refl 2⟩ ?_
  rintro m σ' H3 ⟨c, p, ps, xs, y3, rfl, rfl, e3, h3, hR, hn, c1, p2, p4, hd, hP, hlt, hpw, hlen⟩
  have cn : c ≤ n := by
    rw [hn]
    exact Nat.le_mul_of_pos_left _ (prodF_pos hP)
  have hxl : xs.length = ps.length := hR.len
  have hcast : (p : Int) * (p : Int) = ((p * p : Nat) : Int) := (Int.natCast_mul p p).symm
  refine ⟨decide (p * p ≤ c), ?_, fun hb H4 e4 => ?_, fun hb H4 e4 => ?_⟩
  · refine et_is (et_test (ev_op (ev_op (ev_var rfl) (ev_var rfl) (rv_I (cm_l (by omega) (by omega)))) (ev_var rfl) rv_I0)) ?_
    rw [hcast]
    exact decide_eq_decide.mpr Int.ofNat_le
  · have ppc : p * p ≤ c := of_decide_eq_true hb
    have pc : p ≤ c := Nat.le_trans (Nat.le_mul_of_pos_left p (by omega)) ppc
    have p5 : p < 40000 := by
      rcases Nat.lt_or_ge p 40000 with z | z
      · exact z
      · have := Nat.mul_le_mul z z
        omega
    refine q_asg (v := .int ((0 : Nat) : Int)) ev_c fun H5 e5 => ?_
    refine q_whl (fun m σ' H' => ∃ c' k : Nat, σ' = [some (.int (c' : Int)), some (.ref l), some (.int (p : Int)), some (.int (k : Int))] ∧ m = c' ∧ Ex H3 H' ∧ c = p ^ k * c' ∧ 1 ≤ c') c ⟨c, 0, rfl, rfl, e4.trans e5, by simp, c1⟩ ?_
    rintro m σ' H6 ⟨c', k, rfl, hm6, e6, hc, c1'⟩
    have pk : 1 ≤ p ^ k := Nat.pow_pos (by omega)
    have cc : c' ∣ c := ⟨p ^ k, by rw [hc, Nat.mul_comm]⟩
    refine ⟨decide (c' % p = 0), et_is (et_test (ev_op (ev_op (ev_var rfl) (ev_var rfl) (rv_I (by omega))) ev_c (rv_eq rfl))) (int_mod_dec c' p), fun hb2 H7 e7 => ?_, fun hb2 H7 e7 => ?_⟩
    · have d0 : p ∣ c' := Nat.dvd_of_mod_eq_zero (of_decide_eq_true hb2)
      have lep : p ≤ c' := Nat.le_of_dvd c1' d0
      have q1 : 1 ≤ c' / p := Nat.div_pos lep (by omega)
      have q2 : c' / p < c' := Nat.div_lt_self c1' p2
      have q3 : p * (c' / p) = c' := Nat.mul_div_cancel' d0
      refine q_asg (v := .int ((c' / p : Nat) : Int)) (ev_is (ev_op (ev_var rfl) (ev_var rfl) (rv_I (cdiv_w (by omega) (by omega)))) (by rw [Int.natCast_ediv])) fun H8 e8 => ?_
      refine s_asg (v := .int ((k + 1 : Nat) : Int)) (ev_op (ev_var rfl) ev_c rv_I0) fun H9 e9 => ⟨c' / p, by rw [hm6]; exact q2, c' / p, k + 1, rfl, rfl, e6.trans (e7.trans (e8.trans e9)), ?_, q1⟩
      rw [Nat.pow_succ, Nat.mul_assoc, q3]
      exact hc
    · have nd : ¬ p ∣ c' := fun z => of_decide_eq_false hb2 (Nat.mod_eq_zero_of_dvd z)
      have nx : ∀ d, 2 ≤ d → d ∣ c' → p + 1 ≤ d := fun d d2 dc => by
        have l := hd d d2 (Nat.dvd_trans dc cc)
        rcases Nat.lt_or_ge p d with z | z
        · exact z
        · have : d = p := by omega
          exact absurd (this ▸ dc) nd
      have e67 := e6.trans e7
      have h7 := e67 l _ h3
      have hR7 := hR.ex e67
      refine q_ifM (b := decide (0 < k)) (M := fun σ' H' => ∃ (ps' : List (Nat × Nat)) (xs' : List V), σ' = [some (.int (c' : Int)), some (.ref l), some (.int (p : Int)), some (.int (k : Int))] ∧ Ex H H' ∧ H' l = some (.lst xs') ∧ Rows G.K H' xs' ps' ∧ n = prodF ps' * c' ∧ (∀ q ∈ ps', IsP q.1 ∧ 1 ≤ q.2) ∧ (∀ q ∈ ps', q.1 < p + 1) ∧ ps'.Pairwise (fun a b => a.1 < b.1) ∧ ps'.length + 2 ≤ p + 1) ?_
        (et_is (et_test (ev_op (ev_var rfl) ev_c rv_I0)) (by rw [show decide ((0 : Int) < (k : Int)) = decide (0 < k) from decide_eq_decide.mpr (by omega)])) (fun hb3 H8 e8 N hN => ?_) fun hb3 H8 e8 N hN => ?_
      · rintro σ' H8 ⟨ps', xs', rfl, e8, h8, hR8, hn8, hP8, hlt8, hpw8, hlen8⟩
        exact s_asg (v := .int ((p + 1 : Nat) : Int)) (ev_op (ev_var rfl) ev_c rv_I0) fun H9 e9 => ⟨n + 2 - (p + 1), by omega, c', p + 1, ps', xs', _, rfl, rfl, e8.trans e9, e9 l _ h8, hR8.ex e9, hn8, c1', by omega, by omega, nx, hP8, hlt8, hpw8, hlen8⟩
      · have k1 : 1 ≤ k := of_decide_eq_true hb3
        have pdc : p ∣ c := by
          rw [hc]
          exact Nat.dvd_trans (Nat.dvd_trans (by rw [Nat.pow_one]; exact Nat.dvd_refl _) (Nat.pow_dvd_pow p k1)) (Nat.dvd_mul_right _ _)
        have pp : IsP p := ⟨p2, fun d d2 dp => by
          have l1 := hd d d2 (Nat.dvd_trans dp pdc)
          have l2 := Nat.le_of_dvd (by omega) dp
          omega⟩
        refine s_appU (e8 l _ h7) (ev_var rfl) (eu_tup (vs := [.int (p : Int), .int (k : Int)]) (ea_cons (ev_var rfl) (ea_cons (ev_var rfl) ea_nil)) (by show 2 ≤ 100000; decide)) (by omega) fun t H9 t0 e9 h9 => hN _ _ ⟨ps ++ [(p, k)], xs ++ [.ref t], rfl, Ex.mut ((e3.trans e67).trans (e8.trans e9)) l0, upd_same, ?_, ?_, ?_, ?_, ?_, ?_⟩
        · have hl9 := (e8.trans e9) l _ h7
          exact (Rows.mut hl9 (hR7.ex (e8.trans e9))).app (.cons (p := (p, k)) (sqT_mut hl9 (st_of h9)) .nil)
        · rw [prodF_app, hn, hc]
          simp [prodF, Nat.mul_assoc]
        · intro q hq
          rcases List.mem_append.mp hq with z | z
          · exact hP q z
          · rw [List.mem_singleton.mp z]
            exact ⟨pp, k1⟩
        · intro q hq
          rcases List.mem_append.mp hq with z | z
          · have := hlt q z
            omega
          · rw [List.mem_singleton.mp z]
            exact Nat.lt_succ_self p
        · rw [List.pairwise_append]
          refine ⟨hpw, List.pairwise_singleton _ _, fun a ha b hb => ?_⟩
          rw [List.mem_singleton.mp hb]
          exact hlt a ha
        · rw [List.length_append]
          show ps.length + 1 + 2 ≤ p + 1
          omega
      · have k0 : k = 0 := by
          have := of_decide_eq_false hb3
          omega
        subst k0
        rw [Nat.pow_zero, Nat.one_mul] at hc
        subst hc
        exact hN _ _ ⟨ps, xs, rfl, (e3.trans e67).trans e8, e8 l _ h7, hR7.ex e8, hn, hP, fun q hq => by have := hlt q hq; omega, hpw, by omega⟩
  · have ppc : c < p * p := by
      have := of_decide_eq_false hb
      omega
    have h4 := e4 l _ h3
    have hR4 := hR.ex e4
    refine q_ifM (b := decide (1 < c)) (M := fun σ' H' => ∃ (ps' : List (Nat × Nat)) (xs' : List V) (y0 y2 y3 : Option V), σ' = [y0, some (.ref l), y2, y3] ∧ Ex H H' ∧ H' l = some (.lst xs') ∧ Rows G.K H' xs' ps' ∧ Fac n ps') ?_
      (et_is (et_test (ev_op (ev_var rfl) ev_c rv_I0)) (by rw [show decide ((1 : Int) < (c : Int)) = decide (1 < c) from decide_eq_decide.mpr (by omega)])) (fun hb3 H8 e8 N hN => ?_) fun hb3 H8 e8 N hN => ?_
    · rintro σ' H8 ⟨ps', xs', y0, y2, y3, rfl, e8, h8, hR8, hF⟩
      exact s_ret (ev_var rfl) fun H9 e9 => q ps' hF l xs' H9 l0 (e8.trans e9) (e9 l _ h8) (hR8.ex e9)
    · have c2 : 2 ≤ c := of_decide_eq_true hb3
      have pp := facP c2 hd ppc
      have pc : p ≤ c := hd c c2 (Nat.dvd_refl c)
      refine s_appU (e8 l _ h4) (ev_var rfl) (eu_tup (vs := [.int (c : Int), .int ((1 : Nat) : Int)]) (ea_cons (ev_var rfl) (ea_cons ev_c ea_nil)) (by show 2 ≤ 100000; decide)) (by omega) fun t H9 t0 e9 h9 => hN _ _ ⟨ps ++ [(c, 1)], xs ++ [.ref t], _, _, _, rfl, Ex.mut ((e3.trans e4).trans (e8.trans e9)) l0, upd_same, ?_, ?_, ?_, ?_⟩
      · have hl9 := (e8.trans e9) l _ h4
        exact (Rows.mut hl9 (hR4.ex (e8.trans e9))).app (.cons (p := (c, 1)) (sqT_mut hl9 (st_of h9)) .nil)
      · rw [prodF_app, hn]
        simp [prodF]
      · intro q hq
        rcases List.mem_append.mp hq with z | z
        · exact hP q z
        · rw [List.mem_singleton.mp z]
          exact ⟨pp, Nat.le_refl 1⟩
      · rw [List.pairwise_append]
        refine ⟨hpw, List.pairwise_singleton _ _, fun a ha b hb => ?_⟩
        rw [List.mem_singleton.mp hb]
        have := hlt a ha
        show a.1 < c
        omega
    · have c0 : c = 1 := by
        have := of_decide_eq_false hb3
        omega
      subst c0
      exact hN _ _ ⟨ps, xs, _, _, _, rfl, (e3.trans e4).trans e8, e8 l _ h4, hR4.ex e8, by rw [hn, Nat.mul_one], hP, hpw⟩
theorem pure_primes_of (G : Pm) : P_primes_of G := by
  intro x0 H Q E h
  rcases h with ⟨n, ⟨rfl, n1, n9⟩, q⟩ | ⟨hb, no⟩
  · refine q_num (ev_var rfl) ev_c ev_c (.inl ⟨⟨_, rfl, by omega, by omega⟩, fun H1 e1 => ?_⟩)
    exact call1 (Q := fun v H' => Q v H') (ev_var rfl) fun H2 e2 => ⟨n, ⟨rfl, n1, n9⟩, fun ps hF p xs H3 p0 e3 h3 hR => q ps hF p xs H3 (fresh_back (e1.trans e2) p0) ((e1.trans e2).trans e3) h3 hR⟩
  · exact q_num (ev_var rfl) ev_c ev_c (.inr ⟨hb, no⟩)
theorem pure_power (G : Pm) : P_power G := by
  intro x0 x1 H Q E h
  obtain ⟨b, k, rfl, b9, rfl, k4, q⟩ := h
  refine q_asg (v := .int ((b ^ 0 : Nat) : Int)) ev_c fun H1 e1 => ?_
  refine q_forR1 (n := (k : Int)) (ea_cons (ev_var rfl) ea_nil) (by omega)
    (fun i σ' H' => ∃ y3 : Option V, σ' = [some (.int (b : Int)), some (.int (k : Int)), some (.int ((b ^ i : Nat) : Int)), y3] ∧ Ex H H') (fun H2 e2 => ⟨_, rfl, e1.trans e2⟩) ?_ ?_
  · rintro i σ' H2 hi ⟨y3, rfl, e2⟩
    exact s_asg (v := .int ((b ^ (i + 1) : Nat) : Int)) (ev_is (ev_op (ev_var rfl) (ev_var rfl) (rv_I (cm_r (by omega) (by omega)))) (by rw [Nat.pow_succ, Int.natCast_mul])) fun H3 e3 => ⟨_, rfl, e2.trans e3⟩
  · rintro σ' H2 ⟨y3, rfl, e2⟩
    rw [Int.toNat_natCast] 
    exact s_ret (ev_var rfl) fun H3 e3 => q H3 (e2.trans e3)
end Sv

set_option Elab.async false
set_option linter.all false
set_option maxRecDepth 100000
set_option maxHeartbeats 4000000
namespace Sv
open PySem PySem.Spec PyProof.Rows L2 Evl HotX L2H LamX
local macro_rules | `(tactic| walk_at "ev") => `(tactic| (repeat' (first | exact ev_var rfl | exact ev_c | exact rv_I0 | exact ea_nil | exact ru_neg | exact rv_eq rfl | exact rv_ne rfl | apply ev_op | apply rv_I | apply ev_un | apply et_test | apply et_B | apply et_not | apply ea_cons | apply ev_maxI | apply ev_minI)))
def RowsAt' (K : PySem.W.Frag) (H : Hp) (x : V) (ps : List (Nat × Nat)) : Prop := ∃ a xs, x = .ref a ∧ SqL K H a xs ∧ Rows K H xs ps
theorem RowsAt'.ex {K : PySem.W.Frag} {H H' : Hp} {x : V} {ps : List (Nat × Nat)} (e : Ex H H') (h : RowsAt' K H x ps) : RowsAt' K H' x ps := by
  obtain ⟨a, xs, h1, h2, h3⟩ := h
  exact ⟨a, xs, h1, ex_l e h2, h3.ex e⟩
def natV (l : List Nat) : List V := l.map fun u : Nat => V.int (u : Int)
def R_all_divisors (G : Pm) : R1 := fun x H Q _ => ∃ (n : Nat) (ps : List (Nat × Nat)), RowsAt' G.K H x ps ∧ Fac n ps ∧ n ≤ 1000000000 ∧ RetL (natV (divs n)) H Q
def R_divisors (G : Pm) : R1 := fun x H Q E => (∃ n, isZ x n ∧ RetL (natV (divs n)) H Q) ∨ (NumBad x 1 1000000000 ∧ No G.BadNumber H E)
def R_worth_by (G : Pm) : R3 := fun x y z H Q _ => ∃ (i n : Nat) (ps : List (Nat × Nat)), isN x i ∧ isZ y n ∧ RowsAt' G.K H z ps ∧ Fac n ps ∧ RetV (.int (W i n)) H Q
def R_named_worth (G : Pm) : R2' := fun x y H Q E => (∃ i n, isN x i ∧ isZ y n ∧ RetV (.int (W i n)) H Q) ∨ (NameBad x ∧ No G.BadName H E) ∨ ((∃ i, isN x i) ∧ NumBad y 1 1000000000 ∧ No G.BadNumber H E)
def R_named_table (G : Pm) : R2' := fun x y H Q E => (∃ i n : Nat, isN x i ∧ y = .int (n : Int) ∧ 1 ≤ n ∧ n ≤ 500 ∧ RetL ((tab n (W i)).map V.int) H Q) ∨ (NameBad x ∧ No G.BadName H E) ∨ ((∃ i, isN x i) ∧ NumBad y 1 500 ∧ No G.BadNumber H E)
abbrev n_all_divisors : List Str := ["pairs", "found", "prime", "often", "longer", "one", "many"]
abbrev p_all_divisors : List Str := ["pairs"]
def sp_all_divisors (G : Pm) : Sp := sp1 (R_all_divisors G)
def t_all_divisors (G : Pm) (E : XK) : TS :=
  (tSeq (tAsg (tLst (tCons (tC (.int 1)) tNil)) (gName 1))
  (tSeq (tFor (iList G.K (tVar 0)) (gTup G.K 2 (gCons (gName 2) (gCons (gName 3) gNil)))
  (tSeq (tAsg (tLst tNil) (gName 4))
  (tSeq (tFor (iList G.K (tVar 1)) (gName 5)
  (tDrop (tBM G.K "list" rExtend (tVar 4) (tCons (tLc (iRng1 (tCons (tOp oAdd (tVar 3) (tC (.int 1))) tNil)) (gName 6) tYes (tOp oMul (tVar 5) (tCall (sp_power G) [] E0 (tCons (tVar 2) (tCons (tVar 6) tNil)))) [6]) tNil))))
  (tAsg (tVar 4) (gName 1)))))
  (tRet (tCB (rSortedI G.K) (tCons (tVar 1) tNil)))))
def P_all_divisors (G : Pm) : Prop := ∀ x0 H Q E, R_all_divisors G x0 H Q E → t_all_divisors G E (dn Q) (start n_all_divisors [x0]) H
abbrev n_divisors : List Str := ["number"]
abbrev p_divisors : List Str := ["number"]
def sp_divisors (G : Pm) : Sp := sp1 (R_divisors G)
def t_divisors (G : Pm) (E : XK) : TS :=
  (tRet (tCall (sp_all_divisors G) [] E (tCons (tCall (sp_primes_of G) [] E (tCons (tVar 0) tNil)) tNil)))
def P_divisors (G : Pm) : Prop := ∀ x0 H Q E, R_divisors G x0 H Q E → t_divisors G E (dn Q) (start n_divisors [x0]) H
abbrev n_worth_by : List Str := ["name", "number", "pairs", "found", "prime", "often", "many"]
abbrev p_worth_by : List Str := ["name", "number", "pairs"]
def sp_worth_by (G : Pm) : Sp := sp3 (R_worth_by G)
def t_worth_by (G : Pm) (E : XK) : TS :=
  (tSeq (tIfS (tTest (tOp rEq (tVar 0) (tC (.str "unit"))))
  (tRet (tCB bInt1 (tCons (tOp rEq (tVar 1) (tC (.int 1))) tNil)))
  tNext)
  (tSeq (tIfS (tTest (tOp rEq (tVar 0) (tC (.str "one"))))
  (tRet (tC (.int 1)))
  tNext)
  (tSeq (tIfS (tTest (tOp rEq (tVar 0) (tC (.str "self"))))
  (tRet (tVar 1))
  tNext)
  (tSeq (tIfS (tTest (tOp rEq (tVar 0) (tC (.str "prime"))))
  (tRet (tCB bInt1 (tCons (tAndV (tOp rEq (tCB (bLenQ G.K) (tCons (tVar 2) tNil)) (tC (.int 1))) (tOp rEq (tOp (rIxT G.K) (tOp (rIxL G.K) (tVar 2) (tC (.int 0))) (tC (.int 1))) (tC (.int 1)))) tNil)))
  tNext)
  (tSeq (tIfS (tTest (tOp rEq (tVar 0) (tC (.str "even"))))
  (tRet (tOp oSub (tC (.int 1)) (tOp oMul (tC (.int 2)) (tOp oMod (tCB (rSum G.K) (tCons (tLc (iList G.K (tVar 2)) (gTup G.K 2 (gCons (gName 4) (gCons (gName 5) gNil))) tYes (tVar 5) [4, 5]) tNil)) (tC (.int 2))))))
  tNext)
  (tSeq (tIfS (tTest (tOp (rIn G.K false) (tVar 0) (tTup (tCons (tC (.str "free")) (tCons (tC (.str "mark")) tNil)))))
  (tSeq (tIfS (tB (tCB (rAny G.K) (tCons (tLc (iList G.K (tVar 2)) (gTup G.K 2 (gCons (gName 4) (gCons (gName 5) gNil))) tYes (tOp cGt (tVar 5) (tC (.int 1))) [4, 5]) tNil)))
  (tRet (tC (.int 0)))
  tNext)
  (tRet (tIf (tTest (tOp rEq (tVar 0) (tC (.str "free")))) (tC (.int 1)) (tOp oSub (tC (.int 1)) (tOp oMul (tC (.int 2)) (tOp oMod (tCB (bLenQ G.K) (tCons (tVar 2) tNil)) (tC (.int 2))))))))
  tNext)
  (tSeq (tAsg (tC (.int 1)) (gName 3))
  (tSeq (tFor (iList G.K (tVar 2)) (gTup G.K 2 (gCons (gName 4) (gCons (gName 5) gNil)))
  (tIfS (tTest (tOp rEq (tVar 0) (tC (.str "many"))))
  (tAsg (tOp oMul (tVar 3) (tOp oAdd (tVar 5) (tC (.int 1)))) (gName 3))
  (tIfS (tTest (tOp rEq (tVar 0) (tC (.str "sum"))))
  (tAsg (tOp oMul (tVar 3) (tCB (rSum G.K) (tCons (tLc (iRng1 (tCons (tOp oAdd (tVar 5) (tC (.int 1))) tNil)) (gName 6) tYes (tCall (sp_power G) [] E0 (tCons (tVar 4) (tCons (tVar 6) tNil))) [6]) tNil))) (gName 3))
  (tAsg (tOp oMul (tOp oMul (tVar 3) (tCall (sp_power G) [] E (tCons (tVar 4) (tCons (tOp oSub (tVar 5) (tC (.int 1))) tNil)))) (tOp oSub (tVar 4) (tC (.int 1)))) (gName 3)))))
  (tRet (tVar 3))))))))))
def P_worth_by (G : Pm) : Prop := ∀ x0 x1 x2 H Q E, R_worth_by G x0 x1 x2 H Q E → t_worth_by G E (dn Q) (start n_worth_by [x0, x1, x2]) H
abbrev n_named_worth : List Str := ["name", "number"]
abbrev p_named_worth : List Str := ["name", "number"]
def sp_named_worth (G : Pm) : Sp := sp2 (R_named_worth G)
def t_named_worth (G : Pm) (E : XK) : TS :=
  (tSeq (tDrop (tCall (sp_need_name G) [] E (tCons (tVar 0) tNil)))
  (tRet (tCall (sp_worth_by G) [] E (tCons (tVar 0) (tCons (tVar 1) (tCons (tCall (sp_primes_of G) [] E (tCons (tVar 1) tNil)) tNil))))))
def P_named_worth (G : Pm) : Prop := ∀ x0 x1 H Q E, R_named_worth G x0 x1 H Q E → t_named_worth G E (dn Q) (start n_named_worth [x0, x1]) H
abbrev n_named_table : List Str := ["name", "size", "number"]
abbrev p_named_table : List Str := ["name", "size"]
def sp_named_table (G : Pm) : Sp := sp2 (R_named_table G)
def t_named_table (G : Pm) (E : XK) : TS :=
  (tSeq (tDrop (tCall (sp_need_name G) [] E (tCons (tVar 0) tNil)))
  (tSeq (tDrop (tCall (sp_need_number G) [] E (tCons (tVar 1) (tCons (tC (.int 1)) (tCons (tC (.int 500)) tNil)))))
  (tRet (tLc (iRng2 (tCons (tC (.int 1)) (tCons (tOp oAdd (tVar 1) (tC (.int 1))) tNil))) (gName 2) tYes (tCall (sp_worth_by G) [] E0 (tCons (tVar 0) (tCons (tVar 2) (tCons (tCall (sp_apart G) [] E0 (tCons (tVar 2) tNil)) tNil)))) [2]))))
def P_named_table (G : Pm) : Prop := ∀ x0 x1 H Q E, R_named_table G x0 x1 H Q E → t_named_table G E (dn Q) (start n_named_table [x0, x1]) H
/-! ### divisors -/
theorem natV_len (l : List Nat) : (natV l).length = l.length := List.length_map ..
theorem natV_app (l m : List Nat) : natV (l ++ m) = natV l ++ natV m := List.map_append ..
theorem natV_int (l : List Nat) : natV l = (l.map fun u : Nat => (u : Int)).map V.int := by
  rw [List.map_map]
  rfl
theorem natV_at {l : List Nat} {i : Nat} {x : V} (h : (natV l)[i]? = some x) : ∃ u : Nat, l[i]? = some u ∧ x = .int (u : Int) := by
  unfold natV at h
  rw [List.getElem?_map] at h
  cases hl : l[i]? with
  | none =>
    rw [hl] at h
    cases h
  | some u =>
    rw [hl] at h
    exact ⟨u, rfl, (Option.some.inj h).symm⟩
/-- xs.extend(a new list) -/
theorem s_ext {K : PySem.W.Frag} {σ : L2.St} {H : Hp} {ta te : TE} {D : Ends} {l : Addr} {xs ys : List V} (hl : H l = some (.lst xs)) (ha : Ev ta σ H (.ref l)) (h : EvL te σ H ys) (hz : xs.length + ys.length ≤ 100000) (k : ∀ H1, Ex H H1 → D.nx σ (upd H1 l (.lst (xs ++ ys)))) :
    tDrop (tBM K "list" rExtend ta (tCons te tNil)) D σ H := ha H (Ex.refl H) _ fun H1 e1 =>
  ⟨Or.inl ⟨rfl, xs, sq_of (e1 l _ hl)⟩, h H1 e1 _ fun p H2 _ e2 h2 => ⟨l, p, xs, ys, rfl, rfl, e2 l _ (e1 l _ hl), h2, sz_of hz, k H2 (e1.trans e2)⟩⟩
theorem dl_le {ps : List (Nat × Nat)} {n d : Nat} (h : Fac n ps) (hd : d ∈ dl ps) : d ≤ n := Nat.le_of_dvd h.pos ((dl_mem _ rfl h d).mp hd)
theorem dl_len {ps : List (Nat × Nat)} : (dl ps).length = cntD ps := by
  have gen : ∀ (k : Nat) (ps : List (Nat × Nat)), ps.length = k → (dl ps).length = cntD ps := fun k => by
    induction k with
    | zero =>
      intro ps hk
      rw [List.length_eq_zero_iff.mp hk]
      rfl
    | succ k ih =>
      intro ps hk
      rcases List.eq_nil_or_concat ps with rfl | ⟨qs, q, rfl⟩
      · cases hk
      · rw [List.concat_eq_append] at hk ⊢
        rw [dl_snoc, dlN_len, cntD_snoc, ih qs (by simpa using hk)]
  exact gen _ ps rfl
theorem fac_take {ps : List (Nat × Nat)} {n : Nat} (h : Fac n ps) (i : Nat) : Fac (prodF (ps.take i)) (ps.take i) ∧ prodF (ps.take i) ≤ n := by
  refine ⟨⟨rfl, fun q hq => h.2.1 q (List.mem_of_mem_take hq), h.2.2.sublist (List.take_sublist i ps)⟩, ?_⟩
  have e : ps = ps.take i ++ ps.drop i := (List.take_append_drop i ps).symm
  rw [h.1]
  conv => rhs; rw [e]
  rw [prodF_app]
  exact Nat.le_mul_of_pos_right _ (prodF_pos fun q hq => h.2.1 q (List.mem_of_mem_drop hq))
theorem take_succ {ps : List (Nat × Nat)} {i : Nat} {q : Nat × Nat} (h : ps[i]? = some q) : ps.take (i + 1) = ps.take i ++ [q] := by
  rw [List.take_add_one, h]
  rfl
theorem exp_le {q : Nat × Nat} (h2 : 2 ≤ q.1) {n : Nat} (h : q.1 ^ q.2 ≤ n) (hn : n ≤ 1000000000) : q.2 ≤ 30 := by
  rcases Nat.lt_or_ge 30 q.2 with z | z
  · have a : 2 ^ 31 ≤ 2 ^ q.2 := Nat.pow_le_pow_right (by decide) z
    have b : 2 ^ q.2 ≤ q.1 ^ q.2 := Nat.pow_le_pow_left h2 q.2
    have c : (1000000000 : Nat) < 2 ^ 31 := by decide
    omega
  · exact z
theorem prim_le {ps : List (Nat × Nat)} {n : Nat} (h : Fac n ps) {q : Nat × Nat} (hq : q ∈ ps) : q.1 ^ q.2 ≤ n ∧ q.1 ≤ n := by
  have gen : ∀ ps : List (Nat × Nat), (∀ r ∈ ps, IsP r.1 ∧ 1 ≤ r.2) → q ∈ ps → q.1 ^ q.2 ≤ prodF ps := fun ps => by
    induction ps with
    | nil => intro _ h; cases h
    | cons r ps ih =>
      intro h hq
      have pr := prodF_pos fun s hs => h s (List.mem_cons_of_mem r hs)
      have pw : 1 ≤ r.1 ^ r.2 := Nat.pow_pos (by have := (h r List.mem_cons_self).1.1; omega)
      rcases List.mem_cons.mp hq with rfl | hq
      · exact Nat.le_mul_of_pos_right _ pr
      · exact Nat.le_trans (ih (fun s hs => h s (List.mem_cons_of_mem r hs)) hq) (Nat.le_mul_of_pos_left _ pw)
  have a := gen ps h.2.1 hq
  rw [← h.1] at a
  have hp := h.2.1 q hq
  refine ⟨a, Nat.le_trans ?_ a⟩
  calc q.1 = q.1 ^ 1 := (Nat.pow_one _).symm
    _ ≤ q.1 ^ q.2 := Nat.pow_le_pow_right (by have := hp.1.1; omega) hp.2
theorem pure_all_divisors (G : Pm) : P_all_divisors G := by
  intro x0 H Q E h
  obtain ⟨n, ps, ⟨a, xs, rfl, hS, hR⟩, hF, hn, q⟩ := h
  have hb := cnt_bound hF hn
  refine q_asgL (xs := natV (dl [])) (el_lst (ea_cons ev_c ea_nil) (by show 1 ≤ 100000; decide)) fun lf H1 _ e1 h1 => ?_
  refine q_forL (ev_var rfl) (ex_l e1 hS) (fun i σ' H' => ∃ (lf : Addr) (y2 y3 y4 y5 y6 : Option V), σ' = [some (.ref a), some (.ref lf), y2, y3, y4, y5, y6] ∧ Ex H H' ∧ H' lf = some (.lst (natV (dl (ps.take i)))))
    (fun H2 e2 => ⟨lf, _, _, _, _, _, rfl, e1.trans e2, by rw [List.take_zero]; exact e2 lf _ h1⟩) (fun i σ' H' _ ⟨_, _, _, _, _, _, _, e, _⟩ => ex_l e hS) ?_ ?_
  · rintro i x σ' H2 hi ⟨lf, y2, y3, y4, y5, y6, rfl, e2, h2⟩
    obtain ⟨t, ⟨p, e⟩, rfl, hp, hT⟩ := hR.at hi
    obtain ⟨fT, fL⟩ := fac_take hF i
    have hsn := take_succ hp
    have hpm := hF.2.1 _ (List.mem_of_getElem? hp)
    obtain ⟨pe, pl⟩ := prim_le hF (List.mem_of_getElem? hp)
    have e30 := exp_le (q := (p, e)) hpm.1.1 pe hn
    dsimp only at hpm pe pl e30 hT
    have fS := fac_take hF (i + 1)
    have cS : cntD (ps.take (i + 1)) ≤ 90000 := cnt_bound fS.1 (Nat.le_trans fS.2 hn)
    rw [hsn, cntD_snoc] at cS
    dsimp only at cS
    have hlen : (dl (ps.take i)).length = cntD (ps.take i) := dl_len
    refine g_tup2 (ex_t e2 hT) ?_
    refine q_asgL (xs := natV (dlN [] (p, e))) (el_lst ea_nil (Nat.zero_le _)) fun ll H3 ll0 e3 h3 => ?_
    have ne : lf ≠ ll := ne_of_none h2 ll0
    refine q_forL (ev_var rfl) (sq_of (e3 lf _ h2)) (fun j σ' H' => ∃ y5 y6 : Option V, σ' = [some (.ref a), some (.ref lf), some (.int (p : Int)), some (.int (e : Int)), some (.ref ll), y5, y6] ∧ Ex H2 H' ∧ H' ll = some (.lst (natV (dlN ((dl (ps.take i)).take j) (p, e)))))
      (fun H4 e4 => ⟨_, _, rfl, e3.trans e4, by rw [List.take_zero]; exact e4 ll _ h3⟩) (fun j σ' H' _ ⟨_, _, _, e, _⟩ => sq_of (e lf _ h2)) ?_ ?_
    · rintro j x σ' H4 hj ⟨y5, y6, rfl, e4, h4⟩
      obtain ⟨d, hd, rfl⟩ := natV_at hj
      have dm := List.mem_of_getElem? hd
      have dle : d ≤ n := Nat.le_trans (dl_le fT dm) fL
      have jl : j < (dl (ps.take i)).length := (List.getElem?_eq_some_iff.mp hd).1
      have tl : (natV (dlN ((dl (ps.take i)).take j) (p, e))).length = j * (e + 1) := by
        rw [natV_len, dlN_len, List.length_take]
        show min j _ * (e + 1) = _
        rw [Nat.min_eq_left (Nat.le_of_lt jl)]
      have jb : (j + 1) * (e + 1) ≤ cntD (ps.take i) * (e + 1) := Nat.mul_le_mul_right _ (by omega)
      refine s_ext (ys := natV ((List.range (e + 1)).map fun k => d * p ^ k)) h4 (ev_var rfl) ?_ ?_ fun H5 e5 => ⟨_, _, rfl, Ex.mut (e4.trans e5) ll0, ?_⟩
      · have := el_lcR1 (σ := [some (.ref a), some (.ref lf), some (.int (p : Int)), some (.int (e : Int)), some (.ref ll), some (.int (d : Int)), y6]) (H := H4) (ta := tCons (tOp oAdd (tVar 3) (tC (.int 1))) tNil) (j := 6) (vs := [6]) (t := tYes) (te := tOp oMul (tVar 5) (tCall (sp_power G) [] E0 (tCons (tVar 2) (tCons (tVar 6) tNil)))) (n := (e : Int) + 1) (fun _ => true) (fun k => V.int ((d * p ^ k : Nat) : Int)) (ea_cons (ev_op (ev_var rfl) ev_c rv_I0) ea_nil) (by omega) (fun x => rfl) (fun k H6 e6 hk => et_yes)
          fun k H6 e6 hk _ => ev_is (ev_op (ev_var rfl) (ev_ca2 (z := .int ((p ^ k : Nat) : Int)) (ev_var rfl) (ev_var rfl) fun H7 e7 Q' q' => ⟨p, k, rfl, by omega, rfl, by omega, q'⟩) (rv_I (cm_l (by omega) (by omega)))) (by rw [Int.natCast_mul])
        rw [show ((e : Int) + 1).toNat = e + 1 by omega, given_all] at this
        unfold natV
        rw [List.map_map]
        exact this
      · rw [tl, natV_len, List.length_map, List.length_range]
        have : j * (e + 1) + (e + 1) = (j + 1) * (e + 1) := (Nat.succ_mul j (e + 1)).symm
        omega
      · rw [upd_same, ← natV_app, List.take_add_one, hd]
        unfold dlN
        rw [Option.toList_some, List.flatMap_append]
        simp
    · rintro σ' H4 ⟨y5, y6, rfl, e4, h4⟩
      refine s_asg (ev_var rfl) fun H5 e5 => ⟨ll, _, _, _, _, _, rfl, e2.trans (e4.trans e5), ?_⟩
      rw [e5 ll _ h4, natV_len, List.take_length, hsn, dl_snoc]
  · rintro σ' H2 ⟨lf, y2, y3, y4, y5, y6, rfl, e2, h2⟩
    rw [hR.len, List.take_length] at h2
    unfold tRet tCB tCons
    refine ⟨.ref lf, rfl, lf, (dl ps).map fun d : Nat => (d : Int), rfl, ?_, fun ns' p hp hs hp0 => ?_⟩
    · rw [← natV_int]
      exact sq_of h2
    · rw [sorted_dl hF hp hs]
      refine q p _ (fresh_back e2 hp0) (e2.trans (Ex.new hp0)) ?_
      rw [← natV_int]
      exact upd_same
theorem pure_divisors (G : Pm) : P_divisors G := by
  intro x0 H Q E h
  show tCall _ _ _ _ _ _ _
  rcases h with ⟨n, ⟨rfl, n1, n9⟩, q⟩ | ⟨hb, no⟩
  · exact call1 (Q := fun v H' => R_all_divisors G v H' Q E) (ev_var rfl) fun H1 e1 => .inl ⟨n, ⟨rfl, n1, n9⟩, fun ps hF p xs H2 p0 e2 h2 hR => ⟨n, ps, ⟨p, xs, rfl, sq_of h2, hR⟩, hF, n9, RetL.ex (e1.trans e2) q⟩⟩
  · exact call1 (Q := fun v H' => R_all_divisors G v H' Q E) (ev_var rfl) fun H1 e1 => .inr ⟨hb, no.ex e1⟩
end Sv

set_option Elab.async false
set_option linter.all false
set_option maxRecDepth 100000
set_option maxHeartbeats 4000000
namespace Sv
open PySem PySem.Spec PyProof.Rows L2 Evl HotX L2H LamX
local macro_rules | `(tactic| walk_at "ev") => `(tactic| (repeat' (first | exact ev_var rfl | exact ev_c | exact rv_I0 | exact ea_nil | exact ru_neg | exact rv_eq rfl | exact rv_ne rfl | apply ev_op | apply rv_I | apply ev_un | apply et_test | apply et_B | apply et_not | apply ea_cons | apply ev_maxI | apply ev_minI)))
/-! ### worth_by -/
theorem nms_idx {i j : Nat} {s : Str} (h : NMS[i]? = some s) (h' : NMS[j]? = some s) : i = j := by
  have l : i < NMS.length := (List.getElem?_eq_some_iff.mp h).1
  exact (List.getElem?_inj l (by decide +kernel)).mp (by rw [h, h'])
theorem str_dec {s s' : Str} (h : decide (V.str s = V.str s') = true) : s = s' := V.str.inj (of_decide_eq_true h)
theorem rows_pair {K : PySem.W.Frag} {H : Hp} {xs : List V} {ps : List (Nat × Nat)} (h : Rows K H xs ps) : ∀ i, i < xs.length → ∃ t, xs[i]? = some (.ref t) ∧ SqT K H t [.int ((ps.getD i (0, 0)).1 : Int), .int ((ps.getD i (0, 0)).2 : Int)] := fun i hi => by
  obtain ⟨t, p, h1, h2, h3⟩ := h.at (List.getElem?_eq_getElem hi)
  refine ⟨t, by rw [List.getElem?_eq_getElem hi, h1], ?_⟩
  rw [List.getD_eq_getElem?_getD, h2]
  exact h3
theorem given_ps (ps : List (Nat × Nat)) (g : Nat × Nat → V) : given ps.length (fun _ => true) (fun i => g (ps.getD i (0, 0))) = ps.map g := by
  rw [given_all]
  apply List.ext_getElem
  · simp
  · intro i h1 h2
    have hi : i < ps.length := by simpa using h1
    rw [List.getElem_map, List.getElem_range, List.getElem_map, List.getD_eq_getElem?_getD, List.getElem?_eq_getElem hi]
    rfl
theorem cnt_sum (ps : List (Nat × Nat)) : (ps.map fun q => ((q.2 : Nat) : Int)).sum = (cntE ps : Int) := by
  unfold cntE
  induction ps with
  | nil => rfl
  | cons q ps ih =>
    rw [List.map_cons, List.sum_cons, List.map_cons, List.sum_cons, ih, Int.natCast_add]
theorem any_flat (ps : List (Nat × Nat)) : (ps.map fun q => decide ((1 : Int) < (q.2 : Int))).any id = !flatE ps := by
  unfold flatE
  rw [List.any_map]
  induction ps with
  | nil => rfl
  | cons q ps ih =>
    rw [List.any_cons, List.all_cons, ih, Bool.not_and]
    congr 1
    show decide ((1 : Int) < (q.2 : Int)) = !decide (q.2 ≤ 1)
    by_cases z : q.2 ≤ 1
    · rw [decide_eq_true z, decide_eq_false (by omega)]
      rfl
    · rw [decide_eq_false z, decide_eq_true (by omega)]
      rfl
theorem sum_S1 (n : Nat) (g : Nat → Int) : ((List.range n).map g).sum = S1 n fun k => g (k - 1) := by
  induction n with
  | zero => rfl
  | succ n ih =>
    rw [List.range_succ, List.map_append, List.sum_append, ih]
    simp [S1]
theorem fac_len {ps : List (Nat × Nat)} {n : Nat} (h : Fac n ps) (hn : n ≤ 1000000000) : ps.length ≤ 90000 := by
  have : ps.length ≤ cntD ps := by
    have gen : ∀ ps : List (Nat × Nat), (∀ q ∈ ps, 1 ≤ q.2) → ps.length < cntD ps := fun ps => by
      induction ps with
      | nil => intro _; decide
      | cons q ps ih =>
        intro h
        have a := ih fun r hr => h r (List.mem_cons_of_mem _ hr)
        have b := h q List.mem_cons_self
        have c : 2 * cntD ps ≤ (q.2 + 1) * cntD ps := Nat.mul_le_mul_right _ (by omega)
        show ps.length + 1 < (q.2 + 1) * cntD ps
        omega
    exact Nat.le_of_lt (gen ps fun q hq => (h.2.1 q hq).2)
  exact Nat.le_trans this (cnt_bound h hn)
theorem fac_len2 {ps : List (Nat × Nat)} {n : Nat} (h : Fac n ps) (hn : n ≤ 1000000000) : ps.length ≤ 40000 := by
  have two : ∀ ps : List (Nat × Nat), (∀ q ∈ ps, IsP q.1 ∧ 1 ≤ q.2) → 2 ^ ps.length ≤ prodF ps := fun ps => by
    induction ps with
    | nil => intro _; decide
    | cons q ps ih =>
      intro h
      have a := ih fun r hr => h r (List.mem_cons_of_mem _ hr)
      have b := h q List.mem_cons_self
      have c : 2 ≤ q.1 ^ q.2 := Nat.le_trans b.1.1 (by
        calc q.1 = q.1 ^ 1 := (Nat.pow_one _).symm
          _ ≤ q.1 ^ q.2 := Nat.pow_le_pow_right (by have := b.1.1; omega) b.2)
      show 2 ^ (ps.length + 1) ≤ q.1 ^ q.2 * prodF ps
      rw [Nat.pow_succ, Nat.mul_comm]
      exact Nat.mul_le_mul c a
  have t := two ps h.2.1
  rw [← h.1] at t
  rcases Nat.lt_or_ge 40000 ps.length with z | z
  · have a : 2 ^ 31 ≤ 2 ^ ps.length := Nat.pow_le_pow_right (by decide) (by omega)
    have c : (1000000000 : Nat) < 2 ^ 31 := by decide
    omega
  · exact z
theorem pI_snoc (l : List Int) (z : Int) : pI (l ++ [z]) = pI l * z := by
  induction l with
  | nil =>
    show z * 1 = 1 * z
    rw [Int.mul_one, Int.one_mul]
  | cons a l ih =>
    show a * pI (l ++ [z]) = a * pI l * z
    rw [ih, Int.mul_assoc]
/-- the product of what a loop takes, pair by pair -/
theorem w_loop {G : Pm} {H0 : Hp} {x : V} {n : Nat} {a : Addr} {xs : List V} {ps : List (Nat × Nat)} {g : Nat × Nat → Int} {tu : TS} {D : Ends} {tz : TS} {y4 y5 y6 : Option V}
    (hS : SqL G.K H0 a xs) (hR : Rows G.K H0 xs ps)
    (hb : ∀ (q : Nat × Nat) (z : Int) (N : Ends) (y6 : Option V) H, q ∈ ps → Ex H0 H → (∀ y6 H1, Ex H H1 → N.nx [some x, some (.int (n : Int)), some (.ref a), some (.int (z * g q)), some (.int (q.1 : Int)), some (.int (q.2 : Int)), y6] H1) → tu N [some x, some (.int (n : Int)), some (.ref a), some (.int z), some (.int (q.1 : Int)), some (.int (q.2 : Int)), y6] H)
    (hz : ∀ y4 y5 y6 H1, Ex H0 H1 → tz D [some x, some (.int (n : Int)), some (.ref a), some (.int (pI (ps.map g))), y4, y5, y6] H1) :
    tSeq (tFor (iList G.K (tVar 2)) (gTup G.K 2 (gCons (gName 4) (gCons (gName 5) gNil))) tu) tz D [some x, some (.int (n : Int)), some (.ref a), some (.int 1), y4, y5, y6] H0 := by
  refine q_forL (ev_var rfl) hS (fun i σ' H' => ∃ y4 y5 y6 : Option V, σ' = [some x, some (.int (n : Int)), some (.ref a), some (.int (pI ((ps.take i).map g))), y4, y5, y6] ∧ Ex H0 H')
    (fun H1 e1 => ⟨_, _, _, rfl, e1⟩) (fun i σ' H' _ ⟨_, _, _, _, e⟩ => ex_l e hS) ?_ ?_
  · rintro i v σ' H1 hi ⟨y4, y5, y6, rfl, e1⟩
    obtain ⟨t, q, rfl, hq, hT⟩ := hR.at hi
    refine g_tup2 (ex_t e1 hT) ?_
    refine hb q _ _ _ H1 (List.mem_of_getElem? hq) e1 fun y6 H2 e2 => ⟨some (.int (q.1 : Int)), some (.int (q.2 : Int)), y6, ?_, e1.trans e2⟩
    rw [take_succ hq, List.map_append]
    show _ = [_, _, _, some (V.int (pI ((ps.take i).map g ++ [g q]))), _, _, _]
    rw [pI_snoc]
  · rintro σ' H1 ⟨y4, y5, y6, rfl, e1⟩
    rw [hR.len, List.take_length]
    exact hz _ _ _ H1 e1
theorem pure_worth_by (G : Pm) : P_worth_by G := by
  intro x0 x1 x2 H Q E h
  obtain ⟨i, n, ps, ⟨s, hs, rfl⟩, ⟨rfl, n1, n9⟩, ⟨a, xs, rfl, hS, hR⟩, hF, q⟩ := h
  have hl : xs.length = ps.length := hR.len
  have l4 := fac_len2 hF n9
  have fo := facOf_eq hF
  have t : ∀ (σ : L2.St) (H : Hp) (s' : Str), σ[0]? = some (some (.str s)) → EvT (tTest (tOp rEq (tVar 0) (tC (.str s')))) σ H (decide (V.str s = V.str s')) := fun σ H s' h => et_test (ev_op (ev_var h) ev_c (rv_eq rfl))
  refine q_when (t _ _ _ rfl) (fun hb H1 e1 => ?_) fun b0 H1 e1 => ?_
  · have : i = 0 := nms_idx hs (j := 0) (by rw [str_dec hb]; rfl)
    subst this
    refine s_ret (v := .int (W 0 n)) (ev_is (ev_intB (ev_op (ev_var rfl) ev_c (rv_eq rfl))) ?_) fun H2 e2 => q H2 (e1.trans e2)
    show _ = V.int (u1 n)
    unfold u1
    by_cases z : n = 1
    · subst z
      rfl
    · have : decide (V.int (n : Int) = V.int 1) = false := decide_eq_false fun y => z (by have := V.int.inj y; omega)
      rw [this, if_neg z]
      rfl
  refine q_when (t _ _ _ rfl) (fun hb H2 e2 => ?_) fun b1 H2 e2 => ?_
  · have : i = 1 := nms_idx hs (j := 1) (by rw [str_dec hb]; rfl)
    subst this
    exact s_ret (v := .int (W 1 n)) ev_c fun H3 e3 => q H3 ((e1.trans e2).trans e3)
  refine q_when (t _ _ _ rfl) (fun hb H3 e3 => ?_) fun b2 H3 e3 => ?_
  · have : i = 2 := nms_idx hs (j := 2) (by rw [str_dec hb]; rfl)
    subst this
    exact s_ret (v := .int (W 2 n)) (ev_var rfl) fun H4 e4 => q H4 (((e1.trans e2).trans e3).trans e4)
  have e13 := (e1.trans e2).trans e3
  refine q_when (t _ _ _ rfl) (fun hb H4 e4 => ?_) fun b3 H4 e4 => ?_
  · have : i = 9 := nms_idx hs (j := 9) (by rw [str_dec hb]; rfl)
    subst this
    have hS4 := ex_l (e13.trans e4) hS
    have hR4 := hR.ex (e13.trans e4)
    have wp : ((∃ p, ps = [(p, 1)]) → W 9 n = 1) ∧ ((¬ ∃ p, ps = [(p, 1)]) → W 9 n = 0) := by
      show (_ → wPrime n = _) ∧ (_ → wPrime n = _)
      unfold wPrime
      rw [many_fac hF]
      exact ⟨fun z => if_pos ((prime_fac fun q hq => (hF.2.1 q hq).2).mpr z), fun z => if_neg fun y => z ((prime_fac fun q hq => (hF.2.1 q hq).2).mp y)⟩
    match ps, xs, hR4, hl, wp, hS4, hS with
    | [p], [x], hR4, _, wp, hS4, _ =>
      obtain ⟨tt, ht, hT'⟩ := rows_pair hR4 0 (Nat.succ_pos _)
      have hT : SqT G.K H4 tt [.int (p.1 : Int), .int (p.2 : Int)] := hT'
      have ex : x = .ref tt := Option.some.inj ht
      subst ex
      refine s_ret (v := .int (W 9 n)) (ev_is (ev_intB (k := decide (V.int ((1 : Nat) : Int) = V.int 1) && decide (V.int (p.2 : Int) = V.int 1)) (ev_andV (ev_op (ev_lenL (ev_var rfl) hS4) ev_c (rv_eq rfl)) fun _ => ev_op (ev_op (ev_op (ev_var rfl) ev_c (rv_ixL hS4 (v := .ref tt) rfl)) ev_c (rv_ixT hT (v := .int (p.2 : Int)) rfl)) ev_c (rv_eq rfl))) ?_) fun H5 e5 => q H5 ((e13.trans e4).trans e5)
      by_cases z : p.2 = 1
      · rw [wp.1 ⟨p.1, by rw [show p = (p.1, 1) from Prod.ext rfl z]⟩, z]
        rfl
      · have : decide (V.int (p.2 : Int) = V.int 1) = false := decide_eq_false fun y => z (by have := V.int.inj y; omega)
        rw [this, wp.2]
        · rfl
        · rintro ⟨r, hr⟩
          exact z (by have := List.cons.inj hr; rw [this.1])
    | [], [], _, _, wp, hS4, _ =>
      refine s_ret (v := .int (W 9 n)) (ev_is (ev_intB (k := decide (V.int ((0 : Nat) : Int) = V.int 1) && true) (ev_andV (ev_op (ev_lenL (ev_var rfl) hS4) ev_c (rv_eq rfl)) fun z => (by cases z))) ?_) fun H5 e5 => q H5 ((e13.trans e4).trans e5)
      rw [wp.2 (by rintro ⟨r, hr⟩; cases hr)]
      rfl
    | p :: r :: ps, x :: y :: xs, _, _, wp, hS4, _ =>
      have : decide (V.int (((x :: y :: xs).length : Nat) : Int) = V.int 1) = false := decide_eq_false fun z => by
        have := V.int.inj z
        simp at this
        omega
      refine s_ret (v := .int (W 9 n)) (ev_is (ev_intB (k := decide (V.int (((x :: y :: xs).length : Nat) : Int) = V.int 1) && true) (ev_andV (ev_op (ev_lenL (ev_var rfl) hS4) ev_c (rv_eq rfl)) fun z => (by rw [this] at z; cases z))) ?_) fun H5 e5 => q H5 ((e13.trans e4).trans e5)
      rw [wp.2 (by rintro ⟨r, hr⟩; cases hr), this]
      rfl
    | [], x :: xs, hR4, hl, _, _, _ => cases hl
    | p :: ps, [], hR4, hl, _, _, _ => cases hl
    | [p], x :: y :: xs, _, hl, _, _, _ => cases hl
    | p :: r :: ps, [x], _, hl, _, _, _ => cases hl
  have e14 := e13.trans e4
  refine q_when (t _ _ _ rfl) (fun hb H5 e5 => ?_) fun b4 H5 e5 => ?_
  · have : i = 8 := nms_idx hs (j := 8) (by rw [str_dec hb]; rfl)
    subst this
    have hS5 := ex_l (e14.trans e5) hS
    have hR5 := hR.ex (e14.trans e5)
    refine s_ret (v := .int (W 8 n)) (ev_is (ev_op ev_c (ev_op ev_c (ev_op (ev_sumN (ns := ps.map fun q => ((q.2 : Nat) : Int)) (el_eq (el_lcP (fun i => .int ((ps.getD i (0, 0)).1 : Int)) (fun i => .int ((ps.getD i (0, 0)).2 : Int)) (fun _ => true) (fun i => .int ((ps.getD i (0, 0)).2 : Int)) (ev_var rfl) hS5 (by omega) (fun x y => rfl) (fun i hi H6 e6 => rows_pair (hR5.ex e6) i hi) (fun _ _ _ _ => et_yes) fun _ _ _ _ _ => ev_var rfl) ?_)) ev_c (rv_I (by decide))) (rv_I (cm_l (by decide) (by decide)))) rv_I0) ?_) fun H6 e6 => q H6 ((e14.trans e5).trans e6)
    · rw [hl, List.map_map]
      exact given_ps ps fun q => V.int ((q.2 : Nat) : Int)
    · show _ = V.int (wEven n)
      unfold wEven
      rw [fo, cnt_sum]
  have e15 := e14.trans e5
  have hS5 := ex_l e15 hS
  have hR5 := hR.ex e15
  have hin : inV (.str s) [V.str "free", V.str "mark"] = (decide (s = "free") || decide (s = "mark")) := by
    unfold inV
    simp only [List.any_cons, List.any_nil, eqV, Bool.or_false]
    congr 1
    · by_cases z : s = "free"
      · subst z
        rfl
      · rw [decide_eq_false z]
        simp
        exact fun y => z y.symm
    · by_cases z : s = "mark"
      · subst z
        rfl
      · rw [decide_eq_false z]
        simp
        exact fun y => z y.symm
  refine q_when (b := decide (s = "free") || decide (s = "mark")) (et_is (et_test (ev_inU (ev_var rfl) (eu_tup (ea_cons ev_c (ea_cons ev_c ea_nil)) (by show 2 ≤ 100000; decide)) rfl rfl)) hin) (fun hb H6 e6 => ?_) fun b5 H6 e6 => ?_
  · have hS6 := ex_l e6 hS5
    have hR6 := hR5.ex e6
    refine q_when (b := !flatE ps) (et_is (et_B (ev_anyN (bs := ps.map fun q => decide ((1 : Int) < (q.2 : Int))) (el_eq (el_lcP (fun i => .int ((ps.getD i (0, 0)).1 : Int)) (fun i => .int ((ps.getD i (0, 0)).2 : Int)) (fun _ => true) (fun i => .bl (decide ((1 : Int) < ((ps.getD i (0, 0)).2 : Int)))) (ev_var rfl) hS6 (by omega) (fun x y => rfl) (fun i hi H7 e7 => rows_pair (hR6.ex e7) i hi) (fun _ _ _ _ => et_yes) fun _ _ _ _ _ => ev_op (ev_var rfl) ev_c rv_I0) (by
      rw [hl, List.map_map]
      exact given_ps ps fun q => V.bl (decide ((1 : Int) < (q.2 : Int))))))) (any_flat ps)) (fun hb2 H7 e7 => ?_) fun hb2 H7 e7 => ?_
    · have nf : flatE ps = false := by simpa using hb2
      have w6 : wFree n = 0 := by
        unfold wFree
        rw [fo, nf]
        rfl
      refine s_ret (v := .int (W i n)) (ev_is ev_c ?_) fun H8 e8 => q H8 ((e15.trans (e6.trans e7)).trans e8)
      rcases Bool.or_eq_true_iff.mp hb with z | z
      · have : i = 6 := nms_idx hs (j := 6) (by rw [of_decide_eq_true z]; rfl)
        subst this
        show _ = V.int (wFree n)
        rw [w6]
      · have : i = 7 := nms_idx hs (j := 7) (by rw [of_decide_eq_true z]; rfl)
        subst this
        show _ = V.int (wMark n)
        unfold wMark
        rw [w6, Int.zero_mul]
    · have yf : flatE ps = true := by simpa using hb2
      have w6 : wFree n = 1 := by
        unfold wFree
        rw [fo, yf]
        rfl
      refine s_ret (v := .int (W i n)) (ev_if (t _ _ _ rfl) (fun hb3 => ?_) fun hb3 => ?_) fun H8 e8 => q H8 ((e15.trans (e6.trans e7)).trans e8)
      · have : i = 6 := nms_idx hs (j := 6) (by rw [str_dec hb3]; rfl)
        subst this
        refine ev_is ev_c ?_
        show _ = V.int (wFree n)
        rw [w6]
      · have : i = 7 := by
          rcases Bool.or_eq_true_iff.mp hb with z | z
          · rw [of_decide_eq_true z] at hb3
            simp at hb3
          · exact nms_idx hs (j := 7) (by rw [of_decide_eq_true z]; rfl)
        subst this
        refine ev_is (ev_op ev_c (ev_op ev_c (ev_op (ev_lenL (ev_var rfl) (ex_l e7 hS6)) ev_c (rv_I (by decide))) (rv_I (cm_l (by decide) (by decide)))) rv_I0) ?_
        show _ = V.int (wMark n)
        unfold wMark wEven
        rw [w6, Int.one_mul, fo, flat_cnt (fun q hq => (hF.2.1 q hq).2) yf, hl]
  refine q_asg (v := .int 1) ev_c fun H7 e7 => ?_
  have e17 := e15.trans (e6.trans e7)
  have hi : i = 3 ∨ i = 4 ∨ i = 5 := by
    have l : i < 10 := (List.getElem?_eq_some_iff.mp hs).1
    have c : i = 0 ∨ i = 1 ∨ i = 2 ∨ i = 3 ∨ i = 4 ∨ i = 5 ∨ i = 6 ∨ i = 7 ∨ i = 8 ∨ i = 9 := by omega
    rcases c with rfl | rfl | rfl | rfl | rfl | rfl | rfl | rfl | rfl | rfl
    · cases hs; exact absurd b0 (by decide +kernel)
    · cases hs; exact absurd b1 (by decide +kernel)
    · cases hs; exact absurd b2 (by decide +kernel)
    · exact .inl rfl
    · exact .inr (.inl rfl)
    · exact .inr (.inr rfl)
    · cases hs; exact absurd b5 (by decide +kernel)
    · cases hs; exact absurd b5 (by decide +kernel)
    · cases hs; exact absurd b4 (by decide +kernel)
    · cases hs; exact absurd b3 (by decide +kernel)
  have hS7 := ex_l e17 hS
  have hR7 := hR.ex e17
  have pb : ∀ q ∈ ps, q.1 ≤ 1000000000 ∧ q.2 ≤ 30 ∧ 1 ≤ q.2 := fun q hq => by
    have := prim_le hF hq
    exact ⟨by omega, exp_le (hF.2.1 q hq).1.1 this.1 n9, (hF.2.1 q hq).2⟩
  rcases hi with rfl | rfl | rfl
  · cases hs
    have w : W 3 n = pI (ps.map fun q => ((q.2 + 1 : Nat) : Int)) := many_fac hF
    refine w_loop (g := fun q => ((q.2 + 1 : Nat) : Int)) hS7 hR7 (fun q z N y6 H8 hq e8 k => ?_) fun y4 y5 y6 H8 e8 => s_ret (ev_var rfl) fun H9 e9 => by
      rw [← w]
      exact q H9 (e17.trans (e8.trans e9))
    have := pb q hq
    refine s_if (b := true) (et_is (t _ _ _ rfl) (by decide +kernel)) (fun _ H9 e9 => ?_) fun hb => (by cases hb)
    exact s_asg (ev_op (ev_var rfl) (ev_op (ev_var rfl) ev_c rv_I0) (rv_I (cm_r (by omega) (by omega)))) fun H10 e10 => k _ H10 (e9.trans e10)
  · cases hs
    have w : W 4 n = pI (ps.map fun q => S1 (q.2 + 1) fun k => ((q.1 ^ (k - 1) : Nat) : Int)) := sum_fac hF
    refine w_loop (g := fun q => S1 (q.2 + 1) fun k => ((q.1 ^ (k - 1) : Nat) : Int)) hS7 hR7 (fun q z N y6 H8 hq e8 k => ?_) fun y4 y5 y6 H8 e8 => s_ret (ev_var rfl) fun H9 e9 => by
      rw [← w]
      exact q H9 (e17.trans (e8.trans e9))
    have pq := pb q hq
    refine s_if (b := false) (et_is (t _ _ _ rfl) (by decide +kernel)) (fun hb => by cases hb) fun _ H9 e9 => ?_
    refine s_if (b := true) (et_is (t _ _ _ rfl) (by decide +kernel)) (fun _ H10 e10 => ?_) fun hb => (by cases hb)
    refine s_asg (ev_op (ev_var rfl) (ev_is (w := .int (S1 (q.2 + 1) fun k => ((q.1 ^ (k - 1) : Nat) : Int))) (ev_sumN (ns := (List.range (q.2 + 1)).map fun k => ((q.1 ^ k : Nat) : Int)) (el_eq (el_lcR1 (n := (q.2 : Int) + 1) (fun _ => true) (fun k => V.int ((q.1 ^ k : Nat) : Int)) (ea_cons (ev_op (ev_var rfl) ev_c rv_I0) ea_nil) (by omega) (fun x => rfl) (fun _ _ _ _ => et_yes) fun k H11 e11 hk _ => ev_ca2 (ev_var rfl) (ev_var rfl) fun H12 e12 Q' q' => ⟨q.1, k, rfl, by omega, rfl, by omega, q'⟩) ?_)) ?_) (rv_I ?_)) fun H11 e11 => k _ H11 (e9.trans (e10.trans e11))
    · rw [show ((q.2 : Int) + 1).toNat = q.2 + 1 by omega, given_all, List.map_map]
      rfl
    · rw [sum_S1]
    · have hp := hF.2.1 q hq
      have bound := S1_abs (n := q.2 + 1) (f := fun k => ((q.1 ^ (k - 1) : Nat) : Int)) (M := 1000000000) fun k h1 h2 => by
        have a : q.1 ^ (k - 1) ≤ q.1 ^ q.2 := Nat.pow_le_pow_right (by have := hp.1.1; omega) (by omega)
        have b := (prim_le hF hq).1
        show (((q.1 ^ (k - 1) : Nat) : Int)).natAbs ≤ _
        rw [Int.natAbs_natCast]
        omega
      have c : (q.2 + 1) * 1000000000 ≤ 31 * 1000000000 := Nat.mul_le_mul_right _ (by omega)
      exact cm_r (by omega) (by omega)
  · cases hs
    have w : W 5 n = pI (ps.map fun q => ((q.1 ^ (q.2 - 1) : Nat) : Int) * ((q.1 : Int) - 1)) := shares_fac hF
    refine w_loop (g := fun q => ((q.1 ^ (q.2 - 1) : Nat) : Int) * ((q.1 : Int) - 1)) hS7 hR7 (fun q z N y6 H8 hq e8 k => ?_) fun y4 y5 y6 H8 e8 => s_ret (ev_var rfl) fun H9 e9 => by
      rw [← w]
      exact q H9 (e17.trans (e8.trans e9))
    have pq := pb q hq
    refine s_if (b := false) (et_is (t _ _ _ rfl) (by decide +kernel)) (fun hb => by cases hb) fun _ H9 e9 => ?_
    refine s_if (b := false) (et_is (t _ _ _ rfl) (by decide +kernel)) (fun hb => by cases hb) fun _ H10 e10 => ?_
    refine s_asg (ev_is (ev_op (ev_op (ev_var rfl) (ev_ca2 (z := .int ((q.1 ^ (q.2 - 1) : Nat) : Int)) (ev_var rfl) (ev_is (w := .int ((q.2 - 1 : Nat) : Int)) (ev_op (ev_var rfl) ev_c rv_I0) (by congr 1; omega)) fun H12 e12 Q' q' => ⟨q.1, q.2 - 1, rfl, by omega, rfl, by omega, q'⟩) (rv_I ?_)) (ev_op (ev_var rfl) ev_c rv_I0) (rv_I (cm_r (by omega) (by omega)))) (by rw [Int.mul_assoc])) fun H11 e11 => k _ H11 (e9.trans (e10.trans e11))
    have h1 := (prim_le hF hq).1
    have h2 : q.1 ^ (q.2 - 1) ≤ q.1 ^ q.2 := Nat.pow_le_pow_right (by have := (hF.2.1 q hq).1.1; omega) (by omega)
    have h3 := Int.ofNat_le.mpr (Nat.le_trans h2 (Nat.le_trans h1 n9))
    have h4 := Int.natCast_nonneg (q.1 ^ (q.2 - 1))
    exact cm_r (by omega) (by omega)
/-! ### named_worth, named_table -/
theorem pure_named_worth (G : Pm) : P_named_worth G := by
  intro x0 x1 H Q E h
  have nm : ∀ {D : Ends} {tz : TS} {σ : L2.St} {H : Hp}, σ[0]? = some (some x0) → (((∃ i, isN x0 i) ∧ ∀ H1, Ex H H1 → tz D σ H1) ∨ (NameBad x0 ∧ No G.BadName H E)) → tSeq (tDrop (tCall (sp_need_name G) [] E (tCons (tVar 0) tNil))) tz D σ H := fun {D tz σ H} hs hh => q_call1 (ev_var hs) fun H1 e1 => by
    rcases hh with ⟨h1, k⟩ | ⟨h1, no⟩
    · exact .inl ⟨h1, fun H2 e2 => k H2 (e1.trans e2)⟩
    · exact .inr ⟨h1, no.ex e1⟩
  rcases h with ⟨i, n, hi, ⟨rfl, n1, n9⟩, q⟩ | ⟨hb, no⟩ | ⟨hi, hb, no⟩
  · refine nm rfl (.inl ⟨⟨i, hi⟩, fun H1 e1 => ?_⟩)
    refine call3c (Q := Q) (ev_var (i := 0) (v := x0) rfl) (ev_var (i := 1) (v := .int (n : Int)) rfl) fun H3 e3 => ?_
    refine call1 (Q := fun v H' => R_worth_by G x0 (.int (n : Int)) v H' Q E) (ev_var rfl) fun H4 e4 => .inl ⟨n, ⟨rfl, n1, n9⟩, fun ps hF p xs H5 p0 e5 h5 hR => ⟨i, n, ps, hi, ⟨rfl, n1, n9⟩, ⟨p, xs, rfl, sq_of h5, hR⟩, hF, RetV.ex (((e1.trans e3).trans e4).trans e5) q⟩⟩
  · exact nm rfl (.inr ⟨hb, no⟩)
  · refine nm rfl (.inl ⟨hi, fun H1 e1 => ?_⟩)
    refine call3c (Q := Q) (ev_var (i := 0) (v := x0) rfl) (ev_var (i := 1) (v := x1) rfl) fun H3 e3 => ?_
    exact call1 (Q := fun v H' => R_worth_by G x0 x1 v H' Q E) (ev_var rfl) fun H4 e4 => .inr ⟨hb, no.ex ((e1.trans e3).trans e4)⟩
theorem pure_named_table (G : Pm) : P_named_table G := by
  intro x0 x1 H Q E h
  have nm : ∀ {D : Ends} {tz : TS} {σ : L2.St} {H : Hp}, σ[0]? = some (some x0) → (((∃ i, isN x0 i) ∧ ∀ H1, Ex H H1 → tz D σ H1) ∨ (NameBad x0 ∧ No G.BadName H E)) → tSeq (tDrop (tCall (sp_need_name G) [] E (tCons (tVar 0) tNil))) tz D σ H := fun {D tz σ H} hs hh => q_call1 (ev_var hs) fun H1 e1 => by
    rcases hh with ⟨h1, k⟩ | ⟨h1, no⟩
    · exact .inl ⟨h1, fun H2 e2 => k H2 (e1.trans e2)⟩
    · exact .inr ⟨h1, no.ex e1⟩
  rcases h with ⟨i, n, hi, rfl, n1, n5, q⟩ | ⟨hb, no⟩ | ⟨hi, hb, no⟩
  · refine nm rfl (.inl ⟨⟨i, hi⟩, fun H1 e1 => ?_⟩)
    refine q_num (ev_var rfl) ev_c ev_c (.inl ⟨⟨_, rfl, by omega, by omega⟩, fun H2 e2 => ?_⟩)
    refine s_retL (xs := (tab n (W i)).map V.int) ?_ fun p H3 p0 e3 h3 => q p H3 (fresh_back (e1.trans e2) p0) ((e1.trans e2).trans e3) h3
    have g : (tab n (W i)).map V.int = given n (fun _ => true) fun k => V.int (W i (k + 1)) := by
      rw [given_all, tab, List.map_map]
      rfl
    rw [g]
    have := el_lcR2 (σ := [some x0, some (.int (n : Int)), none]) (H := H2) (ta := tCons (tC (.int 1)) (tCons (tOp oAdd (tVar 1) (tC (.int 1))) tNil)) (j := 2) (vs := [2]) (u := tYes) (te := tCall (sp_worth_by G) [] E0 (tCons (tVar 0) (tCons (tVar 2) (tCons (tCall (sp_apart G) [] E0 (tCons (tVar 2) tNil)) tNil)))) (lo := 1) (n := (n : Int) + 1) (fun _ => true) (fun k => V.int (W i (k + 1))) (ea_cons ev_c (ea_cons (ev_op (ev_var rfl) ev_c rv_I0) ea_nil)) (by omega) (fun x => rfl) (fun _ _ _ _ => et_yes)
      fun k H3 e3 hk _ H4 e4 Q' q' => by
        refine call3c (Q := Q') (ev_var (i := 0) (v := x0) rfl) (ev_var (i := 2) (v := .int (1 + (k : Int))) rfl) fun H6 e6 => ?_
        have zk : isZ (.int (1 + (k : Int))) (k + 1) := ⟨by congr 1; omega, by omega, by omega⟩
        exact call1 (Q := fun v H' => R_worth_by G x0 (.int (1 + (k : Int))) v H' Q' E0) (ev_var rfl) fun H7 e7 => ⟨k + 1, zk, fun ps hF p xs H8 p0 e8 h8 hR => ⟨i, k + 1, ps, hi, zk, ⟨p, xs, rfl, sq_of h8, hR⟩, hF, fun H9 e9 => q' H9 (e6.trans (e7.trans (e8.trans e9)))⟩⟩
    rwa [show ((n : Int) + 1 - 1).toNat = n by omega] at this
  · exact nm rfl (.inr ⟨hb, no⟩)
  · exact nm rfl (.inl ⟨hi, fun H1 e1 => q_num (ev_var rfl) ev_c ev_c (.inr ⟨hb, no.ex e1⟩)⟩)
end Sv

set_option Elab.async false
set_option linter.all false
set_option maxRecDepth 100000
set_option maxHeartbeats 4000000
namespace Sv
open PySem PySem.Spec PyProof.Rows L2 Evl HotX L2H LamX
local macro_rules | `(tactic| walk_at "ev") => `(tactic| (repeat' (first | exact ev_var rfl | exact ev_c | exact rv_I0 | exact ea_nil | exact ru_neg | exact rv_eq rfl | exact rv_ne rfl | apply ev_op | apply rv_I | apply ev_un | apply et_test | apply et_B | apply et_not | apply ea_cons | apply ev_maxI | apply ev_minI)))
def errsL (G : Pm) : List (Addr × Str) := [(G.BadTable, "BadTable"), (G.Unlike, "Unlike"), (G.NoWay, "NoWay"), (G.BadName, "BadName"), (G.BadNumber, "BadNumber"), (G.BadSums, "BadSums")]
def WE (G : Pm) (C : Addr) (nm : Str) : Prop := (C, nm) ∈ errsL G
def R__law_worth (_ : Pm) : R2' := fun x y H Q _ => ∃ i n : Nat, isN x i ∧ y = .int (n : Int) ∧ 1 ≤ n ∧ n ≤ 1000 ∧ RetV (.int (W i n)) H Q
def R__law_is_prime (_ : Pm) : R1 := fun x H Q _ => ∃ n : Nat, isZ x n ∧ ∀ b : Bool, (b = true ↔ IsP n) → RetV (.bl b) H Q
def R__law_great (_ : Pm) : R1 := fun x H Q _ => ∃ M : Int, x = .int M ∧ ∀ (n : Nat) (ps : List (Nat × Nat)), 1 ≤ n → n ≤ 1000000000 → Fac n ps → cntE ps ≤ 6 → RetV (.int (n : Int)) H Q
def R__law_pairs_right (_ : Pm) : R1 := fun x H Q _ => ∃ (n : Nat) (ps : List (Nat × Nat)), isZ x n ∧ Fac n ps ∧ cntE ps ≤ 6 ∧ RetV (.bl true) H Q
theorem isP_by {c p : Nat} (hc : 2 ≤ c) (hp : c < p * p) (h : ∀ d, d < p → 2 ≤ d → c % d ≠ 0) : IsP c := facP hc (fun d d2 dc => by
  rcases Nat.lt_or_ge d p with z | z
  · exact absurd (Nat.mod_eq_zero_of_dvd dc) (h d z d2)
  · exact z) hp
abbrev n__law_word : List Str := ["_law_e", "_law_flags", "_law_flag"]
abbrev p__law_word : List Str := ["_law_e"]
def t__law_word (G : Pm) (e C : Addr) : TS :=
  (tSeq (tAsg (tLst (tCons (tCB (rIsE G.K C e) (tCons (tVar 0) (tCons (tC (.ref G.BadTable)) tNil))) (tCons (tCB (rIsE G.K C e) (tCons (tVar 0) (tCons (tC (.ref G.Unlike)) tNil))) (tCons (tCB (rIsE G.K C e) (tCons (tVar 0) (tCons (tC (.ref G.NoWay)) tNil))) tNil)))) (gName 1))
  (tSeq (tAsg (tOp rCat (tVar 1) (tLst (tCons (tCB (rIsE G.K C e) (tCons (tVar 0) (tCons (tC (.ref G.BadName)) tNil))) tNil))) (gName 1))
  (tSeq (tAsg (tOp rCat (tVar 1) (tLst (tCons (tCB (rIsE G.K C e) (tCons (tVar 0) (tCons (tC (.ref G.BadNumber)) tNil))) (tCons (tCB (rIsE G.K C e) (tCons (tVar 0) (tCons (tC (.ref G.BadSums)) tNil))) tNil)))) (gName 1))
  (tSeq (tIfS (tOr (tTest (tOp rNe (tCB (rSum G.K) (tCons (tIntsH G.K (tVar 1)) tNil)) (tC (.int 1)))) (tNot (tB (tCB (rIsE G.K C e) (tCons (tVar 0) (tCons (tC (.ty "ValueError")) tNil))))))
  (tRet (tC (.str "other")))
  tNext)
  (tRet (tOp (rIxL G.K) (tLst (tCons (tC (.str "BadTable")) (tCons (tC (.str "Unlike")) (tCons (tC (.str "NoWay")) (tCons (tC (.str "BadName")) (tCons (tC (.str "BadNumber")) (tCons (tC (.str "BadSums")) tNil))))))) (tBM G.K "list" (rIndex G.K) (tVar 1) (tCons (tC (.bl true)) tNil))))))))
def P__law_word (G : Pm) : Prop := ∀ (e C : Addr) (nm : Str) (H : Hp) (Q : VK), WE G C nm → (∀ H', Ex H H' → Q (.str nm) H') → t__law_word G e C (dn Q) (start n__law_word [.ref e]) H
abbrev n__law_worth : List Str := ["_law_name", "_law_n", "_law_row", "_law_count", "_law_free", "_law_left", "_law_d", "_law_often", "_law_sign", "_law_k"]
abbrev p__law_worth : List Str := ["_law_name", "_law_n"]
def sp__law_worth (G : Pm) : Sp := sp2 (R__law_worth G)
def t__law_worth (G : Pm) (E : XK) : TS :=
  (tSeq (tAsg (tLc (iRng2 (tCons (tC (.int 1)) (tCons (tOp oAdd (tVar 1) (tC (.int 1))) tNil))) (gName 6) (tTest (tOp rEq (tOp oMod (tVar 1) (tVar 6)) (tC (.int 0)))) (tVar 6) [6]) (gName 2))
  (tSeq (tIfS (tTest (tOp (rIn G.K false) (tVar 0) (tTup (tCons (tC (.str "unit")) (tCons (tC (.str "one")) (tCons (tC (.str "self")) tNil))))))
  (tRet (tDGet (tDisp [((tC (.str "unit")), (tCB bInt1 (tCons (tOp rEq (tVar 1) (tC (.int 1))) tNil))), ((tC (.str "one")), (tC (.int 1))), ((tC (.str "self")), (tVar 1))]) (tVar 0)))
  tNext)
  (tSeq (tIfS (tTest (tOp (rIn G.K false) (tVar 0) (tTup (tCons (tC (.str "many")) (tCons (tC (.str "sum")) (tCons (tC (.str "prime")) tNil))))))
  (tRet (tDGet (tDisp [((tC (.str "many")), (tCB (bLenQ G.K) (tCons (tVar 2) tNil))), ((tC (.str "sum")), (tCB (rSum G.K) (tCons (tVar 2) tNil))), ((tC (.str "prime")), (tCB bInt1 (tCons (tOp rEq (tCB (bLenQ G.K) (tCons (tVar 2) tNil)) (tC (.int 2))) tNil)))]) (tVar 0)))
  tNext)
  (tSeq (tIfS (tTest (tOp rEq (tVar 0) (tC (.str "shares"))))
  (tRet (tCB (bLenQ G.K) (tCons (tLc (iRng2 (tCons (tC (.int 1)) (tCons (tOp oAdd (tVar 1) (tC (.int 1))) tNil))) (gName 9) (tTest (tOp rEq (tCB (rMax G.K) (tCons (tLc (iList G.K (tVar 2)) (gName 6) (tTest (tOp rEq (tOp oMod (tVar 9) (tVar 6)) (tC (.int 0)))) (tVar 6) [6]) tNil)) (tC (.int 1)))) (tVar 9) [9]) tNil)))
  tNext)
  (tSeq (tAsg (tC (.int 0)) (gName 3))
  (tSeq (tAsg (tC (.int 1)) (gName 4))
  (tSeq (tAsg (tVar 1) (gName 5))
  (tSeq (tFor (iRng2 (tCons (tC (.int 2)) (tCons (tOp oAdd (tVar 1) (tC (.int 1))) tNil))) (gName 6)
  (tSeq (tAsg (tC (.int 0)) (gName 7))
  (tSeq (tWhile (tTest (tOp rEq (tOp oMod (tVar 5) (tVar 6)) (tC (.int 0))))
  (tSeq (tAsg (tOp oDiv (tVar 5) (tVar 6)) (gName 5))
  (tAsg (tOp oAdd (tVar 7) (tC (.int 1))) (gName 7))))
  (tSeq (tAsg (tOp oAdd (tVar 3) (tVar 7)) (gName 3))
  (tIfS (tTest (tOp cGt (tVar 7) (tC (.int 1))))
  (tAsg (tC (.int 0)) (gName 4))
  tNext)))))
  (tSeq (tAsg (tOp oSub (tC (.int 1)) (tOp oMul (tC (.int 2)) (tOp oMod (tVar 3) (tC (.int 2))))) (gName 8))
  (tRet (tDGet (tDisp [((tC (.str "free")), (tVar 4)), ((tC (.str "mark")), (tOp oMul (tVar 4) (tVar 8))), ((tC (.str "even")), (tVar 8))]) (tVar 0))))))))))))
def P__law_worth (G : Pm) : Prop := ∀ x0 x1 H Q E, R__law_worth G x0 x1 H Q E → t__law_worth G E (dn Q) (start n__law_worth [x0, x1]) H
abbrev n__law_is_prime : List Str := ["_law_n", "_law_d"]
abbrev p__law_is_prime : List Str := ["_law_n"]
def sp__law_is_prime (G : Pm) : Sp := sp1 (R__law_is_prime G)
def t__law_is_prime (G : Pm) (E : XK) : TS :=
  (tSeq (tAsg (tC (.int 2)) (gName 1))
  (tSeq (tWhile (tTest (tOp cLe (tOp oMul (tVar 1) (tVar 1)) (tVar 0)))
  (tSeq (tIfS (tTest (tOp rEq (tOp oMod (tVar 0) (tVar 1)) (tC (.int 0))))
  (tRet (tC (.bl false)))
  tNext)
  (tAsg (tOp oAdd (tVar 1) (tC (.int 1))) (gName 1))))
  (tRet (tOp cGt (tVar 0) (tC (.int 1))))))
def P__law_is_prime (G : Pm) : Prop := ∀ x0 H Q E, R__law_is_prime G x0 H Q E → t__law_is_prime G E (dn Q) (start n__law_is_prime [x0]) H
abbrev n__law_great : List Str := ["_law_more", "_law_found", "_law_j", "_law_prime"]
abbrev p__law_great : List Str := ["_law_more"]
def sp__law_great (G : Pm) : Sp := sp1 (R__law_great G)
def t__law_great (G : Pm) (E : XK) : TS :=
  (tSeq (tAsg (tC (.int 1)) (gName 1))
  (tSeq (tFor (iRng1 (tCons (tC (.int 6)) tNil)) (gName 2)
  (tSeq (tAsg (tOp (rIxL G.K) (tLst (tCons (tC (.int 2)) (tCons (tC (.int 3)) (tCons (tC (.int 5)) (tCons (tC (.int 7)) (tCons (tC (.int 97)) (tCons (tC (.int 1009)) (tCons (tC (.int 31607)) (tCons (tC (.int 2)) tNil))))))))) (tOp oMod (tCall (sp__law_drawn G) [] E (tCons (tVar 0) (tCons (tVar 2) tNil))) (tC (.int 8)))) (gName 3))
  (tIfS (tTest (tOp cLe (tOp oMul (tVar 1) (tVar 3)) (tC (.int 1000000000))))
  (tAsg (tOp oMul (tVar 1) (tVar 3)) (gName 1))
  tNext)))
  (tRet (tVar 1))))
def P__law_great (G : Pm) : Prop := ∀ x0 H Q E, R__law_great G x0 H Q E → t__law_great G E (dn Q) (start n__law_great [x0]) H
abbrev n__law_pairs_right : List Str := ["_law_n", "_law_pairs", "_law_whole", "_law_count", "_law_prime", "_law_often", "_law_again", "_law_primes", "_law_row", "_law_pair", "_law_d"]
abbrev p__law_pairs_right : List Str := ["_law_n"]
def sp__law_pairs_right (G : Pm) : Sp := sp1 (R__law_pairs_right G)
def t__law_pairs_right (G : Pm) (E : XK) : TS :=
  (tSeq (tAsg (tCall (sp_primes_of G) [] E (tCons (tVar 0) tNil)) (gName 1))
  (tSeq (tAsg (tC (.int 1)) (gName 2))
  (tSeq (tAsg (tC (.int 1)) (gName 3))
  (tSeq (tFor (iList G.K (tVar 1)) (gTup G.K 2 (gCons (gName 4) (gCons (gName 5) gNil)))
  (tSeq (tIfS (tOr (tNot (tB (tCall (sp__law_is_prime G) [] E (tCons (tVar 4) tNil)))) (tTest (tOp cLt (tVar 5) (tC (.int 1)))))
  (tRet (tC (.bl false)))
  tNext)
  (tSeq (tAsg (tOp oMul (tVar 3) (tOp oAdd (tVar 5) (tC (.int 1)))) (gName 3))
  (tFor (iRng1 (tCons (tVar 5) tNil)) (gName 6)
  (tAsg (tOp oMul (tVar 2) (tVar 4)) (gName 2))))))
  (tSeq (tAsg (tLc (iList G.K (tVar 1)) (gName 9) tYes (tOp (rIxT G.K) (tVar 9) (tC (.int 0))) [9]) (gName 7))
  (tSeq (tAsg (tCall (sp_divisors G) [] E (tCons (tVar 0) tNil)) (gName 8))
  (tSeq (tIfS (tOr (tTest (tOp rNe (tVar 2) (tVar 0))) (tOr (tTest (tOp (rNeD G.K) (tVar 7) (tSortSet G.K (tVar 7)))) (tOr (tTest (tOp rNe (tCB (bLenQ G.K) (tCons (tVar 8) tNil)) (tVar 3))) (tTest (tOp (rNeD G.K) (tVar 8) (tSortSet G.K (tVar 8)))))))
  (tRet (tC (.bl false)))
  tNext)
  (tRet (tAndV (tCB (rAll G.K) (tCons (tLc (iList G.K (tVar 8)) (gName 10) tYes (tOp rEq (tOp oMod (tVar 0) (tVar 10)) (tC (.int 0))) [10]) tNil)) (tAndV (tOp rEq (tCall (sp_named_worth G) [] E (tCons (tC (.str "many")) (tCons (tVar 0) tNil))) (tVar 3)) (tOp rEq (tCall (sp_named_worth G) [] E (tCons (tC (.str "sum")) (tCons (tVar 0) tNil))) (tCB (rSum G.K) (tCons (tVar 8) tNil)))))))))))))
def P__law_pairs_right (G : Pm) : Prop := ∀ x0 H Q E, R__law_pairs_right G x0 H Q E → t__law_pairs_right G E (dn Q) (start n__law_pairs_right [x0]) H
theorem pure__law_word (G : Pm) (h : ErrsOk G.K G.SieveError ((errsL G).map (·.1))) : P__law_word G := by
  intro e C nm H Q hw q
  obtain ⟨j, hj⟩ := List.getElem?_of_mem hw
  have hC : ((errsL G).map (·.1))[j]? = some C := by
    rw [List.getElem?_map, hj]
    rfl
  have mC := List.mem_of_getElem? hC
  obtain ⟨f1, f2, f3⟩ := one_flag C _ j h.nd hC
  have kk := fun D (hD : D ∈ (errsL G).map (·.1)) => h.two C mC D hD
  refine q_asgL (xs := [V.bl (decide (C = G.BadTable)), V.bl (decide (C = G.Unlike)), V.bl (decide (C = G.NoWay))]) (el_lst (ea_cons (ev_isE rfl (kk _ (by simp [errsL]))) (ea_cons (ev_isE rfl (kk _ (by simp [errsL]))) (ea_cons (ev_isE rfl (kk _ (by simp [errsL]))) (ea_nil)))) (by show 3 ≤ 100000; decide)) fun l0 H0 _ e0 h0 => ?_
  refine q_asgL (xs := [V.bl (decide (C = G.BadTable)), V.bl (decide (C = G.Unlike)), V.bl (decide (C = G.NoWay)), V.bl (decide (C = G.BadName))]) (el_cat (ev_var rfl) h0 (el_lst (ea_cons (ev_isE rfl (kk _ (by simp [errsL]))) (ea_nil)) (by show 1 ≤ 100000; decide)) (by simp)) fun l1 H1 _ e1 h1 => ?_
  refine q_asgL (xs := [V.bl (decide (C = G.BadTable)), V.bl (decide (C = G.Unlike)), V.bl (decide (C = G.NoWay)), V.bl (decide (C = G.BadName)), V.bl (decide (C = G.BadNumber)), V.bl (decide (C = G.BadSums))]) (el_cat (ev_var rfl) h1 (el_lst (ea_cons (ev_isE rfl (kk _ (by simp [errsL]))) (ea_cons (ev_isE rfl (kk _ (by simp [errsL]))) (ea_nil))) (by show 2 ≤ 100000; decide)) (by simp)) fun l2 H2 _ e2 h2 => ?_
  have hf : SqL G.K H2 l2 (((((errsL G).map (·.1)).map fun D => decide (C = D))).map V.bl) := sq_of h2
  refine q_when (b := !decide (V.int 1 = V.int 1) || !true) (et_or (et_test (ev_op (ev_is (ev_sumB (el_intsH (ev_var rfl) hf)) (by rw [f1])) ev_c (rv_ne rfl))) fun _ => et_not (et_B (ev_isET rfl (h.one C mC).ve))) (fun hb => by cases hb) fun _ Hn en => ?_
  have hj2 : ([V.str "BadTable", V.str "Unlike", V.str "NoWay", V.str "BadName", V.str "BadNumber", V.str "BadSums"])[j]? = some (.str nm) := by
    have z : ((errsL G).map fun p => V.str p.2)[j]? = some (.str nm) := by
      rw [List.getElem?_map, hj]
      rfl
    exact z
  refine s_ret (v := .str nm) (ev_opL1 (xs := [V.str "BadTable", V.str "Unlike", V.str "NoWay", V.str "BadName", V.str "BadNumber", V.str "BadSums"]) (el_lst (ea_cons ev_c (ea_cons ev_c (ea_cons ev_c (ea_cons ev_c (ea_cons ev_c (ea_cons ev_c (ea_nil))))))) (by show 6 ≤ 100000; decide)) (fun H1 e1 => ev_idx (ev_var rfl) (ex_l (en.trans e1) hf) f2 f3) fun p H1 h1 _ => rv_ixL (sq_of h1) (atI_nat hj2)) fun Hz ez => q Hz (((e0.trans e1).trans e2).trans (en.trans ez))
theorem pure__law_is_prime (G : Pm) : P__law_is_prime G := by
  intro x0 H Q E h
  obtain ⟨n, ⟨rfl, n1, n9⟩, q⟩ := h
  refine q_asg (v := .int ((2 : Nat) : Int)) ev_c fun H1 e1 => ?_
  refine q_whl (fun m σ' H' => ∃ d : Nat, σ' = [some (.int (n : Int)), some (.int (d : Int))] ∧ m = n + 2 - d ∧ 2 ≤ d ∧ d ≤ 40000 ∧ (∀ c, 2 ≤ c → c ∣ n → d ≤ c) ∧ Ex H H') (n + 2 - 2) ⟨2, rfl, rfl, Nat.le_refl 2, by decide, fun c h _ => h, e1⟩ ?_
  rintro m σ' H2 ⟨d, rfl, rfl, d2, d4, hd, e2⟩
  have hcast : (d : Int) * (d : Int) = ((d * d : Nat) : Int) := (Int.natCast_mul d d).symm
  refine ⟨decide (d * d ≤ n), ?_, fun hb H3 e3 => ?_, fun hb H3 e3 => ?_⟩
  · refine et_is (et_test (ev_op (ev_op (ev_var rfl) (ev_var rfl) (rv_I (cm_l (by omega) (by omega)))) (ev_var rfl) rv_I0)) ?_
    rw [hcast]
    exact decide_eq_decide.mpr Int.ofNat_le
  · have ddn : d * d ≤ n := of_decide_eq_true hb
    have dn : d ≤ n := Nat.le_trans (Nat.le_mul_of_pos_left d (by omega)) ddn
    have d5 : d < 40000 := by
      rcases Nat.lt_or_ge d 40000 with z | z
      · exact z
      · have := Nat.mul_le_mul z z
        omega
    refine q_when (b := decide (n % d = 0)) (et_is (et_test (ev_op (ev_op (ev_var rfl) (ev_var rfl) (rv_I (by omega))) ev_c (rv_eq rfl))) (int_mod_dec n d)) (fun hb2 H4 e4 => ?_) fun hb2 H4 e4 => ?_
    · refine s_ret ev_c fun H5 e5 => q false ⟨fun z => (by cases z), fun hP => ?_⟩ H5 (e2.trans (e3.trans (e4.trans e5)))
      have := hP.2 d d2 (Nat.dvd_of_mod_eq_zero (of_decide_eq_true hb2))
      subst this
      have : 2 * d ≤ d * d := Nat.mul_le_mul_right d d2
      omega
    · refine s_asg (v := .int ((d + 1 : Nat) : Int)) (ev_op (ev_var rfl) ev_c rv_I0) fun H5 e5 => ⟨n + 2 - (d + 1), by omega, d + 1, rfl, rfl, by omega, by omega, fun c c2 cn => ?_, e2.trans (e3.trans (e4.trans e5))⟩
      have l := hd c c2 cn
      rcases Nat.lt_or_ge d c with z | z
      · exact z
      · have : c = d := by omega
        subst this
        exact absurd (Nat.mod_eq_zero_of_dvd cn) (of_decide_eq_false hb2)
  · have ndd : n < d * d := by
      have := of_decide_eq_false hb
      omega
    refine s_ret (v := .bl (decide (1 < n))) (ev_is (ev_op (ev_var rfl) ev_c rv_I0) (by congr 1; exact decide_eq_decide.mpr (by omega))) fun H4 e4 => q (decide (1 < n)) ?_ H4 (e2.trans (e3.trans e4))
    rw [decide_eq_true_iff]
    exact ⟨fun z => facP z hd ndd, fun hP => hP.1⟩
theorem pure__law_great (G : Pm) : P__law_great G := by
  intro x0 H Q E h
  obtain ⟨M, rfl, q⟩ := h
  refine q_asg (v := .int ((1 : Nat) : Int)) ev_c fun H1 e1 => ?_
  refine q_forR1 (n := 6) (ea_cons ev_c ea_nil) (by decide)
    (fun i σ' H' => ∃ (n : Nat) (y2 y3 : Option V) (ps : List (Nat × Nat)), σ' = [some (.int M), some (.int (n : Int)), y2, y3] ∧ 1 ≤ n ∧ n ≤ 1000000000 ∧ Ex H H' ∧ Fac n ps ∧ cntE ps ≤ i) (fun H2 e2 => ⟨1, _, _, [], rfl, Nat.le_refl 1, by decide, e1.trans e2, ⟨rfl, fun _ h => (by cases h), .nil⟩, Nat.le_refl 0⟩) ?_ ?_
  · rintro i σ' H2 hi ⟨n, y2, y3, ps, rfl, n1, n9, e2, hF, hc⟩
    obtain ⟨p, hp, p1, p3, pp⟩ : ∃ p : Nat, atI [V.int 2, V.int 3, V.int 5, V.int 7, V.int 97, V.int 1009, V.int 31607, V.int 2] (drawn M (i : Int) % 8) = some (.int (p : Int)) ∧ 1 ≤ p ∧ p ≤ 31607 ∧ IsP p := by
      have : drawn M (i : Int) % 8 = 0 ∨ drawn M (i : Int) % 8 = 1 ∨ drawn M (i : Int) % 8 = 2 ∨ drawn M (i : Int) % 8 = 3 ∨ drawn M (i : Int) % 8 = 4 ∨ drawn M (i : Int) % 8 = 5 ∨ drawn M (i : Int) % 8 = 6 ∨ drawn M (i : Int) % 8 = 7 := by omega
      rcases this with e | e | e | e | e | e | e | e <;> rw [e]
      · exact ⟨2, rfl, by decide, by decide, isP_by (p := 2) (by decide) (by decide) (by decide +kernel)⟩
      · exact ⟨3, rfl, by decide, by decide, isP_by (p := 2) (by decide) (by decide) (by decide +kernel)⟩
      · exact ⟨5, rfl, by decide, by decide, isP_by (p := 3) (by decide) (by decide) (by decide +kernel)⟩
      · exact ⟨7, rfl, by decide, by decide, isP_by (p := 3) (by decide) (by decide) (by decide +kernel)⟩
      · exact ⟨97, rfl, by decide, by decide, isP_by (p := 10) (by decide) (by decide) (by decide +kernel)⟩
      · exact ⟨1009, rfl, by decide, by decide, isP_by (p := 32) (by decide) (by decide) (by decide +kernel)⟩
      · exact ⟨31607, rfl, by decide, by decide, isP_by (p := 178) (by decide) (by decide) (by decide +kernel)⟩
      · exact ⟨2, rfl, by decide, by decide, isP_by (p := 2) (by decide) (by decide) (by decide +kernel)⟩
    refine q_asg (v := .int (p : Int)) (ev_opL1 (el_lst (ea_cons ev_c (ea_cons ev_c (ea_cons ev_c (ea_cons ev_c (ea_cons ev_c (ea_cons ev_c (ea_cons ev_c (ea_cons ev_c ea_nil)))))))) (by show 8 ≤ 100000; decide)) (fun H3 _ => ev_op (ev_ca2 (ev_var rfl) (ev_var rfl) fun H4 e4 Q' q' => ⟨_, _, rfl, rfl, by omega, by omega, q'⟩) ev_c (rv_I (by decide))) fun r H3 h3 _ => rv_ixL (sq_of h3) hp) fun H3 e3 => ?_
    have hcast : (n : Int) * (p : Int) = ((n * p : Nat) : Int) := (Int.natCast_mul n p).symm
    refine s_when (b := decide (n * p ≤ 1000000000)) (et_is (et_test (ev_op (ev_op (ev_var rfl) (ev_var rfl) (rv_I (cm_l (by omega) (by omega)))) ev_c rv_I0)) ?_) (fun hb H4 e4 => ?_) fun hb H4 e4 => ⟨n, _, _, ps, rfl, n1, n9, e2.trans (e3.trans e4), hF, by omega⟩
    · rw [hcast]
      exact decide_eq_decide.mpr (by omega)
    · exact s_asg (v := .int ((n * p : Nat) : Int)) (ev_is (ev_op (ev_var rfl) (ev_var rfl) (rv_I (cm_l (by omega) (by omega)))) (by rw [hcast])) fun H5 e5 => ⟨n * p, _, _, ins p ps, rfl, Nat.mul_pos n1 p1, of_decide_eq_true hb, e2.trans (e3.trans (e4.trans e5)), fac_ins hF pp, by rw [ins_cnt]; omega⟩
  · rintro σ' H2 ⟨n, y2, y3, ps, rfl, n1, n9, e2, hF, hc⟩
    exact s_ret (ev_var rfl) fun H3 e3 => q n ps n1 n9 hF hc H3 (e2.trans e3)
theorem sum_given (n : Nat) (f : Nat → Bool) (g : Nat → Int) : (((List.range n).filter f).map g).sum = S1 n fun a => if f (a - 1) = true then g (a - 1) else 0 := by
  induction n with
  | zero => rfl
  | succ n ih =>
    rw [List.range_succ, List.filter_append, List.map_append, List.sum_append, ih]
    simp only [S1, Nat.add_sub_cancel]
    cases h : f n <;> simp [List.filter, h]
/-! ### _law_worth -/
theorem nms_case {i : Nat} {s : Str} (h : NMS[i]? = some s) : i = 0 ∨ i = 1 ∨ i = 2 ∨ i = 3 ∨ i = 4 ∨ i = 5 ∨ i = 6 ∨ i = 7 ∨ i = 8 ∨ i = 9 := by
  have l : i < 10 := (List.getElem?_eq_some_iff.mp h).1
  omega
theorem given_divs (n : Nat) : given n (fun i => decide (n % (i + 1) = 0)) (fun i => V.int (1 + (i : Int))) = natV (divs n) := by
  unfold divs natV given
  rw [List.filter_map, List.map_map]
  refine List.map_congr_left fun i _ => ?_
  show V.int (1 + (i : Int)) = V.int ((i + 1 : Nat) : Int)
  congr 1
  omega
theorem sum_divs (n : Nat) (g : Nat → Int) : ((divs n).map g).sum = S1 n fun a => if n % a = 0 then g a else 0 := by
  unfold divs
  rw [List.filter_map, List.map_map]
  have := sum_given n ((fun d => decide (n % d = 0)) ∘ (· + 1)) (g ∘ (· + 1))
  rw [this]
  refine S1_congr fun a h1 h2 => ?_
  show (if decide (n % (a - 1 + 1) = 0) = true then g (a - 1 + 1) else 0) = _
  rw [show a - 1 + 1 = a by omega]
  by_cases z : n % a = 0
  · rw [if_pos z, if_pos (decide_eq_true z)]
  · rw [if_neg z, if_neg (fun y => z (of_decide_eq_true y))]
theorem len_sum {α : Type} (l : List α) : ((l.length : Nat) : Int) = (l.map fun _ => (1 : Int)).sum := by
  induction l with
  | nil => rfl
  | cons a l ih =>
    rw [List.map_cons, List.sum_cons, ← ih, List.length_cons]
    omega
theorem len_divs (n : Nat) : (((divs n).length : Nat) : Int) = wMany n := by
  rw [len_sum, sum_divs]
  rfl
theorem sum_divs_id (n : Nat) : ((divs n).map fun d : Nat => (d : Int)).sum = wSum n := by
  rw [sum_divs]
  refine S1_congr fun a _ _ => ?_
  split
  · show (a : Int) = wId a * 1
    rw [Int.mul_one]
    rfl
  · rfl
theorem divs_len_le (n : Nat) : (divs n).length ≤ n := by
  unfold divs
  refine Nat.le_trans (List.length_filter_le _ _) ?_
  rw [List.length_map, List.length_range]
  exact Nat.le_refl n
/-- the greatest common divisor, among the divisors -/
theorem max_gcd {n k : Nat} (hn : 1 ≤ n) {m : Int} (hm : m ∈ ((divs n).filter fun d => decide (k % d = 0)).map fun d : Nat => (d : Int)) (hx : ∀ y, y ∈ ((divs n).filter fun d => decide (k % d = 0)).map (fun d : Nat => (d : Int)) → y ≤ m) : m = ((Nat.gcd k n : Nat) : Int) := by
  obtain ⟨d, hd, rfl⟩ := List.mem_map.mp hm
  obtain ⟨h1, h2⟩ := List.mem_filter.mp hd
  have d1 := (divs_mem hn d).mp h1
  have d2 := mod_dvd.mp (of_decide_eq_true h2)
  have g := hx ((Nat.gcd k n : Nat) : Int) (List.mem_map.mpr ⟨Nat.gcd k n, List.mem_filter.mpr ⟨(divs_mem hn _).mpr (Nat.gcd_dvd_right k n), decide_eq_true (mod_dvd.mpr (Nat.gcd_dvd_left k n))⟩, rfl⟩)
  have l := Nat.le_of_dvd (Nat.gcd_pos_of_pos_right k hn) (Nat.dvd_gcd d2 d1)
  omega
theorem fac_none {c b : Nat} {qs : List (Nat × Nat)} (hq : ∀ q ∈ qs, IsP q.1 ∧ 1 ≤ q.2) (hb : ∀ q ∈ qs, b < q.1) (b2 : 2 ≤ b) : ¬ b ∣ prodF qs := fun hd => by
  obtain ⟨p, p2, pb, pl⟩ := least_div b2
  have pp : IsP p := ⟨p2, fun d d2 dp => by
    have a := pl d d2 (Nat.dvd_trans dp pb)
    have := Nat.le_of_dvd (by omega) dp
    omega⟩
  obtain ⟨q, hq1, e⟩ := pp.in_prodF hq (Nat.dvd_trans pb hd)
  have := hb q hq1
  have := Nat.le_of_dvd (by omega) pb
  omega
theorem cntE_app (as bs : List (Nat × Nat)) : cntE (as ++ bs) = cntE as + cntE bs := by
  unfold cntE
  rw [List.map_append, List.sum_append]
theorem flatE_app (as bs : List (Nat × Nat)) : flatE (as ++ bs) = (flatE as && flatE bs) := by
  unfold flatE
  rw [List.all_append]
theorem w_row {G : Pm} {σ : L2.St} {H : Hp} {n : Nat} (hs : σ[1]? = some (some (.int (n : Int)))) (hn : n ≤ 1000) (hw : ∀ x, wipe ((wipe σ [6]).set 6 (some x)) [6] = wipe σ [6]) (h1 : ∀ x, ((wipe σ [6]).set 6 (some x))[1]? = some (some (.int (n : Int)))) (h6 : ∀ x, ((wipe σ [6]).set 6 (some x))[6]? = some (some x)) :
    EvL (tLc (iRng2 (tCons (tC (.int 1)) (tCons (tOp oAdd (tVar 1) (tC (.int 1))) tNil))) (gName 6) (tTest (tOp rEq (tOp oMod (tVar 1) (tVar 6)) (tC (.int 0)))) (tVar 6) [6]) σ H (natV (divs n)) := by
  have := el_lcR2 (σ := σ) (H := H) (ta := tCons (tC (.int 1)) (tCons (tOp oAdd (tVar 1) (tC (.int 1))) tNil)) (j := 6) (vs := [6]) (u := tTest (tOp rEq (tOp oMod (tVar 1) (tVar 6)) (tC (.int 0)))) (te := tVar 6) (lo := 1) (n := (n : Int) + 1) (fun i => decide (n % (i + 1) = 0)) (fun i => V.int (1 + (i : Int))) (ea_cons ev_c (ea_cons (ev_op (ev_var hs) ev_c rv_I0) ea_nil)) (by omega) hw
    (fun i H1 e1 hi => et_is (et_test (ev_op (ev_op (ev_var (h1 _)) (ev_var (h6 _)) (rv_I (by omega))) ev_c (rv_eq rfl))) (by rw [show (1 + (i : Int)) = ((i + 1 : Nat) : Int) by omega, int_mod_dec])) fun i H1 e1 hi _ => ev_var (h6 _)
  rw [show ((n : Int) + 1 - 1).toNat = n by omega, given_divs] at this
  exact this
theorem natV_filter (l : List Nat) (p : Nat → Bool) : given l.length (fun i => p (l.getD i 0)) (fun i => V.int ((l.getD i 0 : Nat) : Int)) = natV (l.filter p) := by
  have e : (List.range l.length).map (fun i => l.getD i 0) = l := by
    apply List.ext_getElem
    · simp
    · intro i h1 h2
      rw [List.getElem_map, List.getElem_range, List.getD_eq_getElem?_getD, List.getElem?_eq_getElem h2]
      rfl
  have : natV (l.filter p) = natV (((List.range l.length).map (fun i => l.getD i 0)).filter p) := by rw [e]
  rw [this, List.filter_map]
  unfold natV given
  rw [List.map_map]
  rfl
theorem ev_maxN {K : PySem.W.Frag} {σ : L2.St} {H : Hp} {ta : TE} {ns : List Int} {z : Int} (ha : EvL ta σ H (ns.map V.int)) (h0 : 0 < ns.length) (h : ∀ m, m ∈ ns → (∀ y, y ∈ ns → y ≤ m) → m = z) : Ev (tCB (rMax K) (tCons ta tNil)) σ H (.int z) :=
  fun H1 e Q q => ha H1 e _ fun p H2 _ e2 h2 => ⟨p, ns, rfl, sq_of h2, h0, fun m hm hx => by
    rw [h m hm hx]
    exact q H2 e2⟩
theorem pure__law_worth (G : Pm) : P__law_worth G := by
  intro x0 x1 H Q E h
  obtain ⟨i, n, ⟨s, hs, rfl⟩, rfl, n1, n9, q⟩ := h
  have dl := divs_len_le n
  refine q_asgL (w_row (G := G) rfl n9 (fun x => rfl) (fun x => rfl) (fun x => rfl)) fun l H1 _ e1 h1 => ?_
  refine q_when (b := inV (.str s) [V.str "unit", V.str "one", V.str "self"]) (et_test (ev_inU (ev_var rfl) (eu_tup (ea_cons ev_c (ea_cons ev_c (ea_cons ev_c ea_nil))) (by show 3 ≤ 100000; decide)) rfl rfl)) (fun hb H2 e2 => ?_) fun b1 H2 e2 => ?_
  · refine s_ret (v := .int (W i n)) ?_ fun H3 e3 => q H3 (e1.trans (e2.trans e3))
    have u : ∀ {σ : L2.St} {H : Hp}, σ[1]? = some (some (.int (n : Int))) → Ev (tCB bInt1 (tCons (tOp rEq (tVar 1) (tC (.int 1))) tNil)) σ H (.int (u1 n)) := fun h => ev_is (ev_intB (ev_op (ev_var h) ev_c (rv_eq rfl))) (by
      unfold u1
      by_cases z : n = 1
      · subst z
        rfl
      · have : decide (V.int (n : Int) = V.int 1) = false := decide_eq_false fun y => z (by have := V.int.inj y; omega)
        rw [this, if_neg z]
        rfl)
    rcases nms_case hs with rfl | rfl | rfl | rfl | rfl | rfl | rfl | rfl | rfl | rfl <;> cases hs
    · exact ev_dict3 (u rfl) ev_c (ev_var rfl) (ev_var rfl) rfl
    · exact ev_dict3 (u rfl) ev_c (ev_var rfl) (ev_var rfl) rfl
    · exact ev_dict3 (u rfl) ev_c (ev_var rfl) (ev_var rfl) rfl
    all_goals exact absurd hb (by decide +kernel)
  have h2 := e2 l _ h1
  refine q_when (b := inV (.str s) [V.str "many", V.str "sum", V.str "prime"]) (et_test (ev_inU (ev_var rfl) (eu_tup (ea_cons ev_c (ea_cons ev_c (ea_cons ev_c ea_nil))) (by show 3 ≤ 100000; decide)) rfl rfl)) (fun hb H3 e3 => ?_) fun b2 H3 e3 => ?_
  · have h3 := e3 l _ h2
    refine s_ret (v := .int (W i n)) ?_ fun H4 e4 => q H4 ((e1.trans e2).trans (e3.trans e4))
    have a1 : ∀ {σ : L2.St}, σ[2]? = some (some (.ref l)) → Ev (tCB (bLenQ G.K) (tCons (tVar 2) tNil)) σ H3 (.int (wMany n)) := fun h => ev_is (ev_lenL (ev_var h) (sq_of h3)) (by rw [natV_len, len_divs])
    have a2 : ∀ {σ : L2.St}, σ[2]? = some (some (.ref l)) → Ev (tCB (rSum G.K) (tCons (tVar 2) tNil)) σ H3 (.int (wSum n)) := fun {σ} h H4 e4 Q' q' => by
      refine (ev_var h) H4 e4 _ fun H5 e5 => ⟨l, (divs n).map fun d : Nat => (d : Int), rfl, ?_, ?_⟩
      · rw [← natV_int]
        exact sq_of ((e4.trans e5) l _ h3)
      · rw [sum_divs_id]
        exact q' H5 e5
    have a3 : ∀ {σ : L2.St}, σ[2]? = some (some (.ref l)) → Ev (tCB bInt1 (tCons (tOp rEq (tCB (bLenQ G.K) (tCons (tVar 2) tNil)) (tC (.int 2))) tNil)) σ H3 (.int (wPrime n)) := fun h => ev_is (ev_intB (ev_op (a1 h) ev_c (rv_eq rfl))) (by
      unfold wPrime
      by_cases z : wMany n = 2
      · rw [z]
        rfl
      · have : decide (V.int (wMany n) = V.int 2) = false := decide_eq_false fun y => z (V.int.inj y)
        rw [this, if_neg z]
        rfl)
    rcases nms_case hs with rfl | rfl | rfl | rfl | rfl | rfl | rfl | rfl | rfl | rfl <;> cases hs
    · exact absurd hb (by decide +kernel)
    · exact absurd hb (by decide +kernel)
    · exact absurd hb (by decide +kernel)
    · exact ev_dict3 (a1 rfl) (a2 rfl) (a3 rfl) (ev_var rfl) rfl
    · exact ev_dict3 (a1 rfl) (a2 rfl) (a3 rfl) (ev_var rfl) rfl
    · exact absurd hb (by decide +kernel)
    · exact absurd hb (by decide +kernel)
    · exact absurd hb (by decide +kernel)
    · exact absurd hb (by decide +kernel)
    · exact ev_dict3 (a1 rfl) (a2 rfl) (a3 rfl) (ev_var rfl) rfl
  have h3 := e3 l _ h2
  have e13 := (e1.trans e2).trans e3
  refine q_when (b := decide (V.str s = V.str "shares")) (et_test (ev_op (ev_var rfl) ev_c (rv_eq rfl))) (fun hb H4 e4 => ?_) fun b3 H4 e4 => ?_
  · have : i = 5 := nms_idx hs (j := 5) (by rw [str_dec hb]; rfl)
    subst this
    have h4 := e4 l _ h3
    refine s_ret (v := .int (W 5 n)) (ev_is (ev_lenN' (xs := given n (fun k => decide (Nat.gcd (k + 1) n = 1)) fun k => V.int (1 + (k : Int))) ?_) ?_) fun H5 e5 => q H5 (e13.trans (e4.trans e5))
    · have := el_lcR2 (σ := [some (.str s), some (.int (n : Int)), some (.ref l), none, none, none, none, none, none, none]) (H := H4) (ta := tCons (tC (.int 1)) (tCons (tOp oAdd (tVar 1) (tC (.int 1))) tNil)) (j := 9) (vs := [9]) (u := tTest (tOp rEq (tCB (rMax G.K) (tCons (tLc (iList G.K (tVar 2)) (gName 6) (tTest (tOp rEq (tOp oMod (tVar 9) (tVar 6)) (tC (.int 0)))) (tVar 6) [6]) tNil)) (tC (.int 1)))) (te := tVar 9) (lo := 1) (n := (n : Int) + 1) (fun k => decide (Nat.gcd (k + 1) n = 1)) (fun k => V.int (1 + (k : Int))) (ea_cons ev_c (ea_cons (ev_op (ev_var rfl) ev_c rv_I0) ea_nil)) (by omega) (fun x => rfl)
        (fun k H5 e5 hk => ?_) fun k H5 e5 hk _ => ev_var rfl
      · rw [show ((n : Int) + 1 - 1).toNat = n by omega] at this
        exact this
      · have kc : (1 + (k : Int)) = ((k + 1 : Nat) : Int) := by omega
        refine et_is (et_test (ev_op (x := .int ((Nat.gcd (k + 1) n : Nat) : Int)) ?_ ev_c (rv_eq rfl))) ?_
        · intro H6 e6 Q' q'
          have el : EvL (tLc (iList G.K (tVar 2)) (gName 6) (tTest (tOp rEq (tOp oMod (tVar 9) (tVar 6)) (tC (.int 0)))) (tVar 6) [6]) [some (.str s), some (.int (n : Int)), some (.ref l), none, none, none, none, none, none, some (.int (1 + (k : Int)))] H5 (natV ((divs n).filter fun d => decide ((k + 1) % d = 0))) := by
            rw [← natV_filter, ← natV_len]
            refine el_lcL _ (fun i => V.int (((divs n).getD i 0 : Nat) : Int)) (ev_var rfl) (sq_of (e5 l _ h4)) (by rw [natV_len]; omega) (fun x => rfl) (fun j x H7 e7 hx => ?_) fun j x H7 e7 hx _ => ?_
            · obtain ⟨w, hw, rfl⟩ := natV_at hx
              have wp : 0 < w := Nat.pos_of_dvd_of_pos ((divs_mem n1 w).mp (List.mem_of_getElem? hw)) n1
              refine et_is (et_test (ev_op (ev_op (ev_var rfl) (ev_var rfl) (rv_I (by omega))) ev_c (rv_eq rfl))) ?_
              rw [kc, int_mod_dec, List.getD_eq_getElem?_getD, hw]
              rfl
            · obtain ⟨w, hw, rfl⟩ := natV_at hx
              have : (divs n).getD j 0 = w := by rw [List.getD_eq_getElem?_getD, hw]; rfl
              rw [this]
              exact ev_var rfl
          rw [natV_int] at el
          refine ev_maxN el ?_ (fun m hm hx => max_gcd n1 hm hx) H6 e6 Q' q'
          rw [List.length_map]
          exact List.length_pos_of_mem (List.mem_filter.mpr ⟨(divs_mem n1 1).mpr (Nat.one_dvd n), by rw [Nat.mod_one]; rfl⟩)
        · by_cases z : Nat.gcd (k + 1) n = 1
          · rw [decide_eq_true z, decide_eq_true]
            rw [z]
            rfl
          · rw [decide_eq_false z, decide_eq_false]
            intro y
            have := V.int.inj y
            omega
    · show _ = V.int (wShares n)
      unfold given wShares
      rw [List.length_map, len_sum, sum_given]
      congr 1
      refine S1_congr fun a a1 a2 => ?_
      rw [show a - 1 + 1 = a by omega]
      by_cases z : Nat.gcd a n = 1
      · rw [if_pos z, if_pos (decide_eq_true z)]
      · rw [if_neg z, if_neg (fun y => z (of_decide_eq_true y))]
  -- often by often
  obtain ⟨ps, hF⟩ := fac_ex n1
  have fo := facOf_eq hF
  refine q_asg (v := .int ((0 : Nat) : Int)) ev_c fun H5 e5 => ?_
  refine q_asg (v := .int 1) ev_c fun H6 e6 => ?_
  refine q_asg (v := .int (n : Int)) (ev_var rfl) fun H7 e7 => ?_
  have e17 := (e13.trans e4).trans ((e5.trans e6).trans e7)
  refine q_forR2 (lo := 2) (n := (n : Int) + 1) (ea_cons ev_c (ea_cons (ev_op (ev_var rfl) ev_c rv_I0) ea_nil)) (by omega)
    (fun b σ' H' => ∃ (as bs : List (Nat × Nat)) (y6 y7 y8 y9 : Option V), σ' = [some (.str s), some (.int (n : Int)), some (.ref l), some (.int (cntE as : Int)), some (.int (if flatE as then 1 else 0)), some (.int (prodF bs : Int)), y6, y7, y8, y9] ∧ ps = as ++ bs ∧ (∀ q ∈ bs, b + 2 ≤ q.1) ∧ Ex H H')
    (fun H8 e8 => ⟨[], ps, _, _, _, _, by rw [← hF.1]; rfl, rfl, fun q hq => (hF.2.1 q hq).1.1, e17.trans e8⟩) ?_ ?_
  · rintro b σ' H8 hb ⟨as, bs, y6, y7, y8, y9, rfl, hps, hbs, e8⟩
    have hP : ∀ q ∈ bs, IsP q.1 ∧ 1 ≤ q.2 := fun q hq => hF.2.1 q (by rw [hps]; exact List.mem_append_right _ hq)
    -- the part of b + 2 in what is left
    obtain ⟨e, rest, as', hl, nd, hc, hf, hps', hrest⟩ : ∃ (e : Nat) (rest as' : List (Nat × Nat)), prodF bs = (b + 2) ^ e * prodF rest ∧ ¬ (b + 2) ∣ prodF rest ∧ cntE as' = cntE as + e ∧ flatE as' = (flatE as && decide (e ≤ 1)) ∧ ps = as' ++ rest ∧ ∀ q ∈ rest, b + 3 ≤ q.1 := by
      match bs, hbs, hP, hps with
      | [], _, _, hps => exact ⟨0, [], as, by simp [prodF], fac_none (c := 0) (fun _ h => by cases h) (fun _ h => by cases h) (by omega), rfl, by simp, hps, fun _ h => by cases h⟩
      | q :: bs, hbs, hP, hps =>
        have pw := hF.2.2
        rw [hps] at pw
        have pw2 := (List.pairwise_append.mp pw).2.1
        have hd := (List.pairwise_cons.mp pw2).1
        by_cases z : q.1 = b + 2
        · refine ⟨q.2, bs, as ++ [q], by rw [← z]; rfl, fac_none (c := 0) (fun r hr => hP r (List.mem_cons_of_mem _ hr)) (fun r hr => by have := hd r hr; omega) (by omega), ?_, ?_, by rw [hps]; simp, fun r hr => by have := hd r hr; omega⟩
          · rw [cntE_app]
            simp [cntE]
          · rw [flatE_app]
            simp [flatE]
        · have q3 : ∀ r ∈ q :: bs, b + 3 ≤ r.1 := fun r hr => by
            have a := hbs q List.mem_cons_self
            rcases List.mem_cons.mp hr with rfl | hr
            · omega
            · have := hd r hr
              omega
          exact ⟨0, q :: bs, as, by simp, fac_none (c := 0) hP (fun r hr => by have := q3 r hr; omega) (by omega), rfl, by simp, hps, q3⟩
    have pr : 1 ≤ prodF rest := Nat.pos_of_ne_zero fun z => nd (z ▸ Nat.dvd_zero _)
    have plb : prodF bs ≤ n := by
      rw [hF.1, hps, prodF_app]
      exact Nat.le_mul_of_pos_left _ (prodF_pos fun q hq => hF.2.1 q (by rw [hps]; exact List.mem_append_left _ hq))
    have bc : (2 + (b : Int)) = ((b + 2 : Nat) : Int) := by omega
    refine q_asg (v := .int ((0 : Nat) : Int)) ev_c fun H9 e9 => ?_
    refine q_whl (fun m σ' H' => ∃ j : Nat, σ' = [some (.str s), some (.int (n : Int)), some (.ref l), some (.int (cntE as : Int)), some (.int (if flatE as then 1 else 0)), some (.int (((b + 2) ^ (e - j) * prodF rest : Nat) : Int)), some (.int (2 + (b : Int))), some (.int (j : Int)), y8, y9] ∧ j ≤ e ∧ m = e - j ∧ Ex H H') (e - 0) ⟨0, by rw [Nat.sub_zero, ← hl]; rfl, Nat.zero_le _, rfl, e8.trans e9⟩ ?_
    rintro m σ' H10 ⟨j, rfl, je, rfl, e10⟩
    have tst : ∀ {σ : L2.St} {H : Hp} (c : Nat), σ[5]? = some (some (.int (c : Int))) → σ[6]? = some (some (.int (2 + (b : Int)))) → EvT (tTest (tOp rEq (tOp oMod (tVar 5) (tVar 6)) (tC (.int 0)))) σ H (decide (c % (b + 2) = 0)) := fun c h5 h6 => et_is (et_test (ev_op (ev_op (ev_var h5) (ev_var h6) (rv_I (by omega))) ev_c (rv_eq rfl))) (by rw [bc, int_mod_dec])
    refine ⟨_, tst _ rfl rfl, fun hb2 H11 e11 => ?_, fun hb2 H11 e11 => ?_⟩
    · have dv := Nat.dvd_of_mod_eq_zero (of_decide_eq_true hb2)
      have lt : j < e := by
        rcases Nat.lt_or_ge j e with z | z
        · exact z
        · rw [show e - j = 0 by omega, Nat.pow_zero, Nat.one_mul] at dv
          exact absurd dv nd
      have pe : (b + 2) ^ (e - j) * prodF rest / (b + 2) = (b + 2) ^ (e - (j + 1)) * prodF rest := by
        rw [show e - j = e - (j + 1) + 1 by omega, Nat.pow_succ, Nat.mul_comm _ (b + 2), Nat.mul_assoc, Nat.mul_div_cancel_left _ (by omega)]
      refine q_asg (v := .int (((b + 2) ^ (e - (j + 1)) * prodF rest : Nat) : Int)) (ev_is (ev_op (ev_var rfl) (ev_var rfl) (rv_I (cdiv_w (by omega) (by omega)))) (by rw [bc, ← Int.natCast_ediv, pe])) fun H12 e12 => ?_
      exact s_asg (v := .int ((j + 1 : Nat) : Int)) (ev_op (ev_var rfl) ev_c rv_I0) fun H13 e13 => ⟨e - (j + 1), by omega, j + 1, rfl, lt, rfl, e10.trans (e11.trans (e12.trans e13))⟩
    · have je' : j = e := by
        rcases Nat.lt_or_ge j e with z | z
        · refine absurd (Nat.mod_eq_zero_of_dvd ?_) (of_decide_eq_false hb2)
          rw [show e - j = e - (j + 1) + 1 by omega, Nat.pow_succ, Nat.mul_assoc, Nat.mul_comm, Nat.mul_assoc]
          exact Nat.dvd_mul_right _ _
        · omega
      subst je'
      refine q_asg (v := .int (cntE as' : Int)) (ev_is (ev_op (ev_var rfl) (ev_var rfl) rv_I0) (by rw [hc, Int.natCast_add])) fun H12 e12 => ?_
      have lf : prodF rest = (b + 2) ^ (j - j) * prodF rest := by rw [Nat.sub_self, Nat.pow_zero, Nat.one_mul]
      refine s_when (b := decide (1 < j)) (et_is (et_test (ev_op (ev_var rfl) ev_c rv_I0)) (decide_eq_decide.mpr (by omega))) (fun hb3 H13 e13 => ?_) fun hb3 H13 e13 => ?_
      · have f0 : flatE as' = false := by
          rw [hf, decide_eq_false (by have := of_decide_eq_true hb3; omega), Bool.and_false]
        refine s_asg (v := .int 0) ev_c fun H14 e14 => ⟨as', rest, some (.int (2 + (b : Int))), some (.int (j : Int)), y8, y9, ?_, hps', hrest, e10.trans (e11.trans (e12.trans (e13.trans e14)))⟩
        rw [f0, ← lf]
        rfl
      · have f1 : flatE as' = flatE as := by
          rw [hf, decide_eq_true (by have := of_decide_eq_false hb3; omega), Bool.and_true]
        refine ⟨as', rest, some (.int (2 + (b : Int))), some (.int (j : Int)), y8, y9, ?_, hps', hrest, e10.trans (e11.trans (e12.trans e13))⟩
        rw [f1, ← lf]
        rfl
  · rintro σ' H8 ⟨as, bs, y6, y7, y8, y9, rfl, hps, hbs, e8⟩
    have nb : bs = [] := by
      match bs, hbs, hps with
      | [], _, _ => rfl
      | q :: bs, hbs, hps =>
        have a := hbs q List.mem_cons_self
        have b := (prim_le hF (q := q) (by rw [hps]; exact List.mem_append_right _ List.mem_cons_self)).2
        omega
    subst nb
    rw [List.append_nil] at hps
    subst hps
    refine q_asg (v := .int (wEven n)) (ev_is (ev_op ev_c (ev_op ev_c (ev_op (ev_var rfl) ev_c (rv_I (by decide))) (rv_I (cm_l (by decide) (by decide)))) rv_I0) (by unfold wEven; rw [fo])) fun H9 e9 => ?_
    refine s_ret (v := .int (W i n)) ?_ fun H10 e10 => q H10 (e8.trans (e9.trans e10))
    have wf : (if flatE ps = true then (1 : Int) else 0) = wFree n := by
      unfold wFree
      rw [fo]
    have a1 : ∀ {σ : L2.St} {H : Hp}, σ[4]? = some (some (.int (if flatE ps = true then (1 : Int) else 0))) → Ev (tVar 4) σ H (.int (wFree n)) := fun h => ev_is (ev_var h) (by rw [wf])
    have cmf : CM (wFree n) (wEven n) := by
      refine cm_l ?_ ?_ <;> · unfold wFree; split <;> decide
    rcases nms_case hs with rfl | rfl | rfl | rfl | rfl | rfl | rfl | rfl | rfl | rfl <;> cases hs
    · exact absurd b1 (by decide +kernel)
    · exact absurd b1 (by decide +kernel)
    · exact absurd b1 (by decide +kernel)
    · exact absurd b2 (by decide +kernel)
    · exact absurd b2 (by decide +kernel)
    · exact absurd b3 (by decide +kernel)
    · exact ev_dict3 (a1 rfl) (ev_op (a1 rfl) (ev_var rfl) (rv_I cmf)) (ev_var rfl) (ev_var rfl) rfl
    · exact ev_dict3 (a1 rfl) (ev_op (a1 rfl) (ev_var rfl) (rv_I cmf)) (ev_var rfl) (ev_var rfl) rfl
    · exact ev_dict3 (a1 rfl) (ev_op (a1 rfl) (ev_var rfl) (rv_I cmf)) (ev_var rfl) (ev_var rfl) rfl
    · exact absurd b2 (by decide +kernel)
/-! ### _law_pairs_right -/
theorem el_sortSet {K : PySem.W.Frag} {σ : L2.St} {H : Hp} {te : TE} {a : Addr} {ns : List Int} (h : Ev te σ H (.ref a)) (hS : SqL K H a (ns.map V.int)) (hs : ns.Pairwise (· < ·)) (hl : ns.length ≤ 1000) : EvL (tSortSet K te) σ H (ns.map V.int) :=
  fun H1 e Q q => h H1 e _ fun H2 e2 => ⟨a, ns, rfl, ex_l (e.trans e2) hS, hl, fun ms p h1 h2 hp => by
    rw [sorted_ext h1 hs h2]
    exact q p _ (fresh_back e2 hp) (e2.trans (Ex.new hp)) upd_same⟩
theorem len_cntE : ∀ {ps : List (Nat × Nat)}, (∀ q ∈ ps, 1 ≤ q.2) → ps.length ≤ cntE ps
  | [], _ => Nat.zero_le _
  | q :: ps, h => by
    have a := len_cntE fun r hr => h r (List.mem_cons_of_mem q hr)
    have b := h q List.mem_cons_self
    have e : cntE (q :: ps) = q.2 + cntE ps := by
      unfold cntE
      rw [List.map_cons, List.sum_cons]
    rw [e, List.length_cons]
    omega
theorem pure__law_pairs_right (G : Pm) : P__law_pairs_right G := by
  intro x0 H Q E h
  obtain ⟨n, ps0, ⟨rfl, n1, n9⟩, hF0, hc0, q⟩ := h
  refine q_asgC1 (ev_var rfl) fun H1 e1 => .inl ⟨n, ⟨rfl, n1, n9⟩, fun ps hF pa xs H2 _ e2 h2 hR => ?_⟩
  have := fac_uniq hF0 hF
  subst this
  have e12 := e1.trans e2
  have cd : cntD ps0 ≤ 64 := Nat.le_trans cntD_two (Nat.le_trans (Nat.pow_le_pow_right (by decide) hc0) (by decide))
  have l4 := fac_len2 hF n9
  have l6 : ps0.length ≤ 6 := Nat.le_trans (len_cntE fun q hq => (hF.2.1 q hq).2) hc0
  have hl : xs.length = ps0.length := hR.len
  refine q_asg (v := .int ((1 : Nat) : Int)) ev_c fun H3 e3 => ?_
  refine q_asg (v := .int ((1 : Nat) : Int)) ev_c fun H4 e4 => ?_
  have e24 := e3.trans e4
  refine q_forL (ev_var rfl) (sq_of (e24 pa _ h2)) (fun i σ' H' => ∃ y4 y5 y6 : Option V, σ' = [some (.int (n : Int)), some (.ref pa), some (.int (prodF (ps0.take i) : Int)), some (.int (cntD (ps0.take i) : Int)), y4, y5, y6, none, none, none, none] ∧ Ex H2 H')
    (fun H5 e5 => ⟨_, _, _, rfl, e24.trans e5⟩) (fun i σ' H' _ ⟨_, _, _, _, e⟩ => sq_of (e pa _ h2)) ?_ ?_
  · rintro i x σ' H5 hi ⟨y4, y5, y6, rfl, e5⟩
    obtain ⟨t, ⟨p, e⟩, rfl, hp, hT⟩ := (hR.ex e5).at hi
    have hpm := hF.2.1 _ (List.mem_of_getElem? hp)
    obtain ⟨pe, pl⟩ := prim_le hF (List.mem_of_getElem? hp)
    have hsn := take_succ hp
    have fS := fac_take hF (i + 1)
    have fT := fac_take hF i
    dsimp only at hpm pe pl hT
    have e30 := exp_le (q := (p, e)) hpm.1.1 pe n9
    dsimp only at e30
    refine g_tup2 hT ?_
    refine q_when (b := !true || decide ((e : Int) < 1)) (et_or (et_not (et_B (ev_ca1 (ev_var rfl) fun H6 e6 Q' q' => ⟨p, ⟨rfl, by have := hpm.1.1; omega, by omega⟩, fun b hb => by
      have : b = true := hb.mpr hpm.1
      subst this
      exact q'⟩))) fun _ => et_test (ev_op (ev_var rfl) ev_c rv_I0)) (fun hb => ?_) fun _ H6 e6 => ?_
    · have : ¬ ((e : Int) < 1) := by omega
      simp [this] at hb
    refine q_asg (v := .int (cntD (ps0.take (i + 1)) : Int)) (ev_is (ev_op (ev_var rfl) (ev_op (ev_var rfl) ev_c rv_I0) (rv_I (cm_r (by omega) (by omega)))) ?_) fun H7 e7 => ?_
    · rw [hsn, cntD_snoc, Int.natCast_mul]
      rfl
    refine s_forR1 (n := (e : Int)) (ea_cons (ev_var rfl) ea_nil) (by omega)
      (fun j σ' H' => ∃ y6 : Option V, σ' = [some (.int (n : Int)), some (.ref pa), some (.int ((prodF (ps0.take i) * p ^ j : Nat) : Int)), some (.int (cntD (ps0.take (i + 1)) : Int)), some (.int (p : Int)), some (.int (e : Int)), y6, none, none, none, none] ∧ Ex H2 H')
      (fun H8 e8 => ⟨_, by rw [Nat.pow_zero, Nat.mul_one]; rfl, e5.trans (e6.trans (e7.trans e8))⟩) ?_ ?_
    · rintro j σ' H8 hj ⟨y6, rfl, e8⟩
      exact s_asg (v := .int ((prodF (ps0.take i) * p ^ (j + 1) : Nat) : Int)) (ev_is (ev_op (ev_var rfl) (ev_var rfl) (rv_I (cm_r (by omega) (by omega)))) (by rw [Nat.pow_succ, ← Nat.mul_assoc, Int.natCast_mul _ p])) fun H9 e9 => ⟨_, rfl, e8.trans e9⟩
    · rintro σ' H8 ⟨y6, rfl, e8⟩
      refine ⟨some (.int (p : Int)), some (.int (e : Int)), y6, ?_, e8⟩
      rw [Int.toNat_natCast, hsn, prodF_app]
      simp [prodF]
  · rintro σ' H5 ⟨y4, y5, y6, rfl, e5⟩
    rw [hl, List.take_length, ← hF.1]
    have hS5 := sq_of (K := G.K) (e5 pa _ h2)
    have hR5 := hR.ex e5
    refine q_asgL (xs := (ps0.map fun q => (q.1 : Int)).map V.int) (el_mapL _ (ev_var rfl) hS5 (by simp [hl]) (by omega) (fun x => rfl) fun i x y H6 e6 hx hy => ?_) fun pr H6 _ e6 h6 => ?_
    · obtain ⟨t, q, rfl, hq, hT⟩ := (hR5.ex e6).at hx
      rw [List.map_map, List.getElem?_map, hq] at hy
      cases hy
      exact ev_op (ev_var rfl) ev_c (rv_ixT hT rfl)
    refine q_asgL (el_ca1 (ev_var rfl) fun H7 e7 Q' q' => .inl ⟨n, ⟨rfl, n1, n9⟩, q'⟩) fun rw_ H7 _ e7 h7 => ?_
    have h6' := e7 pr _ h6
    have ld : ((divs n).length : Int) = (cntD ps0 : Int) := by rw [len_divs, many_fac hF, pI_cnt]
    rw [natV_int] at h7
    have prs : (ps0.map fun q => (q.1 : Int)).Pairwise (· < ·) := List.Pairwise.map _ (fun a b h => by omega) hF.2.2
    have dvs : ((divs n).map fun u : Nat => (u : Int)).Pairwise (· < ·) := List.Pairwise.map _ (fun a b h => by omega) (divs_sorted n)
    refine q_when (b := !decide (V.int (n : Int) = V.int (n : Int)) || (!decide ((ps0.map fun q => (q.1 : Int)) = ps0.map fun q => (q.1 : Int)) || (!decide (V.int (cntD ps0 : Int) = V.int (cntD ps0 : Int)) || !decide (((divs n).map fun u : Nat => (u : Int)) = (divs n).map fun u : Nat => (u : Int))))) ?_ (fun hb => by simp at hb) fun _ H8 e8 => ?_
    · refine et_or (et_test (ev_op (ev_var rfl) (ev_var rfl) (rv_ne rfl))) fun _ => et_or (et_test (ev_opL (ev_var rfl) (el_sortSet (ev_var rfl) (sq_of h6') prs (by rw [List.length_map]; omega)) fun r H8 h8 e8 => rv_neI (sq_of (e8 pr _ h6')) (sq_of h8))) fun _ => et_or (et_test (ev_op (ev_is (ev_lenL (ev_var rfl) (sq_of h7)) (by rw [List.length_map, List.length_map, ld])) (ev_var rfl) (rv_ne rfl))) fun _ => et_test (ev_opL (ev_var rfl) (el_sortSet (ev_var rfl) (sq_of h7) dvs (by rw [List.length_map]; omega)) fun r H8 h8 e8 => rv_neI (sq_of (e8 rw_ _ h7)) (sq_of h8))
    have h7' := e8 rw_ _ h7
    have nw : ∀ {σ : L2.St} (H9 : Hp) (nm : Str) (k : Nat), NMS[k]? = some nm → σ[0]? = some (some (.int (n : Int))) → Ev (tCall (sp_named_worth G) [] E (tCons (tC (.str nm)) (tCons (tVar 0) tNil))) σ H9 (.int (W k n)) := fun H9 nm k hk hs => ev_ca2 ev_c (ev_var hs) fun H10 e10 Q' q' => .inl ⟨k, n, ⟨nm, hk, rfl⟩, ⟨rfl, n1, n9⟩, q'⟩
    have w3 : W 3 n = (cntD ps0 : Int) := by
      show wMany n = _
      rw [many_fac hF, pI_cnt]
    refine s_ret (v := .bl (true && (true && true))) (ev_andV (ev_is (ev_allN (bs := (divs n).map fun _ => true) (el_mapL _ (ev_var rfl) (sq_of h7') (by simp) (by rw [List.length_map, List.length_map]; omega) (fun x => rfl) fun i x y H9 e9 hx hy => ?_)) ?_) fun _ => ev_andV (ev_is (ev_op (nw _ "many" 3 rfl rfl) (ev_var rfl) (rv_eq rfl)) ?_) fun _ => ev_is (ev_op (nw _ "sum" 4 rfl rfl) (z := .bl (decide (V.int (wSum n) = V.int (wSum n)))) ?_ (rv_eq rfl)) ?_) fun H9 e9 => q H9 (e12.trans (e5.trans (e6.trans (e7.trans (e8.trans e9)))))
    · rw [List.map_map, List.getElem?_map] at hx hy
      cases hd : (divs n)[i]? with
      | none =>
        rw [hd] at hx
        cases hx
      | some d =>
        rw [hd] at hx hy
        cases hx
        cases hy
        have dn := (divs_mem n1 d).mp (List.mem_of_getElem? hd)
        have dp : 0 < d := Nat.pos_of_dvd_of_pos dn n1
        refine ev_is (ev_op (ev_op (ev_var rfl) (ev_var (v := .int (d : Int)) rfl) (rv_I (show (0 : Int) < (d : Int) by omega))) ev_c (rv_eq rfl)) ?_
        show V.bl (decide (V.int ((n : Int) % (d : Int)) = V.int 0)) = _
        rw [int_mod_dec, decide_eq_true (Nat.mod_eq_zero_of_dvd dn)]
        rfl
    · congr 1
      rw [List.all_map]
      exact List.all_eq_true.mpr fun _ _ => rfl
    · rw [w3]
      simp
    · exact ev_is (fun H10 e10 Q' q' => (ev_var rfl) H10 e10 _ fun H11 e11 => ⟨rw_, (divs n).map fun u : Nat => (u : Int), rfl, sq_of ((e10.trans e11) rw_ _ h7'), q' H11 e11⟩) (by rw [sum_divs_id])
    · simp
end Sv

set_option Elab.async false
set_option linter.all false
set_option maxRecDepth 100000
set_option maxHeartbeats 4000000
namespace Sv
open PySem PySem.Spec PyProof.Rows L2 Evl HotX L2H LamX
local macro_rules | `(tactic| walk_at "ev") => `(tactic| (repeat' (first | exact ev_var rfl | exact ev_c | exact rv_I0 | exact ea_nil | exact ru_neg | exact rv_eq rfl | exact rv_ne rfl | apply ev_op | apply rv_I | apply ev_un | apply et_test | apply et_B | apply et_not | apply ea_cons | apply ev_maxI | apply ev_minI)))
def R_law (G : Pm) (T : List (Addr × Str)) : R1 := LawR G T
abbrev n_law : List Str := ["_law_script", "_law_names", "_law_k", "_law_more", "_law_n", "_law_name", "_law_size", "_law_odd", "_law_some", "_law_word_here", "_law_d", "_law_j"]
abbrev p_law : List Str := ["_law_script"]
def sp_law (G : Pm) (T : List (Addr × Str)) : Sp := sp1 (R_law G T)
def t_law (G : Pm) (T : List (Addr × Str)) (E : XK) : TS :=
  (tSeq (tAsg (tLst (tCons (tC (.str "unit")) (tCons (tC (.str "one")) (tCons (tC (.str "self")) (tCons (tC (.str "many")) (tCons (tC (.str "sum")) (tCons (tC (.str "shares")) (tCons (tC (.str "free")) (tCons (tC (.str "mark")) (tCons (tC (.str "even")) (tCons (tC (.str "prime")) tNil))))))))))) (gName 1))
  (tSeq (tFor (iRng1 (tCons (tCB bMax2 (tCons (tC (.int 1)) (tCons (tCB bMin2 (tCons (tC (.int 3)) (tCons (tCB (bLenQ G.K) (tCons (tVar 0) tNil)) tNil))) tNil))) tNil)) (gName 2)
  (tSeq (tAsg (tCall (sp__law_drawn G) [] E (tCons (tCall (sp__law_cell G) [] E (tCons (tVar 0) (tCons (tVar 2) tNil))) (tCons (tVar 2) tNil))) (gName 3))
  (tSeq (tAsg (tOp oAdd (tC (.int 1)) (tOp oMod (tVar 3) (tC (.int 300)))) (gName 4))
  (tSeq (tIfS (tTest (tOp (rNeD G.K) (tTold T (WE G) fun E => (tCall (sp_divisors G) [] E (tCons (tVar 4) tNil))) (tLc (iRng2 (tCons (tC (.int 1)) (tCons (tOp oAdd (tVar 4) (tC (.int 1))) tNil))) (gName 10) (tTest (tOp rEq (tOp oMod (tVar 4) (tVar 10)) (tC (.int 0)))) (tVar 10) [10])))
  (tRet (tC (.bl false)))
  tNext)
  (tSeq (tFor (iList G.K (tVar 1)) (gName 5)
  (tIfS (tTest (tOp rNe (tTold T (WE G) fun E => (tCall (sp_named_worth G) [] E (tCons (tVar 5) (tCons (tVar 4) tNil)))) (tCall (sp__law_worth G) [] E (tCons (tVar 5) (tCons (tVar 4) tNil)))))
  (tRet (tC (.bl false)))
  tNext))
  (tSeq (tIfS (tOr (tNot (tB (tCall (sp__law_pairs_right G) [] E (tCons (tCall (sp__law_great G) [] E (tCons (tOp oDiv (tVar 3) (tC (.int 512))) tNil)) tNil)))) (tOr (tTest (tOp (rNeD G.K) (tCall (sp_primes_of G) [] E (tCons (tC (.int 1)) tNil)) (tLst tNil))) (tTest (tOp (rNeD G.K) (tCall (sp_divisors G) [] E (tCons (tC (.int 1)) tNil)) (tLst (tCons (tC (.int 1)) tNil))))))
  (tRet (tC (.bl false)))
  tNext)
  (tSeq (tAsg (tOp (rIxL G.K) (tVar 1) (tOp oMod (tOp oDiv (tVar 3) (tOp oPow (tC (.int 2)) (tC (.int 20)))) (tC (.int 10)))) (gName 5))
  (tSeq (tAsg (tOp oAdd (tC (.int 1)) (tOp oMod (tOp oDiv (tVar 3) (tOp oPow (tC (.int 2)) (tC (.int 24)))) (tC (.int 60)))) (gName 6))
  (tSeq (tIfS (tTest (tOp (rNeD G.K) (tTold T (WE G) fun E => (tCall (sp_named_table G) [] E (tCons (tVar 5) (tCons (tVar 6) tNil)))) (tLc (iRng2 (tCons (tC (.int 1)) (tCons (tOp oAdd (tVar 6) (tC (.int 1))) tNil))) (gName 11) tYes (tCall (sp__law_worth G) [] E0 (tCons (tVar 5) (tCons (tVar 11) tNil))) [11])))
  (tRet (tC (.bl false)))
  tNext)
  (tSeq (tAsg (tOp (rIxL G.K) (tLst (tCons (tC (.int 0)) (tCons (tUn uNeg (tC (.int 1))) (tCons (tC (.int 1000000001)) (tCons (tC (.bl true)) (tCons (tC .non) (tCons (tC (.str "1")) tNil))))))) (tOp oMod (tOp oDiv (tVar 3) (tOp oPow (tC (.int 2)) (tC (.int 32)))) (tC (.int 6)))) (gName 7))
  (tSeq (tAsg (tLst (tCons (tTold T (WE G) fun E => (tCall (sp_divisors G) [] E (tCons (tVar 7) tNil))) tNil)) (gName 8))
  (tSeq (tDrop (tBM G.K "list" rAppend (tVar 8) (tCons (tTold T (WE G) fun E => (tCall (sp_primes_of G) [] E (tCons (tVar 7) tNil))) tNil)))
  (tSeq (tDrop (tBM G.K "list" rAppend (tVar 8) (tCons (tTold T (WE G) fun E => (tCall (sp_named_worth G) [] E (tCons (tVar 5) (tCons (tVar 7) tNil)))) tNil)))
  (tSeq (tDrop (tBM G.K "list" rAppend (tVar 8) (tCons (tTold T (WE G) fun E => (tCall (sp_named_table G) [] E (tCons (tVar 5) (tCons (tOp (rIxL G.K) (tLst (tCons (tC (.int 0)) (tCons (tC (.int 501)) (tCons (tVar 7) tNil)))) (tOp oMod (tVar 3) (tC (.int 3)))) tNil)))) tNil)))
  (tSeq (tIfS (tTest (tOp (rNeD G.K) (tVar 8) (tOp rRep (tLst (tCons (tC (.str "BadNumber")) tNil)) (tC (.int 4)))))
  (tRet (tC (.bl false)))
  tNext)
  (tSeq (tAsg (tOp (rIxL G.K) (tLst (tCons (tC (.str "two")) (tCons (tC (.str "")) (tCons (tC (.str "Mark")) (tCons (tC .non) tNil))))) (tOp oMod (tOp oDiv (tVar 3) (tOp oPow (tC (.int 2)) (tC (.int 36)))) (tC (.int 4)))) (gName 9))
  (tSeq (tAsg (tLst (tCons (tTold T (WE G) fun E => (tCall (sp_named_worth G) [] E (tCons (tVar 9) (tCons (tVar 7) tNil)))) tNil)) (gName 8))
  (tSeq (tDrop (tBM G.K "list" rAppend (tVar 8) (tCons (tTold T (WE G) fun E => (tCall (sp_named_table G) [] E (tCons (tVar 9) (tCons (tVar 7) tNil)))) tNil)))
  (tIfS (tTest (tOp (rNeD G.K) (tVar 8) (tLst (tCons (tC (.str "BadName")) (tCons (tC (.str "BadName")) tNil)))))
  (tRet (tC (.bl false)))
  tNext)))))))))))))))))))
  (tRet (tC (.bl true)))))
def P_law (G : Pm) : Prop := ∀ T x0 H Q E, R_law G T x0 H Q E → t_law G T E (dn Q) (start n_law [x0]) H
theorem tll_told {T : List (Addr × Str)} {W : Addr → Str → Prop} {t : XK → TE} {σ : L2.St} {H : Hp} {xs : List V} (h : ∀ H1, NX T H H1 → ∀ Q : VK, (∀ p H2, NX T H1 H2 → H2 p = some (.lst xs) → Q (.ref p) H2) → t (ET W Q) σ H1 Q) : TlL T (tTold T W t) σ H xs :=
  fun H1 n Q q => ⟨n.2, fun H2 n2 t2 => h H2 (n.trans ⟨n2, t2⟩) Q fun p H3 n3 h3 => q p H3 (NX.trans ⟨n2, t2⟩ n3) h3⟩
section
variable {G : Pm} {T : List (Addr × Str)} {H H' : Hp}
theorem bn_go {Q : VK} (n : NX T H H') (q : ∀ H2, NX T H' H2 → Q (.str "BadNumber") H2) {H1 : Hp} (e1 : Ex H' H1) : No G.BadNumber H1 (ET (WE G) Q) := fun H3 e3 => et_go (nm := "BadNumber") (by simp [WE, errsL]) fun H4 e4 => q H4 (nx_of n.2 ((e1.trans e3).trans e4))
theorem bm_go {Q : VK} (n : NX T H H') (q : ∀ H2, NX T H' H2 → Q (.str "BadName") H2) {H1 : Hp} (e1 : Ex H' H1) : No G.BadName H1 (ET (WE G) Q) := fun H3 e3 => et_go (nm := "BadName") (by simp [WE, errsL]) fun H4 e4 => q H4 (nx_of n.2 ((e1.trans e3).trans e4))
end
theorem call2P {σ : L2.St} {H : Hp} {ta tb : TE} {x : V} {P : V → Hp → Prop} {Q : VK} {R : R2'} {E : XK} (ha : Ev ta σ H x) (hb : EvP tb σ H P) (h : ∀ v H1, Ex H H1 → P v H1 → R x v H1 Q E) : tCall (sp2 R) [] E (tCons ta (tCons tb tNil)) σ H Q := ha H (Ex.refl H) _ fun H1 e => hb H1 e _ fun v H2 e2 hv => h v H2 (e.trans e2) hv
theorem pure_law (G : Pm) : P_law G := by
  intro T x0 H0 Q E h
  obtain ⟨a, ns, rfl, hS, hl, _, hT0, q⟩ := h
  have hlN : (ns.map V.int).length ≤ 63 := by
    rw [List.length_map]
    exact hl
  have stI : ∀ (v : V) (H H' : Hp), Ex H H' → (∃ i, isN v i) → ∃ i, isN v i := fun _ _ _ _ h => h
  refine q_asgL (xs := NMS.map V.str) (el_lst (ea_cons ev_c (ea_cons ev_c (ea_cons ev_c (ea_cons ev_c (ea_cons ev_c (ea_cons ev_c (ea_cons ev_c (ea_cons ev_c (ea_cons ev_c (ea_cons ev_c ea_nil)))))))))) (by show 10 ≤ 100000; decide)) fun nl Ha _ ea ha => ?_
  have hSa := ex_l ea hS
  have nA : NX T H0 Ha := nx_of hT0 ea
  refine q_forR1 (n := if (if ((ns.map V.int).length : Int) < 3 then ((ns.map V.int).length : Int) else 3) > 1 then (if ((ns.map V.int).length : Int) < 3 then ((ns.map V.int).length : Int) else 3) else 1)
    (ea_cons (ev_maxI ev_c (ev_minI ev_c (ev_lenL (ev_var rfl) hSa))) ea_nil) (by omega)
    (fun i σ' H' => ∃ y2 y3 y4 y5 y6 y7 y8 y9 y10 y11 : Option V, σ' = [some (.ref a), some (.ref nl), y2, y3, y4, y5, y6, y7, y8, y9, y10, y11] ∧ NX T Ha H') (fun H1 e1 => ⟨_, _, _, _, _, _, _, _, _, _, rfl, nx_of nA.2 e1⟩) ?_ ?_
  · rintro i σ' H hi ⟨y2, y3, y4, y5, y6, y7, y8, y9, y10, y11, rfl, nH⟩
    have hi4 : i ≤ 4 := by omega
    have hSH := nH.l hSa
    refine q_asg (v := .int (drawn (cellS ns i) (i : Int))) (ev_ca2 (ev_ca2 (ev_var rfl) (ev_var rfl) fun H1 e1 Q' q' => ⟨a, ns, i, rfl, rfl, ex_l e1 hSH, hl, by omega, q'⟩) (ev_var rfl) fun H1 e1 Q' q' => ⟨_, _, rfl, rfl, by omega, by omega, q'⟩) fun H1 e1 => ?_
    generalize drawn (cellS ns i) (i : Int) = M at *
    obtain ⟨n, hn⟩ : ∃ n : Nat, 1 + M % 300 = (n : Int) := nat_of (by omega)
    have n1 : 1 ≤ n := by omega
    have n3 : n ≤ 300 := by omega
    have hZ : isZ (.int (n : Int)) n := ⟨rfl, n1, by omega⟩
    refine q_asg (v := .int (n : Int)) ?_ fun H2 e2 => ?_
    · rw [← hn]
      walk_at "ev"
      decide
    have nn2 : NX T Ha H2 := nH.ex (e1.trans e2)
    refine qn_when (b := !decide (((divs n).map fun u : Nat => (u : Int)) = (divs n).map fun u : Nat => (u : Int))) nn2.2 (tlt_test (tl_opLL (xs := ((divs n).map fun u : Nat => (u : Int)).map V.int) (ys := ((divs n).map fun u : Nat => (u : Int)).map V.int) (tll_told fun H3 n3' Q' q' => call1 (ev_var rfl) fun H4 e4 => .inl ⟨n, hZ, fun p H5 _ e5 h5 => q' p H5 (nx_of n3'.2 (e4.trans e5)) (by rw [← natV_int]; exact h5)⟩) (fun H3 n3' => ?_) fun p r H3 h3 h4 => rv_neI (sq_of h3) (sq_of h4))) (fun hb => by simp at hb) fun _ H3 nn3 => ?_
    · have := el_lcR2 (σ := [some (.ref a), some (.ref nl), some (.int (i : Int)), some (.int M), some (.int (n : Int)), y5, y6, y7, y8, y9, y10, y11]) (H := H3) (ta := tCons (tC (.int 1)) (tCons (tOp oAdd (tVar 4) (tC (.int 1))) tNil)) (j := 10) (vs := [10]) (u := tTest (tOp rEq (tOp oMod (tVar 4) (tVar 10)) (tC (.int 0)))) (te := tVar 10) (lo := 1) (n := (n : Int) + 1) (fun i => decide (n % (i + 1) = 0)) (fun i => V.int (1 + (i : Int))) (ea_cons ev_c (ea_cons (ev_op (ev_var rfl) ev_c rv_I0) ea_nil)) (by omega) (fun x => rfl)
        (fun i H1 e1 hi => et_is (et_test (ev_op (ev_op (ev_var rfl) (ev_var rfl) (rv_I (by omega))) ev_c (rv_eq rfl))) (by rw [show (1 + (i : Int)) = ((i + 1 : Nat) : Int) by omega, int_mod_dec])) fun i H1 e1 hi _ => ev_var rfl
      rw [show ((n : Int) + 1 - 1).toNat = n by omega, given_divs, natV_int] at this
      exact this
    have nn23 := nn2.trans nn3
    have hnl : H3 nl = some (.lst (NMS.map V.str)) := nn23.o ha
    refine q_forLP (n := 10) (P := fun v _ => ∃ i, isN v i) (fun _ _ _ _ h => h) nn23.2 (elp_var stI rfl hnl rfl fun v hv => ?_)
      (fun σ' H' => ∃ y5 : Option V, σ' = [some (.ref a), some (.ref nl), some (.int (i : Int)), some (.int M), some (.int (n : Int)), y5, y6, y7, y8, y9, y10, y11] ∧ NX T Ha H') (fun H4 n4 => ⟨_, rfl, nn23.trans n4⟩) ?_ ?_
    · obtain ⟨s, hs, rfl⟩ := List.mem_map.mp hv
      obtain ⟨k, hk⟩ := List.getElem?_of_mem hs
      exact ⟨k, s, hk, rfl⟩
    · rintro H4 x σ' H5 n4 ⟨y5, rfl, n5⟩ n45 ⟨k, hk⟩
      exact sn_when (b := !decide (V.int (W k n) = V.int (W k n))) n5.2 (tlt_test (tl_op (tl_told fun H6 n6 Q' q' => call2 (ev_var rfl) (ev_var rfl) fun H7 e7 => .inl ⟨k, n, hk, hZ, fun H8 e8 => q' H8 (nx_of n6.2 (e7.trans e8))⟩) (tl_ca2 (fun _ _ => ev_var rfl) (fun _ _ => ev_var rfl) fun H6 n6 Q' q' => ⟨k, n, hk, rfl, n1, by omega, fun H8 e8 => q' H8 (nx_of n6.2 e8)⟩) fun _ _ => rv_ne rfl)) (fun hb => by simp at hb) fun _ H6 n6 => ⟨⟨_, rfl, n5.trans n6⟩, n45.trans n6⟩
    rintro σ' H4 ⟨y5, rfl, n4⟩
    have sh0 : SeqAt.shaped (.list []) = true := by decide +kernel
    have sh1 : SeqAt.shaped (.list [.int 1]) = true := by decide +kernel
    refine q_when (b := !true || (!PyData.eqv (.list []) (.list []) || !PyData.eqv (.list [.int 1]) (.list [.int 1]))) ?_ (fun hb => ?_) fun _ H5 e5 => ?_
    · refine et_or (et_not (et_B (b := true) ?_)) fun _ => et_or (et_test (ev_neD ?_ (ed_lst eda_nil (Nat.zero_le _)) sh0 sh0)) fun _ => et_test (ev_neD (ed_l (xs := natV (divs 1)) (el_ca1 ev_c fun H5 e5 Q' q' => .inl ⟨1, ⟨rfl, by decide, by decide⟩, q'⟩) fun H5 => ?_) (ed_lst (eda_cons (ed_i ev_c) eda_nil) (by decide)) sh1 sh1)
      · intro H5 e5 Q' q'
        have gr : EvP (tCall (sp__law_great G) [] E (tCons (tOp oDiv (tVar 3) (tC (.int 512))) tNil)) [some (.ref a), some (.ref nl), some (.int (i : Int)), some (.int M), some (.int (n : Int)), y5, y6, y7, y8, y9, y10, y11] H4 (fun v _ => ∃ (m : Nat) (ps : List (Nat × Nat)), isZ v m ∧ Fac m ps ∧ cntE ps ≤ 6) := fun H6 e6 Q2 q2 =>
          (ev_op (ev_var rfl) ev_c (rv_I (cdiv_w (by decide) (by decide)))) H6 e6 _ fun H7 e7 => ⟨_, rfl, fun m ps m1 m9 hF hc H8 e8 => q2 _ H8 (e7.trans e8) ⟨m, ps, ⟨rfl, m1, m9⟩, hF, hc⟩⟩
        exact gr H5 e5 _ fun v H6 e6 ⟨m, ps, hz, hF, hc⟩ => ⟨m, ps, hz, hF, hc, fun H7 e7 => q' H7 (e6.trans e7)⟩
      · intro H5 e5 Q' q'
        refine call1 (Q := Q') ev_c fun H6 e6 => .inl ⟨1, ⟨rfl, by decide, by decide⟩, fun ps hF p xs H7 p0 e7 h7 hR => ?_⟩
        have : ps = [] := fac_uniq hF ⟨rfl, fun _ h => (by cases h), .nil⟩
        subst this
        have : xs = [] := List.length_eq_zero_iff.mp hR.len
        subst this
        exact q' _ H7 (e6.trans e7) (.lst (sq_of h7) .nil)
      · have : divs 1 = [1] := by decide
        rw [this]
        exact .cons (.int 1) .nil
    · rw [SeqAt.eqv_refl _ (SeqAt.canLay_of_shaped sh0), SeqAt.eqv_refl _ (SeqAt.canLay_of_shaped sh1)] at hb
      cases hb
    have n5 := n4.ex e5
    -- a name, a size
    obtain ⟨j, hj⟩ : ∃ j : Nat, M / 2 ^ (20 : Int).toNat % 10 = (j : Int) := nat_of (by omega)
    have hj10 : j < 10 := by omega
    obtain ⟨nm, hnm⟩ : ∃ s, NMS[j]? = some s := ⟨_, List.getElem?_eq_getElem (show j < NMS.length from hj10)⟩
    have hI : isN (.str nm) j := ⟨nm, hnm, rfl⟩
    refine q_asg (v := .str nm) (ev_op (ev_var rfl) (ev_is (w := .int (j : Int)) (ev_op (ev_op (ev_var rfl) (ev_op ev_c ev_c (rv_I ⟨by decide, by decide, by decide⟩)) (rv_I (cdiv_w (by decide) (by decide)))) ev_c (rv_I (by decide))) (by rw [hj])) (rv_ixL (sq_of (n5.o ha)) (atI_nat (by rw [List.getElem?_map, hnm]; rfl)))) fun H6 e6 => ?_
    obtain ⟨sz, hsz⟩ : ∃ j : Nat, 1 + M / 2 ^ (24 : Int).toNat % 60 = (j : Int) := nat_of (by omega)
    refine q_asg (v := .int (sz : Int)) (ev_is (ev_op ev_c (ev_op (ev_op (ev_var rfl) (ev_op ev_c ev_c (rv_I ⟨by decide, by decide, by decide⟩)) (rv_I (cdiv_w (by decide) (by decide)))) ev_c (rv_I (by decide))) rv_I0) (by rw [hsz])) fun H7 e7 => ?_
    have n7 := n5.ex (e6.trans e7)
    refine qn_when (b := !decide (tab sz (W j) = tab sz (W j))) n7.2 (tlt_test (tl_opLL (xs := (tab sz (W j)).map V.int) (ys := (tab sz (W j)).map V.int) (tll_told fun H8 n8 Q' q' => call2 (ev_var rfl) (ev_var rfl) fun H9 e9 => .inl ⟨j, sz, hI, rfl, by omega, by omega, fun p H10 _ e10 h10 => q' p H10 (nx_of n8.2 (e9.trans e10)) h10⟩) (fun H8 n8 => ?_) fun p r H8 h8 h9 => rv_neI (sq_of h8) (sq_of h9))) (fun hb => by simp at hb) fun _ H8 n8 => ?_
    · have g : (tab sz (W j)).map V.int = given sz (fun _ => true) fun k => V.int (W j (k + 1)) := by
        rw [given_all, tab, List.map_map]
        rfl
      rw [g]
      have := el_lcR2 (σ := [some (.ref a), some (.ref nl), some (.int (i : Int)), some (.int M), some (.int (n : Int)), some (.str nm), some (.int (sz : Int)), y7, y8, y9, y10, y11]) (H := H8) (ta := tCons (tC (.int 1)) (tCons (tOp oAdd (tVar 6) (tC (.int 1))) tNil)) (j := 11) (vs := [11]) (u := tYes) (te := tCall (sp__law_worth G) [] E0 (tCons (tVar 5) (tCons (tVar 11) tNil))) (lo := 1) (n := (sz : Int) + 1) (fun _ => true) (fun k => V.int (W j (k + 1))) (ea_cons ev_c (ea_cons (ev_op (ev_var rfl) ev_c rv_I0) ea_nil)) (by omega) (fun x => rfl) (fun _ _ _ _ => et_yes)
        fun k H9 e9 hk _ => ev_ca2 (ev_var rfl) (ev_var rfl) fun H10 e10 Q' q' => ⟨j, k + 1, hI, by congr 1; omega, by omega, by omega, q'⟩
      rwa [show ((sz : Int) + 1 - 1).toNat = sz by omega] at this
    have nn8 := n7.trans n8
    -- what is no number
    have stB : ∀ (v : V) (H H' : Hp), Ex H H' → (NumBad v 1 1000000000 ∧ NumBad v 1 500) → (NumBad v 1 1000000000 ∧ NumBad v 1 500) := fun _ _ _ _ h => h
    have stC : ∀ (v : V) (H H' : Hp), Ex H H' → NumBad v 1 500 → NumBad v 1 500 := fun _ _ _ _ h => h
    have nbi : ∀ z : Int, ¬ (1 ≤ z ∧ z ≤ 1000000000) → NumBad (.int z) 1 1000000000 ∧ NumBad (.int z) 1 500 := fun z h => ⟨.inr (.inr (.inr ⟨z, rfl, h⟩)), .inr (.inr (.inr ⟨z, rfl, fun y => h ⟨y.1, by omega⟩⟩))⟩
    obtain ⟨j6, hj6⟩ : ∃ j : Nat, M / 2 ^ (32 : Int).toNat % 6 = (j : Int) := nat_of (by omega)
    refine q_asgP (P := fun v _ => NumBad v 1 1000000000 ∧ NumBad v 1 500) (ep_ix (n := 6) (j := j6) stB ?_ (fun H9 e9 => ?_) (by omega) (by decide)) fun od H9 e9 hod => ?_
    · refine eall_cons stB (ep_ev ev_c fun _ _ => nbi _ (by decide)) ?_
      refine eall_cons stB (ep_ev (ev_un ev_c ru_neg) fun _ _ => nbi _ (by decide)) ?_
      refine eall_cons stB (ep_ev ev_c fun _ _ => nbi _ (by decide)) ?_
      refine eall_cons stB (ep_ev ev_c fun _ _ => ⟨.inr (.inl ⟨_, rfl⟩), .inr (.inl ⟨_, rfl⟩)⟩) ?_
      refine eall_cons stB (ep_ev ev_c fun _ _ => ⟨.inl rfl, .inl rfl⟩) ?_
      exact eall_cons stB (ep_ev ev_c fun _ _ => ⟨.inr (.inr (.inl ⟨_, rfl⟩)), .inr (.inr (.inl ⟨_, rfl⟩))⟩) eall_nil
    · rw [← hj6]
      exact ev_op (ev_op (ev_var rfl) (ev_op ev_c ev_c (rv_I ⟨by decide, by decide, by decide⟩)) (rv_I (cdiv_w (by decide) (by decide)))) ev_c (rv_I (by decide))
    have n9 := nn8.ex e9
    refine q_lstT (v := .str "BadNumber") n9.2 (tl_told fun H10 n10 Q' q' => call1 (ev_var rfl) fun H11 e11 => .inr ⟨hod.1, bn_go n10 q' e11⟩) fun l H10 n10 l0 => ?_
    have n11 : NX T H10 (upd H10 l (.lst [V.str "BadNumber"])) := nx_of n10.2 (Ex.new l0)
    have h11 : (upd H10 l (.lst [V.str "BadNumber"])) l = some (.lst [V.str "BadNumber"]) := upd_same
    generalize upd H10 l (.lst [V.str "BadNumber"]) = H11 at *
    refine q_appT (v := .str "BadNumber") n11.2 h11 rfl (tl_told fun H12 n12 Q' q' => call1 (ev_var rfl) fun H13 e13 => .inr ⟨hod.1, bn_go n12 q' e13⟩) (by decide) fun H12 n12 => ?_
    have n13 := (n11.trans n12).mut (o := .lst ([V.str "BadNumber"] ++ [V.str "BadNumber"])) l0 (n12.o h11)
    have h13 : (upd H12 l (.lst ([V.str "BadNumber"] ++ [V.str "BadNumber"]))) l = some (.lst ([V.str "BadNumber"] ++ [V.str "BadNumber"])) := upd_same
    generalize upd H12 l (.lst ([V.str "BadNumber"] ++ [V.str "BadNumber"])) = H13 at *
    refine q_appT (v := .str "BadNumber") n13.2 h13 rfl (tl_told fun H14 n14 Q' q' => call2 (ev_var rfl) (ev_var rfl) fun H15 e15 => .inr (.inr ⟨⟨j, hI⟩, hod.1, bn_go n14 q' e15⟩)) (by decide) fun H14 n14 => ?_
    have n15 := (n13.trans n14).mut (o := .lst ([V.str "BadNumber"] ++ [V.str "BadNumber"] ++ [V.str "BadNumber"])) l0 (n14.o h13)
    have h15 : (upd H14 l (.lst ([V.str "BadNumber"] ++ [V.str "BadNumber"] ++ [V.str "BadNumber"]))) l = some (.lst ([V.str "BadNumber"] ++ [V.str "BadNumber"] ++ [V.str "BadNumber"])) := upd_same
    generalize upd H14 l (.lst ([V.str "BadNumber"] ++ [V.str "BadNumber"] ++ [V.str "BadNumber"])) = H15 at *
    obtain ⟨j3, hj3⟩ : ∃ j : Nat, M % 3 = (j : Int) := nat_of (by omega)
    refine q_appT (v := .str "BadNumber") n15.2 h15 rfl (tl_told fun H16 n16 Q' q' => ?_) (by decide) fun H16 n16 => ?_
    · have ep : EvP (tOp (rIxL G.K) (tLst (tCons (tC (.int 0)) (tCons (tC (.int 501)) (tCons (tVar 7) tNil)))) (tOp oMod (tVar 3) (tC (.int 3)))) _ H16 (fun v _ => NumBad v 1 500) := ep_ix (n := 3) (j := j3) (σ := [some (.ref a), some (.ref nl), some (.int (i : Int)), some (.int M), some (.int (n : Int)), some (.str nm), some (.int (sz : Int)), some od, some (.ref l), y9, y10, y11]) stC (eall_cons stC (ep_ev ev_c fun _ _ => .inr (.inr (.inr ⟨_, rfl, by decide⟩))) (eall_cons stC (ep_ev ev_c fun _ _ => .inr (.inr (.inr ⟨_, rfl, by decide⟩))) (eall_cons stC (ep_ev (ev_var rfl) fun _ _ => hod.2) eall_nil))) (fun H17 e17 => by rw [← hj3]; exact ev_op (ev_var rfl) ev_c (rv_I (by decide))) (by omega) (by decide)
      exact call2P (ev_var (i := 5) (v := .str nm) rfl) ep fun v H18 e18 hv => .inr (.inr ⟨⟨j, hI⟩, hv, bn_go n16 q' e18⟩)
    have n17 := (n15.trans n16).mut (o := .lst ([V.str "BadNumber"] ++ [V.str "BadNumber"] ++ [V.str "BadNumber"] ++ [V.str "BadNumber"])) l0 (n16.o h15)
    have h17 : (upd H16 l (.lst ([V.str "BadNumber"] ++ [V.str "BadNumber"] ++ [V.str "BadNumber"] ++ [V.str "BadNumber"]))) l = some (.lst ([V.str "BadNumber"] ++ [V.str "BadNumber"] ++ [V.str "BadNumber"] ++ [V.str "BadNumber"])) := upd_same
    generalize upd H16 l (.lst ([V.str "BadNumber"] ++ [V.str "BadNumber"] ++ [V.str "BadNumber"] ++ [V.str "BadNumber"])) = H17 at *
    refine q_when (b := false) (et_test (ev_opL (xs := List.replicate 4 (V.str "BadNumber")) (ev_var rfl) (el_rep (n := 4) (el_lst (ea_cons ev_c ea_nil) (by show 1 ≤ 100000; decide)) ev_c (by decide)) fun p H18 h18 e18 => rv_neS (ns := List.replicate 4 "BadNumber") (by decide +kernel) (sq_of (e18 l _ h17)) (sq_of h18))) (fun hb => by cases hb) fun _ H18 e18 => ?_
    have n18 := ((n9.trans n10).trans n17).ex e18
    -- what is no name
    obtain ⟨j4, hj4⟩ : ∃ j : Nat, M / 2 ^ (36 : Int).toNat % 4 = (j : Int) := nat_of (by omega)
    have stN : ∀ (v : V) (H H' : Hp), Ex H H' → NameBad v → NameBad v := fun _ _ _ _ h => h
    refine q_asgP (P := fun v _ => NameBad v) (ep_ix (n := 4) (j := j4) stN ?_ (fun H9 e9 => ?_) (by omega) (by decide)) fun wd H19 e19 hwd => ?_
    · refine eall_cons stN (ep_ev ev_c fun _ _ => ⟨rfl, by decide +kernel⟩) ?_
      refine eall_cons stN (ep_ev ev_c fun _ _ => ⟨rfl, by decide +kernel⟩) ?_
      refine eall_cons stN (ep_ev ev_c fun _ _ => ⟨rfl, by decide +kernel⟩) ?_
      exact eall_cons stN (ep_ev ev_c fun _ _ => ⟨rfl, by decide +kernel⟩) eall_nil
    · rw [← hj4]
      exact ev_op (ev_op (ev_var rfl) (ev_op ev_c ev_c (rv_I ⟨by decide, by decide, by decide⟩)) (rv_I (cdiv_w (by decide) (by decide)))) ev_c (rv_I (by decide))
    have n19 := n18.ex e19
    refine q_lstT (v := .str "BadName") n19.2 (tl_told fun H20 n20 Q' q' => call2 (ev_var rfl) (ev_var rfl) fun H21 e21 => .inr (.inl ⟨hwd, bm_go n20 q' e21⟩)) fun l2 H20 n20 l02 => ?_
    have n21 : NX T H20 (upd H20 l2 (.lst [V.str "BadName"])) := nx_of n20.2 (Ex.new l02)
    have h21 : (upd H20 l2 (.lst [V.str "BadName"])) l2 = some (.lst [V.str "BadName"]) := upd_same
    generalize upd H20 l2 (.lst [V.str "BadName"]) = H21 at *
    refine q_appT (v := .str "BadName") n21.2 h21 rfl (tl_told fun H22 n22 Q' q' => call2 (ev_var rfl) (ev_var rfl) fun H23 e23 => .inr (.inl ⟨hwd, bm_go n22 q' e23⟩)) (by decide) fun H22 n22 => ?_
    have n23 := (n21.trans n22).mut (o := .lst ([V.str "BadName"] ++ [V.str "BadName"])) l02 (n22.o h21)
    have h23 : (upd H22 l2 (.lst ([V.str "BadName"] ++ [V.str "BadName"]))) l2 = some (.lst ([V.str "BadName"] ++ [V.str "BadName"])) := upd_same
    generalize upd H22 l2 (.lst ([V.str "BadName"] ++ [V.str "BadName"])) = H23 at *
    exact s_when (b := false) (et_test (ev_opL (xs := List.replicate 2 (V.str "BadName")) (ev_var rfl) (el_lst (vs := [V.str "BadName", V.str "BadName"]) (ea_cons ev_c (ea_cons ev_c ea_nil)) (by show 2 ≤ 100000; decide)) fun p H24 h24 e24 => rv_neS (ns := List.replicate 2 "BadName") (by decide +kernel) (sq_of (e24 l2 _ h23)) (sq_of h24))) (fun hb => by cases hb) fun _ H24 e24 => ⟨_, _, _, _, _, _, _, _, _, _, rfl, ((n19.trans n20).trans n23).ex e24⟩
  · rintro σ' H1 ⟨y2, y3, y4, y5, y6, y7, y8, y9, y10, y11, rfl, n1⟩
    exact s_ret ev_c fun H2 e2 => q H2
end Sv

set_option Elab.async false
set_option linter.all false
set_option maxRecDepth 100000
set_option maxHeartbeats 4000000
namespace Sv
open PySem PySem.Spec PyProof.Rows L2 Evl HotX L2H LamX
def topS (i : Nat) : Stmt := PySem.Challenge.pw_sievewright_k20_whole_worths.main.body.getD i (.Pass ⟨0, 0, 0, 0⟩)
section
variable {P : Program} {w : World} {G : Pm} {mg : Str → Option Value} {base : Heap}
abbrev s__law_told : Stmt := topS 26
theorem sc__law_told : FnScope ["_law_deed", "_law_e"] ["_law_deed"] (defScope s__law_told) := ⟨rfl, rfl, rfl, by decide +kernel, rfl, by decide +kernel, by decide +kernel⟩
abbrev s_need_number : Stmt := topS 12
theorem sc_need_number : FnScope n_need_number p_need_number (defScope s_need_number) := ⟨rfl, rfl, rfl, by decide +kernel, rfl, by decide +kernel, by decide +kernel⟩
theorem ok_need_number (D_need_number : DefAt G.K mg "need_number" s_need_number) (m_int : mg "int" = none) (m_isinstance : mg "isinstance" = none) (m_bool : mg "bool" = none) (x_BadNumber : ErrAt G.K mg "BadNumber" G.BadNumber) (HP : P_need_number G) : Ok P w G.K mg base (CXN P w) 1 "need_number" p_need_number (sp_need_number G) :=
  mk_ok D_need_number sc_need_number (fun _ _ _ _ _ _ us hl => match us, hl with | [_, _, _], _ => rfl) sp3_len (t_need_number G)
    (fun vs H Q E h => match vs, h with | [x0, x1, x2], h => HP x0 x1 x2 H Q E h)
    (fun f cdv A outer s H E hr =>
  (pss_one (ps_if (PW.pt (pw_or (pt_not (pt_val (pe_callB call_isi (by rfl) m_isinstance (by decide +kernel) (pa_cons (pv 0) (pa_cons (pe_bltn (v := .ty "int") (by rfl) m_int (by decide +kernel) rfl) pa_nil))))) (pw_or (pt_val (pe_callB call_isi (by rfl) m_isinstance (by decide +kernel) (pa_cons (pv 0) (pa_cons (pe_bltn (v := .ty "bool") (by rfl) m_bool (by decide +kernel) rfl) pa_nil)))) (pw_or1 (pt_not (pt_chain op_le op_le (pv 1) (pv 0) (pv 2)))))))
  (pss_one (ps_raiseN x_BadNumber (by rfl) rfl rfl rfl rfl rfl))
  pss_nil)))
abbrev s_need_name : Stmt := topS 13
theorem sc_need_name : FnScope n_need_name p_need_name (defScope s_need_name) := ⟨rfl, rfl, rfl, by decide +kernel, rfl, by decide +kernel, by decide +kernel⟩
theorem ok_need_name (D_need_name : DefAt G.K mg "need_name" s_need_name) (x_BadName : ErrAt G.K mg "BadName" G.BadName) (c_NAMES : mg "NAMES" = some (.ref G.NAMES)) (HP : P_need_name G) : Ok P w G.K mg base (CXN P w) 1 "need_name" p_need_name (sp_need_name G) :=
  mk_ok D_need_name sc_need_name (fun _ _ _ _ _ _ us hl => match us, hl with | [_], _ => rfl) sp1_len (t_need_name G)
    (fun vs H Q E h => match vs, h with | [x0], h => HP x0 H Q E h)
    (fun f cdv A outer s H E hr =>
  (pss_one (ps_if (pt_cmpR op_notIn_seq (pv 0) (pe_glob (v := .ref G.NAMES) (by rfl) c_NAMES rfl) (by with_unfolding_all rfl))
  (pss_one (ps_raiseN x_BadName (by rfl) rfl rfl rfl rfl rfl))
  pss_nil)))
abbrev s_apart : Stmt := topS 14
theorem sc_apart : FnScope n_apart p_apart (defScope s_apart) := ⟨rfl, rfl, rfl, by decide +kernel, rfl, by decide +kernel, by decide +kernel⟩
theorem ok_apart (D_apart : DefAt G.K mg "apart" s_apart) (HP : P_apart G) : Ok P w G.K mg base (CXN P w) 1 "apart" p_apart (sp_apart G) :=
  mk_ok D_apart sc_apart (fun _ _ _ _ _ _ us hl => match us, hl with | [_], _ => rfl) sp1_len (t_apart G)
    (fun vs H Q E h => match vs, h with | [x0], h => HP x0 H Q E h)
    (fun f cdv A outer s H E hr =>
  (pss_cons (ps_set (i := 1) sc_apart.nd rfl (Or.inl rfl) (pe_lst pa_nil))
  (pss_cons (ps_set (i := 2) sc_apart.nd rfl (Or.inl rfl) pe_int)
  (pss_cons (ps_while (L2.passes_of rfl) (pt_cmpR op_le (pe_op op_mulA (pv 2) (pv 2)) (pv 0) (nomark _))
  (pss_cons (ps_set (i := 3) sc_apart.nd rfl (Or.inl rfl) pe_int)
  (pss_cons (ps_while (L2.passes_of rfl) (pt_cmpR op_eq (pe_op op_mod (pv 0) (pv 2)) pe_int (nomark _))
  (pss_cons (ps_set (i := 0) sc_apart.nd rfl (Or.inl rfl) (pe_op op_fdivW (pv 0) (pv 2)))
  (pss_one (ps_set (i := 3) sc_apart.nd rfl (Or.inl rfl) (pe_op op_add (pv 3) pe_int)))))
  (pss_cons (ps_if (pt_cmpR op_gt (pv 3) pe_int (nomark _))
  (pss_one (ps_expr (pe_bm PySem.F.plainAttrs_list PySem.F.slot_list_append PySem.F.type_list_append mt_append (pv 1) (pa_cons (pe_tup (pa_cons (pv 2) (pa_cons (pv 3) pa_nil))) pa_nil))))
  pss_nil)
  (pss_one (ps_set (i := 2) sc_apart.nd rfl (Or.inl rfl) (pe_op op_add (pv 2) pe_int)))))))
  (pss_cons (ps_if (pt_cmpR op_gt (pv 0) pe_int (nomark _))
  (pss_one (ps_expr (pe_bm PySem.F.plainAttrs_list PySem.F.slot_list_append PySem.F.type_list_append mt_append (pv 1) (pa_cons (pe_tup (pa_cons (pv 0) (pa_cons pe_int pa_nil))) pa_nil))))
  pss_nil)
  (pss_one (ps_ret (pv 1))))))))
abbrev s_primes_of : Stmt := topS 15
theorem sc_primes_of : FnScope n_primes_of p_primes_of (defScope s_primes_of) := ⟨rfl, rfl, rfl, by decide +kernel, rfl, by decide +kernel, by decide +kernel⟩
theorem ok_primes_of (D_primes_of : DefAt G.K mg "primes_of" s_primes_of) (C_need_number : Ok P w G.K mg base (CXN P w) 1 "need_number" p_need_number (sp_need_number G)) (C_apart : Ok P w G.K mg base (CXN P w) 1 "apart" p_apart (sp_apart G)) (c_MOST_NUMBER : ∃ t, mg "MOST_NUMBER" = some (.int 1000000000 t)) (HP : P_primes_of G) : Ok P w G.K mg base (CXN P w) 2 "primes_of" p_primes_of (sp_primes_of G) :=
  mk_ok D_primes_of sc_primes_of (fun _ _ _ _ _ _ us hl => match us, hl with | [_], _ => rfl) sp1_len (t_primes_of G)
    (fun vs H Q E h => match vs, h with | [x0], h => HP x0 H Q E h)
    (fun f cdv A outer s H E hr =>
  (pss_cons (ps_expr (pe_ok C_need_number hr (by decide) (by rfl) (psx rfl rfl rfl rfl) (pa_cons (pv 0) (pa_cons pe_int (pa_cons (pe_glob (by rfl) c_MOST_NUMBER.choose_spec ⟨_, rfl⟩) pa_nil)))))
  (pss_one (ps_ret (pe_ok C_apart hr (by decide) (by rfl) (psx rfl rfl rfl rfl) (pa_cons (pv 0) pa_nil))))))
abbrev s_power : Stmt := topS 16
theorem sc_power : FnScope n_power p_power (defScope s_power) := ⟨rfl, rfl, rfl, by decide +kernel, rfl, by decide +kernel, by decide +kernel⟩
theorem ok_power (D_power : DefAt G.K mg "power" s_power) (m_range : mg "range" = none) (HP : P_power G) : Ok P w G.K mg base (CXN P w) 1 "power" p_power (sp_power G) :=
  mk_ok D_power sc_power (fun _ _ _ _ _ _ us hl => match us, hl with | [_, _], _ => rfl) sp2_len (t_power G)
    (fun vs H Q E h => match vs, h with | [x0, x1], h => HP x0 x1 H Q E h)
    (fun f cdv A outer s H E hr =>
  (pss_cons (ps_set (i := 2) sc_power.nd rfl (Or.inl rfl) pe_int)
  (pss_cons (ps_for (L2.passes_of rfl) rfl (pi_range1 (by rfl) m_range (pa_cons (pv 1) pa_nil)) (pg_name (i := 3) sc_power.nd rfl (Or.inl rfl))
  (pss_one (ps_set (i := 2) sc_power.nd rfl (Or.inl rfl) (pe_op op_mulA (pv 2) (pv 0)))))
  (pss_one (ps_ret (pv 2))))))
abbrev s_all_divisors : Stmt := topS 17
theorem sc_all_divisors : FnScope n_all_divisors p_all_divisors (defScope s_all_divisors) := ⟨rfl, rfl, rfl, by decide +kernel, rfl, by decide +kernel, by decide +kernel⟩
theorem ok_all_divisors (D_all_divisors : DefAt G.K mg "all_divisors" s_all_divisors) (C_power : Ok P w G.K mg base (CXN P w) 1 "power" p_power (sp_power G)) (m_range : mg "range" = none) (m_sorted : mg "sorted" = none) (HP : P_all_divisors G) : Ok P w G.K mg base (CXN P w) 2 "all_divisors" p_all_divisors (sp_all_divisors G) :=
  mk_ok D_all_divisors sc_all_divisors (fun _ _ _ _ _ _ us hl => match us, hl with | [_], _ => rfl) sp1_len (t_all_divisors G)
    (fun vs H Q E h => match vs, h with | [x0], h => HP x0 H Q E h)
    (fun f cdv A outer s H E hr =>
  (pss_cons (ps_set (i := 1) sc_all_divisors.nd rfl (Or.inl rfl) (pe_lst (pa_cons pe_int pa_nil)))
  (pss_cons (ps_for (L2.passes_of rfl) rfl (pi_list (pv 0)) (pg_tup rfl (pgs_cons (pg_name (i := 2) sc_all_divisors.nd rfl (Or.inr rfl)) (pgs_cons (pg_name (i := 3) sc_all_divisors.nd rfl (Or.inl rfl)) pgs_nil)))
  (pss_cons (ps_set (i := 4) sc_all_divisors.nd rfl (Or.inl rfl) (pe_lst pa_nil))
  (pss_cons (ps_for (L2.passes_of rfl) rfl (pi_list (pv 1)) (pg_name (i := 5) sc_all_divisors.nd rfl (Or.inr rfl))
  (pss_one (ps_expr (pe_bm PySem.F.plainAttrs_list PySem.F.slot_list_extend PySem.F.type_list_extend mt_extend (pv 4) (pa_cons (pe_lc (own := [("many", 6)]) rfl sc_all_divisors.nd (pi_range1 (by rfl) m_range (pa_cons (pe_op op_add (pv 3) pe_int) pa_nil)) (blkOk_by (N := n_all_divisors) (sc := defScope s_all_divisors) (by decide +kernel)) (fun _ _ _ _ _ => (pg_name (i := 6) sc_all_divisors.nd rfl (Or.inl rfl))) (fun _ _ _ _ _ => pts_nil) (fun _ _ _ _ _ => (pe_op op_mulA (pv 5) (pe_ok C_power hr (by decide) (by rfl) psn (pa_cons (pv 2) (pa_cons (pv 6) pa_nil)))))) pa_nil)))))
  (pss_one (ps_set (i := 1) sc_all_divisors.nd rfl (Or.inl rfl) (pv 4))))))
  (pss_one (ps_ret (pe_callB cr_sortedI (by rfl) m_sorted (by decide +kernel) (pa_cons (pv 1) pa_nil)))))))
abbrev s_divisors : Stmt := topS 18
theorem sc_divisors : FnScope n_divisors p_divisors (defScope s_divisors) := ⟨rfl, rfl, rfl, by decide +kernel, rfl, by decide +kernel, by decide +kernel⟩
theorem ok_divisors (D_divisors : DefAt G.K mg "divisors" s_divisors) (C_all_divisors : Ok P w G.K mg base (CXN P w) 2 "all_divisors" p_all_divisors (sp_all_divisors G)) (C_primes_of : Ok P w G.K mg base (CXN P w) 2 "primes_of" p_primes_of (sp_primes_of G)) (HP : P_divisors G) : Ok P w G.K mg base (CXN P w) 3 "divisors" p_divisors (sp_divisors G) :=
  mk_ok D_divisors sc_divisors (fun _ _ _ _ _ _ us hl => match us, hl with | [_], _ => rfl) sp1_len (t_divisors G)
    (fun vs H Q E h => match vs, h with | [x0], h => HP x0 H Q E h)
    (fun f cdv A outer s H E hr =>
  (pss_one (ps_ret (pe_ok C_all_divisors hr (by decide) (by rfl) (psx rfl rfl rfl rfl) (pa_cons (pe_ok C_primes_of hr (by decide) (by rfl) (psx rfl rfl rfl rfl) (pa_cons (pv 0) pa_nil)) pa_nil)))))
abbrev s_worth_by : Stmt := topS 19
theorem sc_worth_by : FnScope n_worth_by p_worth_by (defScope s_worth_by) := ⟨rfl, rfl, rfl, by decide +kernel, rfl, by decide +kernel, by decide +kernel⟩
theorem ok_worth_by (D_worth_by : DefAt G.K mg "worth_by" s_worth_by) (C_power : Ok P w G.K mg base (CXN P w) 1 "power" p_power (sp_power G)) (m_int : mg "int" = none) (m_len : mg "len" = none) (m_sum : mg "sum" = none) (m_any : mg "any" = none) (m_range : mg "range" = none) (HP : P_worth_by G) : Ok P w G.K mg base (CXN P w) 2 "worth_by" p_worth_by (sp_worth_by G) :=
  mk_ok D_worth_by sc_worth_by (fun _ _ _ _ _ _ us hl => match us, hl with | [_, _, _], _ => rfl) sp3_len (t_worth_by G)
    (fun vs H Q E h => match vs, h with | [x0, x1, x2], h => HP x0 x1 x2 H Q E h)
    (fun f cdv A outer s H E hr =>
  (pss_cons (ps_if (pt_cmpR op_eq (pv 0) pe_str (nomark _))
  (pss_one (ps_ret (pe_callTy call_int1 (by rfl) m_int (by decide +kernel) (pa_cons (pe_cmpR op_eq (pv 1) pe_int (nomark _)) pa_nil))))
  pss_nil)
  (pss_cons (ps_if (pt_cmpR op_eq (pv 0) pe_str (nomark _))
  (pss_one (ps_ret pe_int))
  pss_nil)
  (pss_cons (ps_if (pt_cmpR op_eq (pv 0) pe_str (nomark _))
  (pss_one (ps_ret (pv 1)))
  pss_nil)
  (pss_cons (ps_if (pt_cmpR op_eq (pv 0) pe_str (nomark _))
  (pss_one (ps_ret (pe_callTy call_int1 (by rfl) m_int (by decide +kernel) (pa_cons (pe_and (pe_cmpR op_eq (pe_callB call_len_seq (by rfl) m_len (by decide +kernel) (pa_cons (pv 2) pa_nil)) pe_int (nomark _)) (pe_one (pe_cmpR op_eq (pe_ix ix_tup (pe_ix ix_list (pv 2) pe_int (fun _ _ => rfl)) pe_int (fun _ _ => rfl)) pe_int (nomark _)))) pa_nil))))
  pss_nil)
  (pss_cons (ps_if (pt_cmpR op_eq (pv 0) pe_str (nomark _))
  (pss_one (ps_ret (pe_op op_sub pe_int (pe_op op_mulA pe_int (pe_op op_mod (pe_callB (cr_sum rfl) (by rfl) m_sum (by decide +kernel) (pa_cons (pe_lc (own := [("prime", 4), ("often", 5)]) rfl sc_worth_by.nd (pi_list (pv 2)) (blkOk_by (N := n_worth_by) (sc := defScope s_worth_by) (by decide +kernel)) (fun _ _ _ _ _ => (pg_tup rfl (pgs_cons (pg_name (i := 4) sc_worth_by.nd rfl (Or.inl rfl)) (pgs_cons (pg_name (i := 5) sc_worth_by.nd rfl (Or.inl rfl)) pgs_nil)))) (fun _ _ _ _ _ => pts_nil) (fun _ _ _ _ _ => (pv 5))) pa_nil)) pe_int)))))
  pss_nil)
  (pss_cons (ps_if (pt_cmpR op_in_seq (pv 0) (pe_tup (pa_cons pe_str (pa_cons pe_str pa_nil))) (by with_unfolding_all rfl))
  (pss_cons (ps_if (pt_val (pe_callB (cr_any rfl) (by rfl) m_any (by decide +kernel) (pa_cons (pe_lc (own := [("prime", 4), ("often", 5)]) rfl sc_worth_by.nd (pi_list (pv 2)) (blkOk_by (N := n_worth_by) (sc := defScope s_worth_by) (by decide +kernel)) (fun _ _ _ _ _ => (pg_tup rfl (pgs_cons (pg_name (i := 4) sc_worth_by.nd rfl (Or.inl rfl)) (pgs_cons (pg_name (i := 5) sc_worth_by.nd rfl (Or.inl rfl)) pgs_nil)))) (fun _ _ _ _ _ => pts_nil) (fun _ _ _ _ _ => (pe_cmpR op_gt (pv 5) pe_int (nomark _)))) pa_nil)))
  (pss_one (ps_ret pe_int))
  pss_nil)
  (pss_one (ps_ret (pe_ifExp (pt_cmpR op_eq (pv 0) pe_str (nomark _)) pe_int (pe_op op_sub pe_int (pe_op op_mulA pe_int (pe_op op_mod (pe_callB call_len_seq (by rfl) m_len (by decide +kernel) (pa_cons (pv 2) pa_nil)) pe_int)))))))
  pss_nil)
  (pss_cons (ps_set (i := 3) sc_worth_by.nd rfl (Or.inl rfl) pe_int)
  (pss_cons (ps_for (L2.passes_of rfl) rfl (pi_list (pv 2)) (pg_tup rfl (pgs_cons (pg_name (i := 4) sc_worth_by.nd rfl (Or.inr rfl)) (pgs_cons (pg_name (i := 5) sc_worth_by.nd rfl (Or.inl rfl)) pgs_nil)))
  (pss_one (ps_if (pt_cmpR op_eq (pv 0) pe_str (nomark _))
  (pss_one (ps_set (i := 3) sc_worth_by.nd rfl (Or.inl rfl) (pe_op op_mulA (pv 3) (pe_op op_add (pv 5) pe_int))))
  (pss_one (ps_if (pt_cmpR op_eq (pv 0) pe_str (nomark _))
  (pss_one (ps_set (i := 3) sc_worth_by.nd rfl (Or.inl rfl) (pe_op op_mulA (pv 3) (pe_callB (cr_sum rfl) (by rfl) m_sum (by decide +kernel) (pa_cons (pe_lc (own := [("many", 6)]) rfl sc_worth_by.nd (pi_range1 (by rfl) m_range (pa_cons (pe_op op_add (pv 5) pe_int) pa_nil)) (blkOk_by (N := n_worth_by) (sc := defScope s_worth_by) (by decide +kernel)) (fun _ _ _ _ _ => (pg_name (i := 6) sc_worth_by.nd rfl (Or.inl rfl))) (fun _ _ _ _ _ => pts_nil) (fun _ _ _ _ _ => (pe_ok C_power hr (by decide) (by rfl) psn (pa_cons (pv 4) (pa_cons (pv 6) pa_nil))))) pa_nil)))))
  (pss_one (ps_set (i := 3) sc_worth_by.nd rfl (Or.inl rfl) (pe_op op_mulA (pe_op op_mulA (pv 3) (pe_ok C_power hr (by decide) (by rfl) (psx rfl rfl rfl rfl) (pa_cons (pv 4) (pa_cons (pe_op op_sub (pv 5) pe_int) pa_nil)))) (pe_op op_sub (pv 4) pe_int)))))))))
  (pss_one (ps_ret (pv 3))))))))))))
abbrev s_named_worth : Stmt := topS 20
theorem sc_named_worth : FnScope n_named_worth p_named_worth (defScope s_named_worth) := ⟨rfl, rfl, rfl, by decide +kernel, rfl, by decide +kernel, by decide +kernel⟩
theorem ok_named_worth (D_named_worth : DefAt G.K mg "named_worth" s_named_worth) (C_need_name : Ok P w G.K mg base (CXN P w) 1 "need_name" p_need_name (sp_need_name G)) (C_worth_by : Ok P w G.K mg base (CXN P w) 2 "worth_by" p_worth_by (sp_worth_by G)) (C_primes_of : Ok P w G.K mg base (CXN P w) 2 "primes_of" p_primes_of (sp_primes_of G)) (HP : P_named_worth G) : Ok P w G.K mg base (CXN P w) 3 "named_worth" p_named_worth (sp_named_worth G) :=
  mk_ok D_named_worth sc_named_worth (fun _ _ _ _ _ _ us hl => match us, hl with | [_, _], _ => rfl) sp2_len (t_named_worth G)
    (fun vs H Q E h => match vs, h with | [x0, x1], h => HP x0 x1 H Q E h)
    (fun f cdv A outer s H E hr =>
  (pss_cons (ps_expr (pe_ok C_need_name hr (by decide) (by rfl) (psx rfl rfl rfl rfl) (pa_cons (pv 0) pa_nil)))
  (pss_one (ps_ret (pe_ok C_worth_by hr (by decide) (by rfl) (psx rfl rfl rfl rfl) (pa_cons (pv 0) (pa_cons (pv 1) (pa_cons (pe_ok C_primes_of hr (by decide) (by rfl) (psx rfl rfl rfl rfl) (pa_cons (pv 1) pa_nil)) pa_nil))))))))
abbrev s_named_table : Stmt := topS 21
theorem sc_named_table : FnScope n_named_table p_named_table (defScope s_named_table) := ⟨rfl, rfl, rfl, by decide +kernel, rfl, by decide +kernel, by decide +kernel⟩
theorem ok_named_table (D_named_table : DefAt G.K mg "named_table" s_named_table) (C_need_name : Ok P w G.K mg base (CXN P w) 1 "need_name" p_need_name (sp_need_name G)) (C_need_number : Ok P w G.K mg base (CXN P w) 1 "need_number" p_need_number (sp_need_number G)) (C_worth_by : Ok P w G.K mg base (CXN P w) 2 "worth_by" p_worth_by (sp_worth_by G)) (C_apart : Ok P w G.K mg base (CXN P w) 1 "apart" p_apart (sp_apart G)) (m_range : mg "range" = none) (c_MOST_SIZE : ∃ t, mg "MOST_SIZE" = some (.int 500 t)) (HP : P_named_table G) : Ok P w G.K mg base (CXN P w) 3 "named_table" p_named_table (sp_named_table G) :=
  mk_ok D_named_table sc_named_table (fun _ _ _ _ _ _ us hl => match us, hl with | [_, _], _ => rfl) sp2_len (t_named_table G)
    (fun vs H Q E h => match vs, h with | [x0, x1], h => HP x0 x1 H Q E h)
    (fun f cdv A outer s H E hr =>
  (pss_cons (ps_expr (pe_ok C_need_name hr (by decide) (by rfl) (psx rfl rfl rfl rfl) (pa_cons (pv 0) pa_nil)))
  (pss_cons (ps_expr (pe_ok C_need_number hr (by decide) (by rfl) (psx rfl rfl rfl rfl) (pa_cons (pv 1) (pa_cons pe_int (pa_cons (pe_glob (by rfl) c_MOST_SIZE.choose_spec ⟨_, rfl⟩) pa_nil)))))
  (pss_one (ps_ret (pe_lc (own := [("number", 2)]) rfl sc_named_table.nd (pi_range2 (by rfl) m_range (pa_cons pe_int (pa_cons (pe_op op_add (pv 1) pe_int) pa_nil))) (blkOk_by (N := n_named_table) (sc := defScope s_named_table) (by decide +kernel)) (fun _ _ _ _ _ => (pg_name (i := 2) sc_named_table.nd rfl (Or.inl rfl))) (fun _ _ _ _ _ => pts_nil) (fun _ _ _ _ _ => (pe_ok C_worth_by hr (by decide) (by rfl) psn (pa_cons (pv 0) (pa_cons (pv 2) (pa_cons (pe_ok C_apart hr (by decide) (by rfl) psn (pa_cons (pv 2) pa_nil)) pa_nil)))))))))))
abbrev s__law_cell : Stmt := topS 23
theorem sc__law_cell : FnScope n__law_cell p__law_cell (defScope s__law_cell) := ⟨rfl, rfl, rfl, by decide +kernel, rfl, by decide +kernel, by decide +kernel⟩
theorem ok__law_cell (D__law_cell : DefAt G.K mg "_law_cell" s__law_cell) (m_len : mg "len" = none) (HP : P__law_cell G) : Ok P w G.K mg base (CXN P w) 1 "_law_cell" p__law_cell (sp__law_cell G) :=
  mk_ok D__law_cell sc__law_cell (fun _ _ _ _ _ _ us hl => match us, hl with | [_, _], _ => rfl) sp2_len (t__law_cell G)
    (fun vs H Q E h => match vs, h with | [x0, x1], h => HP x0 x1 H Q E h)
    (fun f cdv A outer s H E hr =>
  (pss_cons (ps_if (pt_cmpR (op_eqD hr.units) (pv 0) (pe_lst pa_nil) (nomark _))
  (pss_one (ps_ret (pe_op op_mulA (pv 1) pe_int)))
  pss_nil)
  (pss_one (ps_ret (pe_op op_add (pe_ix ix_list (pv 0) (pe_op op_mod (pv 1) (pe_callB call_len_seq (by rfl) m_len (by decide +kernel) (pa_cons (pv 0) pa_nil))) (fun _ _ => rfl)) (pe_op op_mulA (pe_op op_fdivW (pv 1) (pe_callB call_len_seq (by rfl) m_len (by decide +kernel) (pa_cons (pv 0) pa_nil))) pe_int))))))
abbrev s__law_drawn : Stmt := topS 24
theorem sc__law_drawn : FnScope n__law_drawn p__law_drawn (defScope s__law_drawn) := ⟨rfl, rfl, rfl, by decide +kernel, rfl, by decide +kernel, by decide +kernel⟩
theorem ok__law_drawn (D__law_drawn : DefAt G.K mg "_law_drawn" s__law_drawn) (HP : P__law_drawn G) : Ok P w G.K mg base (CXN P w) 1 "_law_drawn" p__law_drawn (sp__law_drawn G) :=
  mk_ok D__law_drawn sc__law_drawn (fun _ _ _ _ _ _ us hl => match us, hl with | [_, _], _ => rfl) sp2_len (t__law_drawn G)
    (fun vs H Q E h => match vs, h with | [x0, x1], h => HP x0 x1 H Q E h)
    (fun f cdv A outer s H E hr =>
  (pss_cons (ps_set (i := 2) sc__law_drawn.nd rfl (Or.inl rfl) (pe_op op_mod (pe_op op_add (pe_op op_mulA (pv 0) pe_int) (pe_op op_mulA (pe_op op_add (pv 1) pe_int) pe_int)) pe_int))
  (pss_cons (ps_set (i := 2) sc__law_drawn.nd rfl (Or.inl rfl) (pe_op op_mod (pe_op op_mulA (pv 2) (pv 2)) pe_int))
  (pss_cons (ps_set (i := 2) sc__law_drawn.nd rfl (Or.inl rfl) (pe_op op_mulA (pe_op op_mulA (pe_op op_add (pe_op op_mod (pv 2) pe_int) pe_int) (pe_op op_add (pe_op op_fdivW (pv 2) pe_int) pe_int)) (pv 2)))
  (pss_one (ps_ret (pe_op op_mod (pv 2) pe_int)))))))
abbrev s__law_word : Stmt := topS 25
theorem sc__law_word : FnScope n__law_word p__law_word (defScope s__law_word) := ⟨rfl, rfl, rfl, by decide +kernel, rfl, by decide +kernel, by decide +kernel⟩
theorem ok__law_word (D__law_word : DefAt G.K mg "_law_word" s__law_word) (m_isinstance : mg "isinstance" = none) (m_int : mg "int" = none) (m_sum : mg "sum" = none) (m_ValueError : mg "ValueError" = none) (x_NoWay : ErrAt G.K mg "NoWay" G.NoWay) (x_Unlike : ErrAt G.K mg "Unlike" G.Unlike) (x_BadTable : ErrAt G.K mg "BadTable" G.BadTable) (x_BadName : ErrAt G.K mg "BadName" G.BadName) (x_BadSums : ErrAt G.K mg "BadSums" G.BadSums) (x_BadNumber : ErrAt G.K mg "BadNumber" G.BadNumber) (TX : ∀ C nm, WE G C nm → ExcC G.K C) (HP : P__law_word G) : WordOk P w G.K mg base 1 "_law_word" "_law_e" (WE G) :=
  mk_word D__law_word sc__law_word (fun _ _ _ _ _ _ us hl => match us, hl with | [_], _ => rfl) (t__law_word G) HP
    (fun g cdv A outer s H p C hw hot hr hz => by
      obtain ⟨nm, hw⟩ := hw
      have TE := TX C nm hw
      obtain ⟨ws, dws, _⟩ := id hot.2
      have hf : ∃ vs, p.2.data = .fields vs := ⟨ws, dws⟩
      have hpn : (p.1, p.2) ∈ (cxH (CXN P w) P w G.K mg base n__law_word "_law_word" (defScope s__law_word) g cdv A outer s H E0 p).pn := List.mem_singleton.mpr rfl
      have hc : HotC (cxH (CXN P w) P w G.K mg base n__law_word "_law_word" (defScope s__law_word) g cdv A outer s H E0 p) := ⟨p, hot, hpn⟩
      exact
  (pss_cons (ps_set (i := 1) sc__law_word.nd rfl (Or.inl rfl) (pe_lst (pa_cons (pe_callB (call_isP hpn TE hz hf) (by rfl) m_isinstance (by decide +kernel) (pa_cons (pv 0) (pa_cons (pe_glob (v := .ref G.BadTable) (by rfl) x_BadTable.gC rfl) pa_nil))) (pa_cons (pe_callB (call_isP hpn TE hz hf) (by rfl) m_isinstance (by decide +kernel) (pa_cons (pv 0) (pa_cons (pe_glob (v := .ref G.Unlike) (by rfl) x_Unlike.gC rfl) pa_nil))) (pa_cons (pe_callB (call_isP hpn TE hz hf) (by rfl) m_isinstance (by decide +kernel) (pa_cons (pv 0) (pa_cons (pe_glob (v := .ref G.NoWay) (by rfl) x_NoWay.gC rfl) pa_nil))) pa_nil)))))
  (pss_cons (ps_set (i := 1) sc__law_word.nd rfl (Or.inl rfl) (pe_op op_cat (pv 1) (pe_lst (pa_cons (pe_callB (call_isP hpn TE hz hf) (by rfl) m_isinstance (by decide +kernel) (pa_cons (pv 0) (pa_cons (pe_glob (v := .ref G.BadName) (by rfl) x_BadName.gC rfl) pa_nil))) pa_nil))))
  (pss_cons (ps_set (i := 1) sc__law_word.nd rfl (Or.inl rfl) (pe_op op_cat (pv 1) (pe_lst (pa_cons (pe_callB (call_isP hpn TE hz hf) (by rfl) m_isinstance (by decide +kernel) (pa_cons (pv 0) (pa_cons (pe_glob (v := .ref G.BadNumber) (by rfl) x_BadNumber.gC rfl) pa_nil))) (pa_cons (pe_callB (call_isP hpn TE hz hf) (by rfl) m_isinstance (by decide +kernel) (pa_cons (pv 0) (pa_cons (pe_glob (v := .ref G.BadSums) (by rfl) x_BadSums.gC rfl) pa_nil))) pa_nil)))))
  (pss_cons (ps_if (PW.pt (pw_or (pt_cmpR op_ne (pe_callB (cr_sumH hc) (by rfl) m_sum (by decide +kernel) (pa_cons (pe_intsH hc (pv 1) (by rfl) (by decide +kernel) rfl (by decide +kernel) (by decide +kernel) (fun _ => by rfl) m_int (by decide)) pa_nil)) pe_int (nomark _)) (pw_or1 (pt_not (pt_val (pe_callB (call_isP hpn TE hz hf) (by rfl) m_isinstance (by decide +kernel) (pa_cons (pv 0) (pa_cons (pe_bltn (v := .ty "ValueError") (by rfl) m_ValueError (by decide +kernel) rfl) pa_nil))))))))
  (pss_one (ps_ret pe_str))
  pss_nil)
  (pss_one (ps_ret (pe_ix ix_list (pe_lst (pa_cons pe_str (pa_cons pe_str (pa_cons pe_str (pa_cons pe_str (pa_cons pe_str (pa_cons pe_str pa_nil))))))) (pe_bm PySem.F.plainAttrs_list PySem.F.slot_list_index PySem.F.type_list_index mt_index (pv 1) (pa_cons pe_bl pa_nil)) (fun _ _ => rfl)))))))))
abbrev s__law_worth : Stmt := topS 27
theorem sc__law_worth : FnScope n__law_worth p__law_worth (defScope s__law_worth) := ⟨rfl, rfl, rfl, by decide +kernel, rfl, by decide +kernel, by decide +kernel⟩
theorem ok__law_worth (D__law_worth : DefAt G.K mg "_law_worth" s__law_worth) (m_range : mg "range" = none) (m_int : mg "int" = none) (m_len : mg "len" = none) (m_sum : mg "sum" = none) (m_max : mg "max" = none) (HP : P__law_worth G) : Ok P w G.K mg base (CXN P w) 1 "_law_worth" p__law_worth (sp__law_worth G) :=
  mk_ok D__law_worth sc__law_worth (fun _ _ _ _ _ _ us hl => match us, hl with | [_, _], _ => rfl) sp2_len (t__law_worth G)
    (fun vs H Q E h => match vs, h with | [x0, x1], h => HP x0 x1 H Q E h)
    (fun f cdv A outer s H E hr =>
  (pss_cons (ps_set (i := 2) sc__law_worth.nd rfl (Or.inr rfl) (pe_lc (own := [("_law_d", 6)]) rfl sc__law_worth.nd (pi_range2 (by rfl) m_range (pa_cons pe_int (pa_cons (pe_op op_add (pv 1) pe_int) pa_nil))) (blkOk_by (N := n__law_worth) (sc := defScope s__law_worth) (by decide +kernel)) (fun _ _ _ _ _ => (pg_name (i := 6) sc__law_worth.nd rfl (Or.inl rfl))) (fun _ _ _ _ _ => (pts_one (pt_cmpR op_eq (pe_op op_mod (pv 1) (pv 6)) pe_int (nomark _)))) (fun _ _ _ _ _ => (pv 6))))
  (pss_cons (ps_if (pt_cmpR op_in_seq (pv 0) (pe_tup (pa_cons pe_str (pa_cons pe_str (pa_cons pe_str pa_nil)))) (by with_unfolding_all rfl))
  (pss_one (ps_ret (pe_dget (hu_of hr) (pe_disp (pps_cons pe_str (pe_callTy call_int1 (by rfl) m_int (by decide +kernel) (pa_cons (pe_cmpR op_eq (pv 1) pe_int (nomark _)) pa_nil)) (pps_cons pe_str pe_int (pps_cons pe_str (pv 1) pps_nil))) (by rfl) rfl (by decide) (by decide)) (pv 0) (fun _ _ => rfl))))
  pss_nil)
  (pss_cons (ps_if (pt_cmpR op_in_seq (pv 0) (pe_tup (pa_cons pe_str (pa_cons pe_str (pa_cons pe_str pa_nil)))) (by with_unfolding_all rfl))
  (pss_one (ps_ret (pe_dget (hu_of hr) (pe_disp (pps_cons pe_str (pe_callB call_len_seq (by rfl) m_len (by decide +kernel) (pa_cons (pv 2) pa_nil)) (pps_cons pe_str (pe_callB (cr_sum rfl) (by rfl) m_sum (by decide +kernel) (pa_cons (pv 2) pa_nil)) (pps_cons pe_str (pe_callTy call_int1 (by rfl) m_int (by decide +kernel) (pa_cons (pe_cmpR op_eq (pe_callB call_len_seq (by rfl) m_len (by decide +kernel) (pa_cons (pv 2) pa_nil)) pe_int (nomark _)) pa_nil)) pps_nil))) (by rfl) rfl (by decide) (by decide)) (pv 0) (fun _ _ => rfl))))
  pss_nil)
  (pss_cons (ps_if (pt_cmpR op_eq (pv 0) pe_str (nomark _))
  (pss_one (ps_ret (pe_callB call_len_seq (by rfl) m_len (by decide +kernel) (pa_cons (pe_lc (own := [("_law_k", 9)]) rfl sc__law_worth.nd (pi_range2 (by rfl) m_range (pa_cons pe_int (pa_cons (pe_op op_add (pv 1) pe_int) pa_nil))) (blkOk_by (N := n__law_worth) (sc := defScope s__law_worth) (by decide +kernel)) (fun _ _ _ _ _ => (pg_name (i := 9) sc__law_worth.nd rfl (Or.inr rfl))) (fun _ _ _ _ _ => (pts_one (pt_cmpR op_eq (pe_callB (cr_max rfl) (by rfl) m_max (by decide +kernel) (pa_cons (pe_lc (own := [("_law_d", 6)]) rfl sc__law_worth.nd (pi_list (pv 2)) (blkOk_by (by with_unfolding_all rfl)) (fun _ _ _ _ _ => (pg_name (i := 6) sc__law_worth.nd rfl (Or.inl rfl))) (fun _ _ _ _ _ => (pts_one (pt_cmpR op_eq (pe_op op_mod (pv 9) (pv 6)) pe_int (nomark _)))) (fun _ _ _ _ _ => (pv 6))) pa_nil)) pe_int (nomark _)))) (fun _ _ _ _ _ => (pv 9))) pa_nil))))
  pss_nil)
  (pss_cons (ps_set (i := 3) sc__law_worth.nd rfl (Or.inl rfl) pe_int)
  (pss_cons (ps_set (i := 4) sc__law_worth.nd rfl (Or.inl rfl) pe_int)
  (pss_cons (ps_set (i := 5) sc__law_worth.nd rfl (Or.inl rfl) (pv 1))
  (pss_cons (ps_for (L2.passes_of rfl) rfl (pi_range2 (by rfl) m_range (pa_cons pe_int (pa_cons (pe_op op_add (pv 1) pe_int) pa_nil))) (pg_name (i := 6) sc__law_worth.nd rfl (Or.inl rfl))
  (pss_cons (ps_set (i := 7) sc__law_worth.nd rfl (Or.inl rfl) pe_int)
  (pss_cons (ps_while (L2.passes_of rfl) (pt_cmpR op_eq (pe_op op_mod (pv 5) (pv 6)) pe_int (nomark _))
  (pss_cons (ps_set (i := 5) sc__law_worth.nd rfl (Or.inl rfl) (pe_op op_fdivW (pv 5) (pv 6)))
  (pss_one (ps_set (i := 7) sc__law_worth.nd rfl (Or.inl rfl) (pe_op op_add (pv 7) pe_int)))))
  (pss_cons (ps_set (i := 3) sc__law_worth.nd rfl (Or.inl rfl) (pe_op op_add (pv 3) (pv 7)))
  (pss_one (ps_if (pt_cmpR op_gt (pv 7) pe_int (nomark _))
  (pss_one (ps_set (i := 4) sc__law_worth.nd rfl (Or.inl rfl) pe_int))
  pss_nil))))))
  (pss_cons (ps_set (i := 8) sc__law_worth.nd rfl (Or.inl rfl) (pe_op op_sub pe_int (pe_op op_mulA pe_int (pe_op op_mod (pv 3) pe_int))))
  (pss_one (ps_ret (pe_dget (hu_of hr) (pe_disp (pps_cons pe_str (pv 4) (pps_cons pe_str (pe_op op_mulA (pv 4) (pv 8)) (pps_cons pe_str (pv 8) pps_nil))) (by rfl) rfl (by decide) (by decide)) (pv 0) (fun _ _ => rfl))))))))))))))
abbrev s__law_is_prime : Stmt := topS 28
theorem sc__law_is_prime : FnScope n__law_is_prime p__law_is_prime (defScope s__law_is_prime) := ⟨rfl, rfl, rfl, by decide +kernel, rfl, by decide +kernel, by decide +kernel⟩
theorem ok__law_is_prime (D__law_is_prime : DefAt G.K mg "_law_is_prime" s__law_is_prime) (HP : P__law_is_prime G) : Ok P w G.K mg base (CXN P w) 1 "_law_is_prime" p__law_is_prime (sp__law_is_prime G) :=
  mk_ok D__law_is_prime sc__law_is_prime (fun _ _ _ _ _ _ us hl => match us, hl with | [_], _ => rfl) sp1_len (t__law_is_prime G)
    (fun vs H Q E h => match vs, h with | [x0], h => HP x0 H Q E h)
    (fun f cdv A outer s H E hr =>
  (pss_cons (ps_set (i := 1) sc__law_is_prime.nd rfl (Or.inl rfl) pe_int)
  (pss_cons (ps_while (L2.passes_of rfl) (pt_cmpR op_le (pe_op op_mulA (pv 1) (pv 1)) (pv 0) (nomark _))
  (pss_cons (ps_if (pt_cmpR op_eq (pe_op op_mod (pv 0) (pv 1)) pe_int (nomark _))
  (pss_one (ps_ret pe_bl))
  pss_nil)
  (pss_one (ps_set (i := 1) sc__law_is_prime.nd rfl (Or.inl rfl) (pe_op op_add (pv 1) pe_int)))))
  (pss_one (ps_ret (pe_cmpR op_gt (pv 0) pe_int (nomark _)))))))
abbrev s__law_great : Stmt := topS 29
theorem sc__law_great : FnScope n__law_great p__law_great (defScope s__law_great) := ⟨rfl, rfl, rfl, by decide +kernel, rfl, by decide +kernel, by decide +kernel⟩
theorem ok__law_great (D__law_great : DefAt G.K mg "_law_great" s__law_great) (C__law_drawn : Ok P w G.K mg base (CXN P w) 1 "_law_drawn" p__law_drawn (sp__law_drawn G)) (m_range : mg "range" = none) (HP : P__law_great G) : Ok P w G.K mg base (CXN P w) 2 "_law_great" p__law_great (sp__law_great G) :=
  mk_ok D__law_great sc__law_great (fun _ _ _ _ _ _ us hl => match us, hl with | [_], _ => rfl) sp1_len (t__law_great G)
    (fun vs H Q E h => match vs, h with | [x0], h => HP x0 H Q E h)
    (fun f cdv A outer s H E hr =>
  (pss_cons (ps_set (i := 1) sc__law_great.nd rfl (Or.inl rfl) pe_int)
  (pss_cons (ps_for (L2.passes_of rfl) rfl (pi_range1 (by rfl) m_range (pa_cons pe_int pa_nil)) (pg_name (i := 2) sc__law_great.nd rfl (Or.inl rfl))
  (pss_cons (ps_set (i := 3) sc__law_great.nd rfl (Or.inl rfl) (pe_ix ix_list (pe_lst (pa_cons pe_int (pa_cons pe_int (pa_cons pe_int (pa_cons pe_int (pa_cons pe_int (pa_cons pe_int (pa_cons pe_int (pa_cons pe_int pa_nil))))))))) (pe_op op_mod (pe_ok C__law_drawn hr (by decide) (by rfl) (psx rfl rfl rfl rfl) (pa_cons (pv 0) (pa_cons (pv 2) pa_nil))) pe_int) (fun _ _ => rfl)))
  (pss_one (ps_if (pt_cmpR op_le (pe_op op_mulA (pv 1) (pv 3)) pe_int (nomark _))
  (pss_one (ps_set (i := 1) sc__law_great.nd rfl (Or.inl rfl) (pe_op op_mulA (pv 1) (pv 3))))
  pss_nil))))
  (pss_one (ps_ret (pv 1))))))
abbrev s__law_pairs_right : Stmt := topS 30
theorem sc__law_pairs_right : FnScope n__law_pairs_right p__law_pairs_right (defScope s__law_pairs_right) := ⟨rfl, rfl, rfl, by decide +kernel, rfl, by decide +kernel, by decide +kernel⟩
theorem ok__law_pairs_right (D__law_pairs_right : DefAt G.K mg "_law_pairs_right" s__law_pairs_right) (C_primes_of : Ok P w G.K mg base (CXN P w) 2 "primes_of" p_primes_of (sp_primes_of G)) (C__law_is_prime : Ok P w G.K mg base (CXN P w) 1 "_law_is_prime" p__law_is_prime (sp__law_is_prime G)) (C_divisors : Ok P w G.K mg base (CXN P w) 3 "divisors" p_divisors (sp_divisors G)) (C_named_worth : Ok P w G.K mg base (CXN P w) 3 "named_worth" p_named_worth (sp_named_worth G)) (m_range : mg "range" = none) (m_sorted : mg "sorted" = none) (m_set : mg "set" = none) (m_len : mg "len" = none) (m_all : mg "all" = none) (m_sum : mg "sum" = none) (HP : P__law_pairs_right G) : Ok P w G.K mg base (CXN P w) 4 "_law_pairs_right" p__law_pairs_right (sp__law_pairs_right G) :=
  mk_ok D__law_pairs_right sc__law_pairs_right (fun _ _ _ _ _ _ us hl => match us, hl with | [_], _ => rfl) sp1_len (t__law_pairs_right G)
    (fun vs H Q E h => match vs, h with | [x0], h => HP x0 H Q E h)
    (fun f cdv A outer s H E hr =>
  (pss_cons (ps_set (i := 1) sc__law_pairs_right.nd rfl (Or.inl rfl) (pe_ok C_primes_of hr (by decide) (by rfl) (psx rfl rfl rfl rfl) (pa_cons (pv 0) pa_nil)))
  (pss_cons (ps_set (i := 2) sc__law_pairs_right.nd rfl (Or.inl rfl) pe_int)
  (pss_cons (ps_set (i := 3) sc__law_pairs_right.nd rfl (Or.inl rfl) pe_int)
  (pss_cons (ps_for (L2.passes_of rfl) rfl (pi_list (pv 1)) (pg_tup rfl (pgs_cons (pg_name (i := 4) sc__law_pairs_right.nd rfl (Or.inl rfl)) (pgs_cons (pg_name (i := 5) sc__law_pairs_right.nd rfl (Or.inl rfl)) pgs_nil)))
  (pss_cons (ps_if (PW.pt (pw_or (pt_not (pt_val (pe_ok C__law_is_prime hr (by decide) (by rfl) (psx rfl rfl rfl rfl) (pa_cons (pv 4) pa_nil)))) (pw_or1 (pt_cmpR op_lt (pv 5) pe_int (nomark _)))))
  (pss_one (ps_ret pe_bl))
  pss_nil)
  (pss_cons (ps_set (i := 3) sc__law_pairs_right.nd rfl (Or.inl rfl) (pe_op op_mulA (pv 3) (pe_op op_add (pv 5) pe_int)))
  (pss_one (ps_for (L2.passes_of rfl) rfl (pi_range1 (by rfl) m_range (pa_cons (pv 5) pa_nil)) (pg_name (i := 6) sc__law_pairs_right.nd rfl (Or.inl rfl))
  (pss_one (ps_set (i := 2) sc__law_pairs_right.nd rfl (Or.inl rfl) (pe_op op_mulA (pv 2) (pv 4)))))))))
  (pss_cons (ps_setLc (i := 7) (own := [("_law_pair", 9)]) rfl sc__law_pairs_right.nd rfl rfl (sw_true rfl rfl rfl (by decide +kernel)) (pi_list (pv 1)) (blkOk_by (N := n__law_pairs_right) (sc := defScope s__law_pairs_right) (by decide +kernel)) (fun _ _ _ _ _ => (pg_name (i := 9) sc__law_pairs_right.nd rfl (Or.inl rfl))) (fun _ _ _ _ _ => pts_nil) (fun _ _ _ _ _ => (pe_ix ix_tup (pv 9) pe_int (fun _ _ => rfl))))
  (pss_cons (ps_set (i := 8) sc__law_pairs_right.nd rfl (Or.inl rfl) (pe_ok C_divisors hr (by decide) (by rfl) (psx rfl rfl rfl rfl) (pa_cons (pv 0) pa_nil)))
  (pss_cons (ps_if (PW.pt (pw_or (pt_cmpR op_ne (pv 2) (pv 0) (nomark _)) (pw_or (pt_cmpR (op_neD hr.units) (pv 7) (pe_sortSet rfl (by rfl) m_sorted (by rfl) m_set (pv 7)) (nomark _)) (pw_or (pt_cmpR op_ne (pe_callB call_len_seq (by rfl) m_len (by decide +kernel) (pa_cons (pv 8) pa_nil)) (pv 3) (nomark _)) (pw_or1 (pt_cmpR (op_neD hr.units) (pv 8) (pe_sortSet rfl (by rfl) m_sorted (by rfl) m_set (pv 8)) (nomark _)))))))
  (pss_one (ps_ret pe_bl))
  pss_nil)
  (pss_one (ps_ret (pe_and (pe_callB (cr_all rfl) (by rfl) m_all (by decide +kernel) (pa_cons (pe_lc (own := [("_law_d", 10)]) rfl sc__law_pairs_right.nd (pi_list (pv 8)) (blkOk_by (N := n__law_pairs_right) (sc := defScope s__law_pairs_right) (by decide +kernel)) (fun _ _ _ _ _ => (pg_name (i := 10) sc__law_pairs_right.nd rfl (Or.inl rfl))) (fun _ _ _ _ _ => pts_nil) (fun _ _ _ _ _ => (pe_cmpR op_eq (pe_op op_mod (pv 0) (pv 10)) pe_int (nomark _)))) pa_nil)) (pe_and (pe_cmpR op_eq (pe_ok C_named_worth hr (by decide) (by rfl) (psx rfl rfl rfl rfl) (pa_cons pe_str (pa_cons (pv 0) pa_nil))) (pv 3) (nomark _)) (pe_one (pe_cmpR op_eq (pe_ok C_named_worth hr (by decide) (by rfl) (psx rfl rfl rfl rfl) (pa_cons pe_str (pa_cons (pv 0) pa_nil))) (pe_callB (cr_sum rfl) (by rfl) m_sum (by decide +kernel) (pa_cons (pv 8) pa_nil)) (nomark _)))))))))))))))
abbrev s_law : Stmt := topS 31
theorem sc_law : FnScope n_law p_law (defScope s_law) := ⟨rfl, rfl, rfl, by decide +kernel, rfl, by decide +kernel, by decide +kernel⟩
theorem ok_law {f : Addr} {fd : FuncData} {T : List (Addr × Str)} {c Pt : Addr} (F_law : FunC G.K "law" "law" s_law f fd c) (TD : ToldAt P w G.K mg base G.SieveError 1 (WE G) s__law_told) (TB : TabB base mg c Pt) (hmT : (Pt, ("law" ++ ".<locals>." : Str) ++ "<lambda>") ∈ T) (hu : ∀ p ∈ T, p.1 = Pt → p.2 = ("law" ++ ".<locals>." : Str) ++ "<lambda>") (C__law_drawn : Ok P w G.K mg base (CXN P w) 1 "_law_drawn" p__law_drawn (sp__law_drawn G)) (C__law_cell : Ok P w G.K mg base (CXN P w) 1 "_law_cell" p__law_cell (sp__law_cell G)) (C_divisors : Ok P w G.K mg base (CXN P w) 3 "divisors" p_divisors (sp_divisors G)) (C_named_worth : Ok P w G.K mg base (CXN P w) 3 "named_worth" p_named_worth (sp_named_worth G)) (C__law_worth : Ok P w G.K mg base (CXN P w) 1 "_law_worth" p__law_worth (sp__law_worth G)) (C__law_pairs_right : Ok P w G.K mg base (CXN P w) 4 "_law_pairs_right" p__law_pairs_right (sp__law_pairs_right G)) (C__law_great : Ok P w G.K mg base (CXN P w) 2 "_law_great" p__law_great (sp__law_great G)) (C_primes_of : Ok P w G.K mg base (CXN P w) 2 "primes_of" p_primes_of (sp_primes_of G)) (C_named_table : Ok P w G.K mg base (CXN P w) 3 "named_table" p_named_table (sp_named_table G)) (m_len : mg "len" = none) (m_min : mg "min" = none) (m_max : mg "max" = none) (m_range : mg "range" = none) (HP : P_law G) : FnOk P w G.K mg base (CXN P w) 7 f fd p_law (sp_law G T) :=
  mk_fnC F_law sc_law sp1_len (t_law G T)
    (fun vs H Q E h => match vs, h with | [x0], h => HP T x0 H Q E h)
    (fun A outer s H E hr =>
  (pss_cons (ps_set (i := 1) sc_law.nd rfl (Or.inl rfl) (pe_lst (pa_cons pe_str (pa_cons pe_str (pa_cons pe_str (pa_cons pe_str (pa_cons pe_str (pa_cons pe_str (pa_cons pe_str (pa_cons pe_str (pa_cons pe_str (pa_cons pe_str pa_nil))))))))))))
  (pss_cons (ps_for (L2.passes_of rfl) rfl (pi_range1 (by rfl) m_range (pa_cons (pe_callB (call_max2 rfl) (by rfl) m_max (by decide +kernel) (pa_cons pe_int (pa_cons (pe_callB (call_min2 rfl) (by rfl) m_min (by decide +kernel) (pa_cons pe_int (pa_cons (pe_callB call_len_seq (by rfl) m_len (by decide +kernel) (pa_cons (pv 0) pa_nil)) pa_nil))) pa_nil))) pa_nil)) (pg_name (i := 2) sc_law.nd rfl (Or.inl rfl))
  (pss_cons (ps_set (i := 3) sc_law.nd rfl (Or.inr rfl) (pe_ok C__law_drawn hr (by decide) (by rfl) (psx rfl rfl rfl rfl) (pa_cons (pe_ok C__law_cell hr (by decide) (by rfl) (psx rfl rfl rfl rfl) (pa_cons (pv 0) (pa_cons (pv 2) pa_nil))) (pa_cons (pv 2) pa_nil))))
  (pss_cons (ps_set (i := 4) sc_law.nd rfl (Or.inr rfl) (pe_op op_add pe_int (pe_op op_mod (pv 3) pe_int)))
  (pss_cons (ps_if (pt_cmpR (op_neD hr.units) (pe_told (T := T) (t := fun E => (tCall (sp_divisors G) [] E (tCons (tVar 4) tNil))) TD (by rfl) TB rfl hmT hu hr (by decide) (lamS_by (sc := defScope s_law) (by decide +kernel)) rfl (fun _ _ _ _ _ => rfl) (fun A outer s H E f c' hr => (pe_ok C_divisors hr (by decide) (by rfl) (psx rfl rfl rfl rfl) (pa_cons (pv 4) pa_nil)))) (pe_lc (own := [("_law_d", 10)]) rfl sc_law.nd (pi_range2 (by rfl) m_range (pa_cons pe_int (pa_cons (pe_op op_add (pv 4) pe_int) pa_nil))) (blkOk_by (N := n_law) (sc := defScope s_law) (by decide +kernel)) (fun _ _ _ _ _ => (pg_name (i := 10) sc_law.nd rfl (Or.inl rfl))) (fun _ _ _ _ _ => (pts_one (pt_cmpR op_eq (pe_op op_mod (pv 4) (pv 10)) pe_int (nomark _)))) (fun _ _ _ _ _ => (pv 10))) (nomark _))
  (pss_one (ps_ret pe_bl))
  pss_nil)
  (pss_cons (ps_for (L2.passes_of rfl) rfl (pi_list (pv 1)) (pg_name (i := 5) sc_law.nd rfl (Or.inr rfl))
  (pss_one (ps_if (pt_cmpR op_ne (pe_told (T := T) (t := fun E => (tCall (sp_named_worth G) [] E (tCons (tVar 5) (tCons (tVar 4) tNil)))) TD (by rfl) TB rfl hmT hu hr (by decide) (lamS_by (sc := defScope s_law) (by decide +kernel)) rfl (fun _ _ _ _ _ => rfl) (fun A outer s H E f c' hr => (pe_ok C_named_worth hr (by decide) (by rfl) (psx rfl rfl rfl rfl) (pa_cons (pv 5) (pa_cons (pv 4) pa_nil))))) (pe_ok C__law_worth hr (by decide) (by rfl) (psx rfl rfl rfl rfl) (pa_cons (pv 5) (pa_cons (pv 4) pa_nil))) (nomark _))
  (pss_one (ps_ret pe_bl))
  pss_nil)))
  (pss_cons (ps_if (PW.pt (pw_or (pt_not (pt_val (pe_ok C__law_pairs_right hr (by decide) (by rfl) (psx rfl rfl rfl rfl) (pa_cons (pe_ok C__law_great hr (by decide) (by rfl) (psx rfl rfl rfl rfl) (pa_cons (pe_op op_fdivW (pv 3) pe_int) pa_nil)) pa_nil)))) (pw_or (pt_cmpR (op_neD hr.units) (pe_ok C_primes_of hr (by decide) (by rfl) (psx rfl rfl rfl rfl) (pa_cons pe_int pa_nil)) (pe_lst pa_nil) (nomark _)) (pw_or1 (pt_cmpR (op_neD hr.units) (pe_ok C_divisors hr (by decide) (by rfl) (psx rfl rfl rfl rfl) (pa_cons pe_int pa_nil)) (pe_lst (pa_cons pe_int pa_nil)) (nomark _))))))
  (pss_one (ps_ret pe_bl))
  pss_nil)
  (pss_cons (ps_set (i := 5) sc_law.nd rfl (Or.inr rfl) (pe_ix ix_list (pv 1) (pe_op op_mod (pe_op op_fdivW (pv 3) (pe_op op_pow pe_int pe_int)) pe_int) (fun _ _ => rfl)))
  (pss_cons (ps_set (i := 6) sc_law.nd rfl (Or.inr rfl) (pe_op op_add pe_int (pe_op op_mod (pe_op op_fdivW (pv 3) (pe_op op_pow pe_int pe_int)) pe_int)))
  (pss_cons (ps_if (pt_cmpR (op_neD hr.units) (pe_told (T := T) (t := fun E => (tCall (sp_named_table G) [] E (tCons (tVar 5) (tCons (tVar 6) tNil)))) TD (by rfl) TB rfl hmT hu hr (by decide) (lamS_by (sc := defScope s_law) (by decide +kernel)) rfl (fun _ _ _ _ _ => rfl) (fun A outer s H E f c' hr => (pe_ok C_named_table hr (by decide) (by rfl) (psx rfl rfl rfl rfl) (pa_cons (pv 5) (pa_cons (pv 6) pa_nil))))) (pe_lc (own := [("_law_j", 11)]) rfl sc_law.nd (pi_range2 (by rfl) m_range (pa_cons pe_int (pa_cons (pe_op op_add (pv 6) pe_int) pa_nil))) (blkOk_by (N := n_law) (sc := defScope s_law) (by decide +kernel)) (fun _ _ _ _ _ => (pg_name (i := 11) sc_law.nd rfl (Or.inl rfl))) (fun _ _ _ _ _ => pts_nil) (fun _ _ _ _ _ => (pe_ok C__law_worth hr (by decide) (by rfl) psn (pa_cons (pv 5) (pa_cons (pv 11) pa_nil))))) (nomark _))
  (pss_one (ps_ret pe_bl))
  pss_nil)
  (pss_cons (ps_set (i := 7) sc_law.nd rfl (Or.inr rfl) (pe_ix ix_list (pe_lst (pa_cons pe_int (pa_cons (pe_un un_neg pe_int) (pa_cons pe_int (pa_cons pe_bl (pa_cons pe_non (pa_cons pe_str pa_nil))))))) (pe_op op_mod (pe_op op_fdivW (pv 3) (pe_op op_pow pe_int pe_int)) pe_int) (fun _ _ => rfl)))
  (pss_cons (ps_set (i := 8) sc_law.nd rfl (Or.inl rfl) (pe_lst (pa_cons (pe_told (T := T) (t := fun E => (tCall (sp_divisors G) [] E (tCons (tVar 7) tNil))) TD (by rfl) TB rfl hmT hu hr (by decide) (lamS_by (sc := defScope s_law) (by decide +kernel)) rfl (fun _ _ _ _ _ => rfl) (fun A outer s H E f c' hr => (pe_ok C_divisors hr (by decide) (by rfl) (psx rfl rfl rfl rfl) (pa_cons (pv 7) pa_nil)))) pa_nil)))
  (pss_cons (ps_expr (pe_bm PySem.F.plainAttrs_list PySem.F.slot_list_append PySem.F.type_list_append mt_append (pv 8) (pa_cons (pe_told (T := T) (t := fun E => (tCall (sp_primes_of G) [] E (tCons (tVar 7) tNil))) TD (by rfl) TB rfl hmT hu hr (by decide) (lamS_by (sc := defScope s_law) (by decide +kernel)) rfl (fun _ _ _ _ _ => rfl) (fun A outer s H E f c' hr => (pe_ok C_primes_of hr (by decide) (by rfl) (psx rfl rfl rfl rfl) (pa_cons (pv 7) pa_nil)))) pa_nil)))
  (pss_cons (ps_expr (pe_bm PySem.F.plainAttrs_list PySem.F.slot_list_append PySem.F.type_list_append mt_append (pv 8) (pa_cons (pe_told (T := T) (t := fun E => (tCall (sp_named_worth G) [] E (tCons (tVar 5) (tCons (tVar 7) tNil)))) TD (by rfl) TB rfl hmT hu hr (by decide) (lamS_by (sc := defScope s_law) (by decide +kernel)) rfl (fun _ _ _ _ _ => rfl) (fun A outer s H E f c' hr => (pe_ok C_named_worth hr (by decide) (by rfl) (psx rfl rfl rfl rfl) (pa_cons (pv 5) (pa_cons (pv 7) pa_nil))))) pa_nil)))
  (pss_cons (ps_expr (pe_bm PySem.F.plainAttrs_list PySem.F.slot_list_append PySem.F.type_list_append mt_append (pv 8) (pa_cons (pe_told (T := T) (t := fun E => (tCall (sp_named_table G) [] E (tCons (tVar 5) (tCons (tOp (rIxL G.K) (tLst (tCons (tC (.int 0)) (tCons (tC (.int 501)) (tCons (tVar 7) tNil)))) (tOp oMod (tVar 3) (tC (.int 3)))) tNil)))) TD (by rfl) TB rfl hmT hu hr (by decide) (lamS_by (sc := defScope s_law) (by decide +kernel)) rfl (fun _ _ _ _ _ => rfl) (fun A outer s H E f c' hr => (pe_ok C_named_table hr (by decide) (by rfl) (psx rfl rfl rfl rfl) (pa_cons (pv 5) (pa_cons (pe_ix ix_list (pe_lst (pa_cons pe_int (pa_cons pe_int (pa_cons (pv 7) pa_nil)))) (pe_op op_mod (pv 3) pe_int) (fun _ _ => rfl)) pa_nil))))) pa_nil)))
  (pss_cons (ps_if (pt_cmpR (op_neD hr.units) (pv 8) (pe_op op_rep (pe_lst (pa_cons pe_str pa_nil)) pe_int) (nomark _))
  (pss_one (ps_ret pe_bl))
  pss_nil)
  (pss_cons (ps_set (i := 9) sc_law.nd rfl (Or.inr rfl) (pe_ix ix_list (pe_lst (pa_cons pe_str (pa_cons pe_str (pa_cons pe_str (pa_cons pe_non pa_nil))))) (pe_op op_mod (pe_op op_fdivW (pv 3) (pe_op op_pow pe_int pe_int)) pe_int) (fun _ _ => rfl)))
  (pss_cons (ps_set (i := 8) sc_law.nd rfl (Or.inl rfl) (pe_lst (pa_cons (pe_told (T := T) (t := fun E => (tCall (sp_named_worth G) [] E (tCons (tVar 9) (tCons (tVar 7) tNil)))) TD (by rfl) TB rfl hmT hu hr (by decide) (lamS_by (sc := defScope s_law) (by decide +kernel)) rfl (fun _ _ _ _ _ => rfl) (fun A outer s H E f c' hr => (pe_ok C_named_worth hr (by decide) (by rfl) (psx rfl rfl rfl rfl) (pa_cons (pv 9) (pa_cons (pv 7) pa_nil))))) pa_nil)))
  (pss_cons (ps_expr (pe_bm PySem.F.plainAttrs_list PySem.F.slot_list_append PySem.F.type_list_append mt_append (pv 8) (pa_cons (pe_told (T := T) (t := fun E => (tCall (sp_named_table G) [] E (tCons (tVar 9) (tCons (tVar 7) tNil)))) TD (by rfl) TB rfl hmT hu hr (by decide) (lamS_by (sc := defScope s_law) (by decide +kernel)) rfl (fun _ _ _ _ _ => rfl) (fun A outer s H E f c' hr => (pe_ok C_named_table hr (by decide) (by rfl) (psx rfl rfl rfl rfl) (pa_cons (pv 9) (pa_cons (pv 7) pa_nil))))) pa_nil)))
  (pss_one (ps_if (pt_cmpR (op_neD hr.units) (pv 8) (pe_lst (pa_cons pe_str (pa_cons pe_str pa_nil))) (nomark _))
  (pss_one (ps_ret pe_bl))
  pss_nil))))))))))))))))))))
  (pss_one (ps_ret pe_bl)))))
end
theorem all_mk {P : Program} {w : World} {K : PySem.W.Frag} {h : Heap} {mg : Str → Option Value} {fa : Addr} (X : K.In h) (GX : h.Ns mainGlobals mg) (hfa : mg "law" = some (.ref fa))
    {f0 : Addr} {od0 an0 : Option Addr} {sl0 : Array (Option Value)} {oc0 kV0 dc0 pm0 ct0 : Value} {cd0 : Value}
    (a0 : PySem.W.nsIn K mainGlobals "need_number" = some (some (.ref f0))) (l0 : K.lookup f0 = some ⟨oc0, od0, .func (PySem.W.fnOf "need_number" "need_number" (defArgs s_need_number) (defBody s_need_number) (defScope s_need_number) .none kV0 dc0 pm0 an0 cd0 ct0), sl0⟩) (c0 : PySem.W.codeIn K cd0 "need_number" = true) (k0 : PySem.W.keepIn K (.ref f0) = true)
    {f1 : Addr} {od1 an1 : Option Addr} {sl1 : Array (Option Value)} {oc1 kV1 dc1 pm1 ct1 : Value} {cd1 : Value}
    (a1 : PySem.W.nsIn K mainGlobals "need_name" = some (some (.ref f1))) (l1 : K.lookup f1 = some ⟨oc1, od1, .func (PySem.W.fnOf "need_name" "need_name" (defArgs s_need_name) (defBody s_need_name) (defScope s_need_name) .none kV1 dc1 pm1 an1 cd1 ct1), sl1⟩) (c1 : PySem.W.codeIn K cd1 "need_name" = true) (k1 : PySem.W.keepIn K (.ref f1) = true)
    {f2 : Addr} {od2 an2 : Option Addr} {sl2 : Array (Option Value)} {oc2 kV2 dc2 pm2 ct2 : Value} {cd2 : Value}
    (a2 : PySem.W.nsIn K mainGlobals "apart" = some (some (.ref f2))) (l2 : K.lookup f2 = some ⟨oc2, od2, .func (PySem.W.fnOf "apart" "apart" (defArgs s_apart) (defBody s_apart) (defScope s_apart) .none kV2 dc2 pm2 an2 cd2 ct2), sl2⟩) (c2 : PySem.W.codeIn K cd2 "apart" = true) (k2 : PySem.W.keepIn K (.ref f2) = true)
    {f3 : Addr} {od3 an3 : Option Addr} {sl3 : Array (Option Value)} {oc3 kV3 dc3 pm3 ct3 : Value} {cd3 : Value}
    (a3 : PySem.W.nsIn K mainGlobals "primes_of" = some (some (.ref f3))) (l3 : K.lookup f3 = some ⟨oc3, od3, .func (PySem.W.fnOf "primes_of" "primes_of" (defArgs s_primes_of) (defBody s_primes_of) (defScope s_primes_of) .none kV3 dc3 pm3 an3 cd3 ct3), sl3⟩) (c3 : PySem.W.codeIn K cd3 "primes_of" = true) (k3 : PySem.W.keepIn K (.ref f3) = true)
    {f4 : Addr} {od4 an4 : Option Addr} {sl4 : Array (Option Value)} {oc4 kV4 dc4 pm4 ct4 : Value} {cd4 : Value}
    (a4 : PySem.W.nsIn K mainGlobals "power" = some (some (.ref f4))) (l4 : K.lookup f4 = some ⟨oc4, od4, .func (PySem.W.fnOf "power" "power" (defArgs s_power) (defBody s_power) (defScope s_power) .none kV4 dc4 pm4 an4 cd4 ct4), sl4⟩) (c4 : PySem.W.codeIn K cd4 "power" = true) (k4 : PySem.W.keepIn K (.ref f4) = true)
    {f5 : Addr} {od5 an5 : Option Addr} {sl5 : Array (Option Value)} {oc5 kV5 dc5 pm5 ct5 : Value} {cd5 : Value}
    (a5 : PySem.W.nsIn K mainGlobals "all_divisors" = some (some (.ref f5))) (l5 : K.lookup f5 = some ⟨oc5, od5, .func (PySem.W.fnOf "all_divisors" "all_divisors" (defArgs s_all_divisors) (defBody s_all_divisors) (defScope s_all_divisors) .none kV5 dc5 pm5 an5 cd5 ct5), sl5⟩) (c5 : PySem.W.codeIn K cd5 "all_divisors" = true) (k5 : PySem.W.keepIn K (.ref f5) = true)
    {f6 : Addr} {od6 an6 : Option Addr} {sl6 : Array (Option Value)} {oc6 kV6 dc6 pm6 ct6 : Value} {cd6 : Value}
    (a6 : PySem.W.nsIn K mainGlobals "divisors" = some (some (.ref f6))) (l6 : K.lookup f6 = some ⟨oc6, od6, .func (PySem.W.fnOf "divisors" "divisors" (defArgs s_divisors) (defBody s_divisors) (defScope s_divisors) .none kV6 dc6 pm6 an6 cd6 ct6), sl6⟩) (c6 : PySem.W.codeIn K cd6 "divisors" = true) (k6 : PySem.W.keepIn K (.ref f6) = true)
    {f7 : Addr} {od7 an7 : Option Addr} {sl7 : Array (Option Value)} {oc7 kV7 dc7 pm7 ct7 : Value} {cd7 : Value}
    (a7 : PySem.W.nsIn K mainGlobals "worth_by" = some (some (.ref f7))) (l7 : K.lookup f7 = some ⟨oc7, od7, .func (PySem.W.fnOf "worth_by" "worth_by" (defArgs s_worth_by) (defBody s_worth_by) (defScope s_worth_by) .none kV7 dc7 pm7 an7 cd7 ct7), sl7⟩) (c7 : PySem.W.codeIn K cd7 "worth_by" = true) (k7 : PySem.W.keepIn K (.ref f7) = true)
    {f8 : Addr} {od8 an8 : Option Addr} {sl8 : Array (Option Value)} {oc8 kV8 dc8 pm8 ct8 : Value} {cd8 : Value}
    (a8 : PySem.W.nsIn K mainGlobals "named_worth" = some (some (.ref f8))) (l8 : K.lookup f8 = some ⟨oc8, od8, .func (PySem.W.fnOf "named_worth" "named_worth" (defArgs s_named_worth) (defBody s_named_worth) (defScope s_named_worth) .none kV8 dc8 pm8 an8 cd8 ct8), sl8⟩) (c8 : PySem.W.codeIn K cd8 "named_worth" = true) (k8 : PySem.W.keepIn K (.ref f8) = true)
    {f9 : Addr} {od9 an9 : Option Addr} {sl9 : Array (Option Value)} {oc9 kV9 dc9 pm9 ct9 : Value} {cd9 : Value}
    (a9 : PySem.W.nsIn K mainGlobals "named_table" = some (some (.ref f9))) (l9 : K.lookup f9 = some ⟨oc9, od9, .func (PySem.W.fnOf "named_table" "named_table" (defArgs s_named_table) (defBody s_named_table) (defScope s_named_table) .none kV9 dc9 pm9 an9 cd9 ct9), sl9⟩) (c9 : PySem.W.codeIn K cd9 "named_table" = true) (k9 : PySem.W.keepIn K (.ref f9) = true)
    {f10 : Addr} {od10 an10 : Option Addr} {sl10 : Array (Option Value)} {oc10 kV10 dc10 pm10 ct10 : Value} {cd10 : Value}
    (a10 : PySem.W.nsIn K mainGlobals "_law_cell" = some (some (.ref f10))) (l10 : K.lookup f10 = some ⟨oc10, od10, .func (PySem.W.fnOf "_law_cell" "_law_cell" (defArgs s__law_cell) (defBody s__law_cell) (defScope s__law_cell) .none kV10 dc10 pm10 an10 cd10 ct10), sl10⟩) (c10 : PySem.W.codeIn K cd10 "_law_cell" = true) (k10 : PySem.W.keepIn K (.ref f10) = true)
    {f11 : Addr} {od11 an11 : Option Addr} {sl11 : Array (Option Value)} {oc11 kV11 dc11 pm11 ct11 : Value} {cd11 : Value}
    (a11 : PySem.W.nsIn K mainGlobals "_law_drawn" = some (some (.ref f11))) (l11 : K.lookup f11 = some ⟨oc11, od11, .func (PySem.W.fnOf "_law_drawn" "_law_drawn" (defArgs s__law_drawn) (defBody s__law_drawn) (defScope s__law_drawn) .none kV11 dc11 pm11 an11 cd11 ct11), sl11⟩) (c11 : PySem.W.codeIn K cd11 "_law_drawn" = true) (k11 : PySem.W.keepIn K (.ref f11) = true)
    {f12 : Addr} {od12 an12 : Option Addr} {sl12 : Array (Option Value)} {oc12 kV12 dc12 pm12 ct12 : Value} {cd12 : Value}
    (a12 : PySem.W.nsIn K mainGlobals "_law_word" = some (some (.ref f12))) (l12 : K.lookup f12 = some ⟨oc12, od12, .func (PySem.W.fnOf "_law_word" "_law_word" (defArgs s__law_word) (defBody s__law_word) (defScope s__law_word) .none kV12 dc12 pm12 an12 cd12 ct12), sl12⟩) (c12 : PySem.W.codeIn K cd12 "_law_word" = true) (k12 : PySem.W.keepIn K (.ref f12) = true)
    {f13 : Addr} {od13 an13 : Option Addr} {sl13 : Array (Option Value)} {oc13 kV13 dc13 pm13 ct13 : Value} {cd13 : Value}
    (a13 : PySem.W.nsIn K mainGlobals "_law_worth" = some (some (.ref f13))) (l13 : K.lookup f13 = some ⟨oc13, od13, .func (PySem.W.fnOf "_law_worth" "_law_worth" (defArgs s__law_worth) (defBody s__law_worth) (defScope s__law_worth) .none kV13 dc13 pm13 an13 cd13 ct13), sl13⟩) (c13 : PySem.W.codeIn K cd13 "_law_worth" = true) (k13 : PySem.W.keepIn K (.ref f13) = true)
    {f14 : Addr} {od14 an14 : Option Addr} {sl14 : Array (Option Value)} {oc14 kV14 dc14 pm14 ct14 : Value} {cd14 : Value}
    (a14 : PySem.W.nsIn K mainGlobals "_law_is_prime" = some (some (.ref f14))) (l14 : K.lookup f14 = some ⟨oc14, od14, .func (PySem.W.fnOf "_law_is_prime" "_law_is_prime" (defArgs s__law_is_prime) (defBody s__law_is_prime) (defScope s__law_is_prime) .none kV14 dc14 pm14 an14 cd14 ct14), sl14⟩) (c14 : PySem.W.codeIn K cd14 "_law_is_prime" = true) (k14 : PySem.W.keepIn K (.ref f14) = true)
    {f15 : Addr} {od15 an15 : Option Addr} {sl15 : Array (Option Value)} {oc15 kV15 dc15 pm15 ct15 : Value} {cd15 : Value}
    (a15 : PySem.W.nsIn K mainGlobals "_law_great" = some (some (.ref f15))) (l15 : K.lookup f15 = some ⟨oc15, od15, .func (PySem.W.fnOf "_law_great" "_law_great" (defArgs s__law_great) (defBody s__law_great) (defScope s__law_great) .none kV15 dc15 pm15 an15 cd15 ct15), sl15⟩) (c15 : PySem.W.codeIn K cd15 "_law_great" = true) (k15 : PySem.W.keepIn K (.ref f15) = true)
    {f16 : Addr} {od16 an16 : Option Addr} {sl16 : Array (Option Value)} {oc16 kV16 dc16 pm16 ct16 : Value} {cd16 : Value}
    (a16 : PySem.W.nsIn K mainGlobals "_law_pairs_right" = some (some (.ref f16))) (l16 : K.lookup f16 = some ⟨oc16, od16, .func (PySem.W.fnOf "_law_pairs_right" "_law_pairs_right" (defArgs s__law_pairs_right) (defBody s__law_pairs_right) (defScope s__law_pairs_right) .none kV16 dc16 pm16 an16 cd16 ct16), sl16⟩) (c16 : PySem.W.codeIn K cd16 "_law_pairs_right" = true) (k16 : PySem.W.keepIn K (.ref f16) = true)
    {f17 : Addr} {od17 an17 : Option Addr} {sl17 : Array (Option Value)} {oc17 kV17 dc17 pm17 ct17 : Value} {cA17 : Addr}
    (a17 : PySem.W.nsIn K mainGlobals "law" = some (some (.ref f17))) (l17 : K.lookup f17 = some ⟨oc17, od17, .func (PySem.W.fnOf "law" "law" (defArgs s_law) (defBody s_law) (defScope s_law) .none kV17 dc17 pm17 an17 (.ref cA17) ct17), sl17⟩) (c17 : PySem.W.codeIn K (.ref cA17) "law" = true) (k17 : PySem.W.keepIn K (.ref f17) = true)
    {te17 : Value} {td17 : Option Addr} {tv17 : Array Value} {ts17 : Array (Option Value)} {tP17 : Addr} (tl17 : K.lookup cA17 = some ⟨te17, td17, .fields tv17, ts17⟩) (tp17 : tv17[11]? = some (.ref tP17)) (tn17 : K.lookup tP17 = none) (th17 : PySem.W.codeHdIn K cA17 tP17 = true) (tt17 : TabOf K mg h "law")
    {f18 : Addr} {od18 an18 : Option Addr} {sl18 : Array (Option Value)} {oc18 kV18 dc18 pm18 ct18 : Value} {cd18 : Value}
    (a18 : PySem.W.nsIn K mainGlobals "_law_told" = some (some (.ref f18))) (l18 : K.lookup f18 = some ⟨oc18, od18, .func (PySem.W.fnOf "_law_told" "_law_told" (defArgs s__law_told) (defBody s__law_told) (defScope s__law_told) .none kV18 dc18 pm18 an18 cd18 ct18), sl18⟩) (c18 : PySem.W.codeIn K cd18 "_law_told" = true) (k18 : PySem.W.keepIn K (.ref f18) = true)
    {eSieveError : Addr} (gSieveError : PySem.W.nsIn K mainGlobals "SieveError" = some (some (.ref eSieveError)))    {eBadNumber : Addr} (gBadNumber : PySem.W.nsIn K mainGlobals "BadNumber" = some (some (.ref eBadNumber)))    {eBadName : Addr} (gBadName : PySem.W.nsIn K mainGlobals "BadName" = some (some (.ref eBadName)))    {eNoWay : Addr} (gNoWay : PySem.W.nsIn K mainGlobals "NoWay" = some (some (.ref eNoWay)))    {eUnlike : Addr} (gUnlike : PySem.W.nsIn K mainGlobals "Unlike" = some (some (.ref eUnlike)))    {eBadTable : Addr} (gBadTable : PySem.W.nsIn K mainGlobals "BadTable" = some (some (.ref eBadTable)))    {eBadSums : Addr} (gBadSums : PySem.W.nsIn K mainGlobals "BadSums" = some (some (.ref eBadSums)))
    (eB : errsB K eSieveError [eBadTable, eUnlike, eNoWay, eBadName, eBadNumber, eBadSums] = true)
    (z_int : PySem.W.nsIn K mainGlobals "int" = some none)    (z_isinstance : PySem.W.nsIn K mainGlobals "isinstance" = some none)    (z_bool : PySem.W.nsIn K mainGlobals "bool" = some none)    (z_range : PySem.W.nsIn K mainGlobals "range" = some none)    (z_sorted : PySem.W.nsIn K mainGlobals "sorted" = some none)    (z_len : PySem.W.nsIn K mainGlobals "len" = some none)    (z_sum : PySem.W.nsIn K mainGlobals "sum" = some none)    (z_any : PySem.W.nsIn K mainGlobals "any" = some none)    (z_ValueError : PySem.W.nsIn K mainGlobals "ValueError" = some none)    (z_max : PySem.W.nsIn K mainGlobals "max" = some none)    (z_set : PySem.W.nsIn K mainGlobals "set" = some none)    (z_all : PySem.W.nsIn K mainGlobals "all" = some none)    (z_min : PySem.W.nsIn K mainGlobals "min" = some none) {eNAMES : Addr} (vNAMES : PySem.W.nsIn K mainGlobals "NAMES" = some (some (.ref eNAMES))) {tkMOST_NUMBER : Tok} (vMOST_NUMBER : PySem.W.nsIn K mainGlobals "MOST_NUMBER" = some (some (.int 1000000000 tkMOST_NUMBER))) {tkMOST_SIZE : Tok} (vMOST_SIZE : PySem.W.nsIn K mainGlobals "MOST_SIZE" = some (some (.int 500 tkMOST_SIZE)))
    (nB : namesB K eNAMES NMS = true) :
    ∃ (G : Pm) (fd : FuncData) (cs : List (Addr × Addr × Str)), G.K = K ∧ (∀ p ∈ cs, h.get? p.2.1 = some { cls := .none, data := .fields #[] }) ∧ (∀ p ∈ cs, G.K.lookup p.2.1 = none) ∧ (∀ p ∈ cs, PySem.W.CodeHd h p.1 p.2.1) ∧
      (∀ (s : Shared) (u : Value), BindsTo s fd ⟨[u], []⟩ [("_law_script", u)]) ∧
      ∀ base : Heap, G.K.In base → base.Ns mainGlobals mg → (∀ p ∈ cs, TabB base mg p.1 p.2.1) → FnOk P w G.K mg base (CXN P w) 7 fa fd ["_law_script"] (sp1 (LawR G (cs.map fun p => p.2))) := by
  have e := hfa.symm.trans (PySem.W.mg_of X GX a17)
  cases e
  refine ⟨{ K := K, SieveError := eSieveError, BadNumber := eBadNumber, BadName := eBadName, NoWay := eNoWay, Unlike := eUnlike, BadTable := eBadTable, BadSums := eBadSums, NAMES := eNAMES }, PySem.W.fnOf "law" "law" (defArgs s_law) (defBody s_law) (defScope s_law) .none kV17 dc17 pm17 an17 (.ref cA17) ct17, [(cA17, tP17, ("law" ++ ".<locals>." : Str) ++ "<lambda>")], rfl, ?_, ?_, ?_, fun s u => .of_eq rfl, fun base _ _ TBA => ?_⟩
  · intro p hp
    simp only [List.mem_cons, List.not_mem_nil, or_false] at hp
    subst hp
    · exact tt17 _ _ _ _ _ _ _ _ _ (PySem.W.mg_of X GX a17) l17 rfl rfl tl17 tp17
  · intro p hp
    simp only [List.mem_cons, List.not_mem_nil, or_false] at hp
    subst hp
    · exact tn17
  · intro p hp
    simp only [List.mem_cons, List.not_mem_nil, or_false] at hp
    subst hp
    · exact PySem.W.codeHd_of_K X th17
  have F_law := funC_mk (st := s_law) l17 c17 k17
  have errs := errsOk_of eB
  have hNM := fun H => names_of nB H
  have m_int : mg "int" = none := PySem.W.mg_none_of X GX z_int
  have m_isinstance : mg "isinstance" = none := PySem.W.mg_none_of X GX z_isinstance
  have m_bool : mg "bool" = none := PySem.W.mg_none_of X GX z_bool
  have m_range : mg "range" = none := PySem.W.mg_none_of X GX z_range
  have m_sorted : mg "sorted" = none := PySem.W.mg_none_of X GX z_sorted
  have m_len : mg "len" = none := PySem.W.mg_none_of X GX z_len
  have m_sum : mg "sum" = none := PySem.W.mg_none_of X GX z_sum
  have m_any : mg "any" = none := PySem.W.mg_none_of X GX z_any
  have m_ValueError : mg "ValueError" = none := PySem.W.mg_none_of X GX z_ValueError
  have m_max : mg "max" = none := PySem.W.mg_none_of X GX z_max
  have m_set : mg "set" = none := PySem.W.mg_none_of X GX z_set
  have m_all : mg "all" = none := PySem.W.mg_none_of X GX z_all
  have m_min : mg "min" = none := PySem.W.mg_none_of X GX z_min
  have x_BadNumber : ErrAt K mg "BadNumber" eBadNumber := (errs.one eBadNumber (by simp)).at (PySem.W.mg_of X GX gBadNumber)
  have x_BadName : ErrAt K mg "BadName" eBadName := (errs.one eBadName (by simp)).at (PySem.W.mg_of X GX gBadName)
  have x_NoWay : ErrAt K mg "NoWay" eNoWay := (errs.one eNoWay (by simp)).at (PySem.W.mg_of X GX gNoWay)
  have x_Unlike : ErrAt K mg "Unlike" eUnlike := (errs.one eUnlike (by simp)).at (PySem.W.mg_of X GX gUnlike)
  have x_BadTable : ErrAt K mg "BadTable" eBadTable := (errs.one eBadTable (by simp)).at (PySem.W.mg_of X GX gBadTable)
  have x_BadSums : ErrAt K mg "BadSums" eBadSums := (errs.one eBadSums (by simp)).at (PySem.W.mg_of X GX gBadSums)
  have c_NAMES : mg "NAMES" = some (.ref eNAMES) := PySem.W.mg_of X GX vNAMES
  have c_MOST_NUMBER := (⟨_, PySem.W.mg_of X GX vMOST_NUMBER⟩ : ∃ t, mg "MOST_NUMBER" = some (.int 1000000000 t))
  have c_MOST_SIZE := (⟨_, PySem.W.mg_of X GX vMOST_SIZE⟩ : ∃ t, mg "MOST_SIZE" = some (.int 500 t))
  have memW : ∀ C nm, WE { K := K, SieveError := eSieveError, BadNumber := eBadNumber, BadName := eBadName, NoWay := eNoWay, Unlike := eUnlike, BadTable := eBadTable, BadSums := eBadSums, NAMES := eNAMES } C nm → C ∈ [eBadTable, eUnlike, eNoWay, eBadName, eBadNumber, eBadSums] := fun C nm h => by
    have z : C ∈ (errsL { K := K, SieveError := eSieveError, BadNumber := eBadNumber, BadName := eBadName, NoWay := eNoWay, Unlike := eUnlike, BadTable := eBadTable, BadSums := eBadSums, NAMES := eNAMES }).map (·.1) := List.mem_map.mpr ⟨(C, nm), h, rfl⟩
    exact z
  have W_ := ok__law_word (P := P) (w := w) (G := { K := K, SieveError := eSieveError, BadNumber := eBadNumber, BadName := eBadName, NoWay := eNoWay, Unlike := eUnlike, BadTable := eBadTable, BadSums := eBadSums, NAMES := eNAMES }) (base := base) (defAt_mk X GX a12 l12 c12 k12) m_isinstance m_int m_sum m_ValueError x_NoWay x_Unlike x_BadTable x_BadName x_BadSums x_BadNumber (fun C nm h => (errs.one C (memW C nm h)).ex) (pure__law_word _ errs)
  have TD : ToldAt P w K mg base eSieveError 1 (WE { K := K, SieveError := eSieveError, BadNumber := eBadNumber, BadName := eBadName, NoWay := eNoWay, Unlike := eUnlike, BadTable := eBadTable, BadSums := eBadSums, NAMES := eNAMES }) s__law_told := { dat := defAt_mk X GX a18 l18 c18 k18, sco := sc__law_told, loc := by decide +kernel, loc0 := by decide +kernel, gS := by decide +kernel, gW := by decide +kernel, bdy := ⟨_, _, _, _, _, _, _, _, _, _, rfl⟩, bnd := fun _ _ _ _ _ _ us hl => match us, hl with | [_], _ => rfl, wrd := W_, mS := PySem.W.mg_of X GX gSieveError, exm := fun C nm h => (errs.one C (memW C nm h)).ma }
  have TB17 : TabB base mg cA17 tP17 := TBA (cA17, tP17, ("law" ++ ".<locals>." : Str) ++ "<lambda>") (by simp)
  have hmT17 : (tP17, ("law" ++ ".<locals>." : Str) ++ "<lambda>") ∈ ([(cA17, tP17, ("law" ++ ".<locals>." : Str) ++ "<lambda>")].map fun p => p.2) := by simp
  have hu17 : ∀ p ∈ ([(cA17, tP17, ("law" ++ ".<locals>." : Str) ++ "<lambda>")].map fun p => p.2), p.1 = tP17 → p.2 = ("law" ++ ".<locals>." : Str) ++ "<lambda>" := fun p hp _ => by
    simp only [List.map_cons, List.map_nil, List.mem_cons, List.not_mem_nil, or_false] at hp
    rw [hp]
  have C_need_number := ok_need_number (P := P) (w := w) (G := { K := K, SieveError := eSieveError, BadNumber := eBadNumber, BadName := eBadName, NoWay := eNoWay, Unlike := eUnlike, BadTable := eBadTable, BadSums := eBadSums, NAMES := eNAMES }) (base := base) (defAt_mk X GX a0 l0 c0 k0) m_int m_isinstance m_bool x_BadNumber (pure_need_number _)
  have C_need_name := ok_need_name (P := P) (w := w) (G := { K := K, SieveError := eSieveError, BadNumber := eBadNumber, BadName := eBadName, NoWay := eNoWay, Unlike := eUnlike, BadTable := eBadTable, BadSums := eBadSums, NAMES := eNAMES }) (base := base) (defAt_mk X GX a1 l1 c1 k1) x_BadName c_NAMES (pure_need_name _ hNM)
  have C_apart := ok_apart (P := P) (w := w) (G := { K := K, SieveError := eSieveError, BadNumber := eBadNumber, BadName := eBadName, NoWay := eNoWay, Unlike := eUnlike, BadTable := eBadTable, BadSums := eBadSums, NAMES := eNAMES }) (base := base) (defAt_mk X GX a2 l2 c2 k2)  (pure_apart _)
  have C_primes_of := ok_primes_of (P := P) (w := w) (G := { K := K, SieveError := eSieveError, BadNumber := eBadNumber, BadName := eBadName, NoWay := eNoWay, Unlike := eUnlike, BadTable := eBadTable, BadSums := eBadSums, NAMES := eNAMES }) (base := base) (defAt_mk X GX a3 l3 c3 k3) C_need_number C_apart c_MOST_NUMBER (pure_primes_of _)
  have C_power := ok_power (P := P) (w := w) (G := { K := K, SieveError := eSieveError, BadNumber := eBadNumber, BadName := eBadName, NoWay := eNoWay, Unlike := eUnlike, BadTable := eBadTable, BadSums := eBadSums, NAMES := eNAMES }) (base := base) (defAt_mk X GX a4 l4 c4 k4) m_range (pure_power _)
  have C_all_divisors := ok_all_divisors (P := P) (w := w) (G := { K := K, SieveError := eSieveError, BadNumber := eBadNumber, BadName := eBadName, NoWay := eNoWay, Unlike := eUnlike, BadTable := eBadTable, BadSums := eBadSums, NAMES := eNAMES }) (base := base) (defAt_mk X GX a5 l5 c5 k5) C_power m_range m_sorted (pure_all_divisors _)
  have C_divisors := ok_divisors (P := P) (w := w) (G := { K := K, SieveError := eSieveError, BadNumber := eBadNumber, BadName := eBadName, NoWay := eNoWay, Unlike := eUnlike, BadTable := eBadTable, BadSums := eBadSums, NAMES := eNAMES }) (base := base) (defAt_mk X GX a6 l6 c6 k6) C_all_divisors C_primes_of (pure_divisors _)
  have C_worth_by := ok_worth_by (P := P) (w := w) (G := { K := K, SieveError := eSieveError, BadNumber := eBadNumber, BadName := eBadName, NoWay := eNoWay, Unlike := eUnlike, BadTable := eBadTable, BadSums := eBadSums, NAMES := eNAMES }) (base := base) (defAt_mk X GX a7 l7 c7 k7) C_power m_int m_len m_sum m_any m_range (pure_worth_by _)
  have C_named_worth := ok_named_worth (P := P) (w := w) (G := { K := K, SieveError := eSieveError, BadNumber := eBadNumber, BadName := eBadName, NoWay := eNoWay, Unlike := eUnlike, BadTable := eBadTable, BadSums := eBadSums, NAMES := eNAMES }) (base := base) (defAt_mk X GX a8 l8 c8 k8) C_need_name C_worth_by C_primes_of (pure_named_worth _)
  have C_named_table := ok_named_table (P := P) (w := w) (G := { K := K, SieveError := eSieveError, BadNumber := eBadNumber, BadName := eBadName, NoWay := eNoWay, Unlike := eUnlike, BadTable := eBadTable, BadSums := eBadSums, NAMES := eNAMES }) (base := base) (defAt_mk X GX a9 l9 c9 k9) C_need_name C_need_number C_worth_by C_apart m_range c_MOST_SIZE (pure_named_table _)
  have C__law_cell := ok__law_cell (P := P) (w := w) (G := { K := K, SieveError := eSieveError, BadNumber := eBadNumber, BadName := eBadName, NoWay := eNoWay, Unlike := eUnlike, BadTable := eBadTable, BadSums := eBadSums, NAMES := eNAMES }) (base := base) (defAt_mk X GX a10 l10 c10 k10) m_len (pure__law_cell _)
  have C__law_drawn := ok__law_drawn (P := P) (w := w) (G := { K := K, SieveError := eSieveError, BadNumber := eBadNumber, BadName := eBadName, NoWay := eNoWay, Unlike := eUnlike, BadTable := eBadTable, BadSums := eBadSums, NAMES := eNAMES }) (base := base) (defAt_mk X GX a11 l11 c11 k11)  (pure__law_drawn _)
  have C__law_worth := ok__law_worth (P := P) (w := w) (G := { K := K, SieveError := eSieveError, BadNumber := eBadNumber, BadName := eBadName, NoWay := eNoWay, Unlike := eUnlike, BadTable := eBadTable, BadSums := eBadSums, NAMES := eNAMES }) (base := base) (defAt_mk X GX a13 l13 c13 k13) m_range m_int m_len m_sum m_max (pure__law_worth _)
  have C__law_is_prime := ok__law_is_prime (P := P) (w := w) (G := { K := K, SieveError := eSieveError, BadNumber := eBadNumber, BadName := eBadName, NoWay := eNoWay, Unlike := eUnlike, BadTable := eBadTable, BadSums := eBadSums, NAMES := eNAMES }) (base := base) (defAt_mk X GX a14 l14 c14 k14)  (pure__law_is_prime _)
  have C__law_great := ok__law_great (P := P) (w := w) (G := { K := K, SieveError := eSieveError, BadNumber := eBadNumber, BadName := eBadName, NoWay := eNoWay, Unlike := eUnlike, BadTable := eBadTable, BadSums := eBadSums, NAMES := eNAMES }) (base := base) (defAt_mk X GX a15 l15 c15 k15) C__law_drawn m_range (pure__law_great _)
  have C__law_pairs_right := ok__law_pairs_right (P := P) (w := w) (G := { K := K, SieveError := eSieveError, BadNumber := eBadNumber, BadName := eBadName, NoWay := eNoWay, Unlike := eUnlike, BadTable := eBadTable, BadSums := eBadSums, NAMES := eNAMES }) (base := base) (defAt_mk X GX a16 l16 c16 k16) C_primes_of C__law_is_prime C_divisors C_named_worth m_range m_sorted m_set m_len m_all m_sum (pure__law_pairs_right _)
  exact ok_law (G := { K := K, SieveError := eSieveError, BadNumber := eBadNumber, BadName := eBadName, NoWay := eNoWay, Unlike := eUnlike, BadTable := eBadTable, BadSums := eBadSums, NAMES := eNAMES }) (T := ([(cA17, tP17, ("law" ++ ".<locals>." : Str) ++ "<lambda>")].map fun p => p.2)) F_law TD TB17 hmT17 hu17 C__law_drawn C__law_cell C_divisors C_named_worth C__law_worth C__law_pairs_right C__law_great C_primes_of C_named_table m_len m_min m_max m_range (pure_law _)
end Sv
open PySem PySem.W PyProof.Rows
set_option maxHeartbeats 0 in
theorem PySem.Challenge.cw_sievewright_k20_whole_worths_holds : PySem.Challenge.rw_sievewright_k20_whole_worths.Holds := by
  w_on; o_law; k_head; (case hw => w_witness2)
  k_fill
  refine Sv.walk_told (l := PySem.Challenge.rw_sievewright_k20_whole_worths) (k := 7) (x := "_law_script") rfl rfl ⟨rfl, by decide, by decide⟩ (fun w h Y => by first | exact PySem.W.kIn_of Y | exact PySem.W.km_in_of Y) ?F
  case F =>
    intro w mg fa h KX GX hmg TBS
    refine' Sv.all_mk KX GX hmg ?a0 ?l0 ?c0 ?k0 ?a1 ?l1 ?c1 ?k1 ?a2 ?l2 ?c2 ?k2 ?a3 ?l3 ?c3 ?k3 ?a4 ?l4 ?c4 ?k4 ?a5 ?l5 ?c5 ?k5 ?a6 ?l6 ?c6 ?k6 ?a7 ?l7 ?c7 ?k7 ?a8 ?l8 ?c8 ?k8 ?a9 ?l9 ?c9 ?k9 ?a10 ?l10 ?c10 ?k10 ?a11 ?l11 ?c11 ?k11 ?a12 ?l12 ?c12 ?k12 ?a13 ?l13 ?c13 ?k13 ?a14 ?l14 ?c14 ?k14 ?a15 ?l15 ?c15 ?k15 ?a16 ?l16 ?c16 ?k16 ?a17 ?l17 ?c17 ?k17 ?tl17 ?tp17 ?tn17 ?th17 ?tt17 ?a18 ?l18 ?c18 ?k18 ?gSieveError ?gBadNumber ?gBadName ?gNoWay ?gUnlike ?gBadTable ?gBadSums ?eB ?z_int ?z_isinstance ?z_bool ?z_range ?z_sorted ?z_len ?z_sum ?z_any ?z_ValueError ?z_max ?z_set ?z_all ?z_min ?vNAMES ?vMOST_NUMBER ?vMOST_SIZE ?nB
    (case a0 => k_is)
    (case l0 => k_is)
    (case c0 => k_is)
    (case k0 => k_is)
    (case a1 => k_is)
    (case l1 => k_is)
    (case c1 => k_is)
    (case k1 => k_is)
    (case a2 => k_is)
    (case l2 => k_is)
    (case c2 => k_is)
    (case k2 => k_is)
    (case a3 => k_is)
    (case l3 => k_is)
    (case c3 => k_is)
    (case k3 => k_is)
    (case a4 => k_is)
    (case l4 => k_is)
    (case c4 => k_is)
    (case k4 => k_is)
    (case a5 => k_is)
    (case l5 => k_is)
    (case c5 => k_is)
    (case k5 => k_is)
    (case a6 => k_is)
    (case l6 => k_is)
    (case c6 => k_is)
    (case k6 => k_is)
    (case a7 => k_is)
    (case l7 => k_is)
    (case c7 => k_is)
    (case k7 => k_is)
    (case a8 => k_is)
    (case l8 => k_is)
    (case c8 => k_is)
    (case k8 => k_is)
    (case a9 => k_is)
    (case l9 => k_is)
    (case c9 => k_is)
    (case k9 => k_is)
    (case a10 => k_is)
    (case l10 => k_is)
    (case c10 => k_is)
    (case k10 => k_is)
    (case a11 => k_is)
    (case l11 => k_is)
    (case c11 => k_is)
    (case k11 => k_is)
    (case a12 => k_is)
    (case l12 => k_is)
    (case c12 => k_is)
    (case k12 => k_is)
    (case a13 => k_is)
    (case l13 => k_is)
    (case c13 => k_is)
    (case k13 => k_is)
    (case a14 => k_is)
    (case l14 => k_is)
    (case c14 => k_is)
    (case k14 => k_is)
    (case a15 => k_is)
    (case l15 => k_is)
    (case c15 => k_is)
    (case k15 => k_is)
    (case a16 => k_is)
    (case l16 => k_is)
    (case c16 => k_is)
    (case k16 => k_is)
    (case a17 => k_is)
    (case l17 => k_is)
    (case c17 => k_is)
    (case k17 => k_is)
    (case tl17 => k_is)
    (case tp17 => rfl)
    (case tn17 => kernel_rfl)
    (case th17 => kernel_rfl)
    (case tt17 => exact TBS _ (by kernel_rfl))
    (case a18 => k_is)
    (case l18 => k_is)
    (case c18 => k_is)
    (case k18 => k_is)
    (case gSieveError => k_is)
    (case gBadNumber => k_is)
    (case gBadName => k_is)
    (case gNoWay => k_is)
    (case gUnlike => k_is)
    (case gBadTable => k_is)
    (case gBadSums => k_is)
    (case eB => kernel_rfl)
    (case z_int => k_is)
    (case z_isinstance => k_is)
    (case z_bool => k_is)
    (case z_range => k_is)
    (case z_sorted => k_is)
    (case z_len => k_is)
    (case z_sum => k_is)
    (case z_any => k_is)
    (case z_ValueError => k_is)
    (case z_max => k_is)
    (case z_set => k_is)
    (case z_all => k_is)
    (case z_min => k_is)
    (case vNAMES => k_is)
    (case vMOST_NUMBER => k_is)
    (case vMOST_SIZE => k_is)
    (case nB => kernel_rfl)
