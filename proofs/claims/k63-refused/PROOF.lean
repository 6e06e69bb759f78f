import PyProof.Rows.All
import Wide.All
import OpenK.AllK
import Wide.FinOn
import HandS.ForMost
import HandS.Exc
import HandS.ExcOwn
import HandS.ExcCtx
import HandS.WordsExc
import HandS.Wide
import HandS.IsInst
import HandS.EndBits
import KE.KRevSl
import HandS.Evl
import KE.Datum
import HandS.HotCalls
import HandS.ExcIs
import HandS.Lambda
import KE.GoesComp
import KE.GoesMore
import HandS.TryOnly
import HandS.EndTab
import HandS.TupLe
import PySem.Challenge.RW_sievewright_k63_residues_refused
set_option Elab.async false
set_option linter.all false
set_option maxRecDepth 100000
set_option maxHeartbeats 4000000
/-! SvBase: how the defs of a law's text are taken one by one: Pm, DefAt, Ok, pe_ok, mk_ok; names of readings. -/
namespace Sv
open PySem PySem.Spec PyProof.Rows L2
/-- the written part and where its named objects stand -/
structure Pm where
  K : PySem.W.Frag
  SieveError : Addr := 0
  BadTable : Addr := 0
  Unlike : Addr := 0
  NoWay : Addr := 0
  BadName : Addr := 0
  BadNumber : Addr := 0
  BadSums : Addr := 0
  BadRule : Addr := 0
  Full : Addr := 0
  Used : Addr := 0
  Nothing : Addr := 0
  BadText : Addr := 0
  NAMES : Addr := 0
  PARTS : Addr := 0
  SIZES : Addr := 0
  Sums : Addr := 0
  Sheet : Addr := 0
abbrev CXN (P : Program) (w : World) : CXT := L2N.CX P w
/-! ### promises by the arguments -/
abbrev R0 := Hp → VK → XK → Prop
abbrev R1 := V → Hp → VK → XK → Prop
abbrev R2' := V → V → Hp → VK → XK → Prop
abbrev R3 := V → V → V → Hp → VK → XK → Prop
abbrev R4 := V → V → V → V → Hp → VK → XK → Prop
def sp0 (R : R0) : Sp
  | [], H, Q, E => R H Q E
  | _, _, _, _ => False
def sp1 (R : R1) : Sp
  | [x], H, Q, E => R x H Q E
  | _, _, _, _ => False
def sp2 (R : R2') : Sp
  | [x, y], H, Q, E => R x y H Q E
  | _, _, _, _ => False
def sp3 (R : R3) : Sp
  | [x, y, z], H, Q, E => R x y z H Q E
  | _, _, _, _ => False
def sp4 (R : R4) : Sp
  | [x, y, z, u], H, Q, E => R x y z u H Q E
  | _, _, _, _ => False
theorem sp0_len {R : R0} : ∀ vs H Q E, sp0 R vs H Q E → vs.length = 0
  | [], _, _, _, _ => rfl
theorem sp1_len {R : R1} : ∀ vs H Q E, sp1 R vs H Q E → vs.length = 1
  | [_], _, _, _, _ => rfl
theorem sp2_len {R : R2'} : ∀ vs H Q E, sp2 R vs H Q E → vs.length = 2
  | [_, _], _, _, _, _ => rfl
theorem sp3_len {R : R3} : ∀ vs H Q E, sp3 R vs H Q E → vs.length = 3
  | [_, _, _], _, _, _, _ => rfl
theorem sp4_len {R : R4} : ∀ vs H Q E, sp4 R vs H Q E → vs.length = 4
  | [_, _, _, _], _, _, _, _ => rfl
/-- a body's ends: the value handed back, None at its end -/
abbrev dn (Q : VK) : Ends := { nx := fun _ H' => Q .non H', rt := Q }
/-! ### a def of the text -/
structure DefAt (K : PySem.W.Frag) (mg : Str → Option Value) (x : Str) (st : Stmt) : Prop where
  ex : ∃ (f : Addr) (fd : FuncData), Fun K x x st f fd ∧ mg x = some (.ref f)
structure Ok (P : Program) (w : World) (K : PySem.W.Frag) (mg : Str → Option Value) (base : Heap) (CX : CXT) (k : Nat) (x : Str) (ps : List Str) (sp : Sp) : Prop where
  ex : ∃ (f : Addr) (fd : FuncData), FnOk P w K mg base CX k f fd ps sp ∧ mg x = some (.ref f) ∧ PySem.W.keepIn K (.ref f) = true ∧ Binds K fd ps []
theorem defAt_mk {K : PySem.W.Frag} {h : Heap} {mg : Str → Option Value} {x : Str} {st : Stmt} {f : Addr} {od an : Option Addr} {sl : Array (Option Value)} {oc kV dc pm cd ct : Value} (X : K.In h) (G : h.Ns mainGlobals mg)
    (a : PySem.W.nsIn K mainGlobals x = some (some (.ref f))) (l : K.lookup f = some ⟨oc, od, .func (PySem.W.fnOf x x (defArgs st) (defBody st) (defScope st) .none kV dc pm an cd ct), sl⟩) (c : PySem.W.codeIn K cd x = true) (k : PySem.W.keepIn K (.ref f) = true) : DefAt K mg x st :=
  ⟨f, _, fun_mk l c k, PySem.W.mg_of X G a⟩
section
variable {P : Program} {w : World} {K : PySem.W.Frag} {mg : Str → Option Value} {base : Heap} {CX : CXT} {x : Str} {st : Stmt} {N ps : List Str} {k : Nat} {sp : Sp}
theorem mk_fn {f : Addr} {fd : FuncData} (F : Fun K x x st f fd) (S : FnScope N ps (defScope st)) (len : ∀ vs H Q E, sp vs H Q E → vs.length = ps.length) (t : XK → TS) (hp : ∀ vs H Q E, sp vs H Q E → t E (dn Q) (start N vs) H)
    (hd : ∀ (cdv : Value) (A : Around) (outer : List Env) (s : Shared) (H : Hp) (E : XK), Room k (A.deeper (envOfC x (defScope st) s.heap.objs.size f cdv)) → PSs (cxOf CX P w K mg base N x (defScope st) f cdv A outer s H E) (defBody st) (t E)) :
    FnOk P w K mg base CX (k + 1) f fd ps sp := by
  obtain ⟨oc, od, kV, doc, pm, an, cdv, ct, osl, rfl, lk, hcd⟩ := F.ex
  exact fn_of lk hcd S len fun A outer s H vs Q E hr hsp => ⟨t E, hd cdv A outer s H E hr, hp vs H Q E hsp⟩
theorem mk_ok (D : DefAt K mg x st) (S : FnScope N ps (defScope st))
    (hb : ∀ (kV doc pm : Value) (an : Option Addr) (cdv ct : Value) (us : List Value), us.length = ps.length → bindArgs (PySem.W.fnOf x x (defArgs st) (defBody st) (defScope st) .none kV doc pm an cdv ct) ⟨us, []⟩ = pure (ps.zip us))
    (len : ∀ vs H Q E, sp vs H Q E → vs.length = ps.length) (t : XK → TS) (hp : ∀ vs H Q E, sp vs H Q E → t E (dn Q) (start N vs) H)
    (hd : ∀ (f : Addr) (cdv : Value) (A : Around) (outer : List Env) (s : Shared) (H : Hp) (E : XK), Room k (A.deeper (envOfC x (defScope st) s.heap.objs.size f cdv)) → PSs (cxOf CX P w K mg base N x (defScope st) f cdv A outer s H E) (defBody st) (t E)) :
    Ok P w K mg base CX (k + 1) x ps sp := by
  obtain ⟨f, fd, F, hm⟩ := D.ex
  obtain ⟨oc, od, kV, doc, pm, an, cdv, ct, osl, rfl, lk, hcd⟩ := F.ex
  exact ⟨f, _, fn_of lk hcd S len fun A outer s H vs Q E hr hsp => ⟨t E, hd f cdv A outer s H E hr, hp vs H Q E hsp⟩, hm, F.kp, F.binds hb⟩
end
section
variable {X : Cx} {CX : CXT} {k j : Nat} {ps : List Str} {sp : Sp} {E : XK} {x : Str} {p pos : Pos} {e : Expr} {es : List Expr} {t : TA}
theorem pe_ok (F : Ok X.prog X.w X.K X.mg X.base CX k x ps sp) (hr : Room j X.A) (hk : k ≤ j) (hg : Gl X x) (hx : Passes CX X E)
    (ha : PA X (e :: es) t) (hdb : (x == ("__debug__" : Str)) = false := by decide) (he : starEach (e :: es) X.env = (false, eval e X.env) :: starEach es X.env := by rfl) (hpl : (backTo pos (starEach es X.env)).any (·.1) = false := by rfl) :
    PE X (.Call (.Name x p) (e :: es) [] pos) (tCall sp [] E t) := by
  obtain ⟨f, fd, F, hm, hkp, hb⟩ := F.ex
  exact pe_call F (hr.mono hk) hg hm hkp hb .nil hx ha hdb he hpl
theorem pe_ok0 (F : Ok X.prog X.w X.K X.mg X.base CX k x ps sp) (hr : Room j X.A) (hk : k ≤ j) (hg : Gl X x) (hx : Passes CX X E) (hdb : (x == ("__debug__" : Str)) = false := by decide) :
    PE X (.Call (.Name x p) [] [] pos) (tCall sp [] E tNil) := by
  obtain ⟨f, fd, F, hm, hkp, hb⟩ := F.ex
  exact pe_call0 F (hr.mono hk) hg hm hkp hb .nil hx hdb
/-- a body's callee's exception leaves the body -/
theorem psx (hs : X.stack = X.env :: X.outer) (hf : X.env.frame = some X.env.locals) (hex : X.ex = []) {E₁ : Value → Shared → Prop}
    (hx : X.xe = fun e s' => wpAny (model X.prog X.w) X.A (leaving X.env e) (fun _ s'' => L2N.CX X.prog X.w X.outer X.H_0 X.s_0 E e s'') E₁ s') : Passes (CXN X.prog X.w) X E :=
  L2N.passes_call (L2N.takes_of hs hf hex hx) fun _ _ _ _ h => h
/-- .. where nothing is let out -/
theorem psn : Passes (CXN X.prog X.w) X E0 := fun _ _ _ _ _ _ _ h => by
  obtain ⟨_, _, _, _, _, _, _, _, _, _, _, _, z⟩ := h
  exact z.elim
end
/-! ### readings by names -/
abbrev oAdd : R2 := rI0 fun i j => .int (i + j)
abbrev oSub : R2 := rI0 fun i j => .int (i - j)
def CM (i j : Int) : Prop := CMul i j ∨ CMulW i j
abbrev oMul : R2 := rI CM fun i j => .int (i * j)
abbrev oMod : R2 := rI (fun _ j => 0 < j) fun i j => .int (i % j)
abbrev oDiv : R2 := rI CDivW fun i j => .int (i / j)
abbrev oPow : R2 := rI CPow fun i j => .int (i ^ j.toNat)
abbrev cLt : R2 := rI0 fun i j => .bl (decide (i < j))
abbrev cLe : R2 := rI0 fun i j => .bl (decide (i ≤ j))
abbrev cGt : R2 := rI0 fun i j => .bl (decide (j < i))
abbrev cGe : R2 := rI0 fun i j => .bl (decide (j ≤ i))
abbrev oCatS : R2 := fun x y H Q => ∃ i j, x = .str i ∧ y = .str j ∧ i.length + j.length ≤ sizeLine ∧ Q (.str (i ++ j)) H
abbrev uNeg : V → Hp → VK → Prop := rU fun i => .int (-i)
section
variable {X : Cx}
theorem op_mulA : OpR X (binaryOp .Mult) oMul := fun pins s σ H x y v u Q I rx ry h => by
  obtain ⟨i, j, rfl, rfl, c, q⟩ := h
  rcases c with c | c
  · exact op_mul pins s σ H _ _ v u Q I rx ry ⟨i, j, rfl, rfl, c, q⟩
  · exact op_mulW pins s σ H _ _ v u Q I rx ry ⟨i, j, rfl, rfl, c, q⟩
end
def bLenQ (K : PySem.W.Frag) : List V → Hp → VK → Prop := fun xs H Q => ∃ p ys, xs = [.ref p] ∧ (SqL K H p ys ∨ SqT K H p ys) ∧ Q (.int ys.length) H
def bLenS : List V → Hp → VK → Prop := fun xs H Q => ∃ z, xs = [.str z] ∧ z.length ≤ sizeLine ∧ Q (.int z.length) H
def bMax2 : List V → Hp → VK → Prop := fun xs H Q => ∃ i j, xs = [.int i, .int j] ∧ Q (.int (if j > i then j else i)) H
def bMin2 : List V → Hp → VK → Prop := fun xs H Q => ∃ i j, xs = [.int i, .int j] ∧ Q (.int (if j < i then j else i)) H
def bInt1 : List V → Hp → VK → Prop := fun xs H Q => (∃ i, xs = [.int i] ∧ Q (.int i) H) ∨ ∃ k, xs = [.bl k] ∧ Q (.int (if k then 1 else 0)) H
def bListOf (K : PySem.W.Frag) : List V → Hp → VK → Prop := fun xs H Q => ∃ p ys, xs = [.ref p] ∧ (SqL K H p ys ∨ SqT K H p ys) ∧ ∀ l, H l = none → Q (.ref l) (upd H l (.lst ys))
/-- raise C('..') -/
def tRaise (C : Addr) (E : XK) : TS := fun _ _ H => E (.ref C) none H
section
variable {X : Cx} {C : Addr} {E : XK}
/-- what the class C of the program's own errors must be -/
structure ErrAt (K : PySem.W.Frag) (mg : Str → Option Value) (x : Str) (C : Addr) : Prop where
  gC : mg x = some (.ref C)
  xC : PySem.W.excIn K C [.type "ValueError", .type "Exception", .type "BaseException", .type "object"] "ValueError.__new__" = true
  kC : PySem.W.keepIn K (.ref C) = true
  bC : PySem.W.subIn K (.ref C) (.type "BaseException") = some true
  tC : PySem.W.typeIn K (.ref C) = some (.type "type")
theorem ps_raiseN {x m : Str} {j : Nat} {p p2 pos pos' : Pos} (T : ErrAt X.K X.mg x C) (hg : Gl X x) (hc : X.calm = true) (hs : X.stack = X.env :: X.outer) (hf : X.env.frame = some X.env.locals) (hex : X.ex = []) {E₁ : Value → Shared → Prop}
    (hx : X.xe = fun e s' => wpAny (model X.prog X.w) X.A (leaving X.env e) (fun _ s'' => L2N.CX X.prog X.w X.outer X.H_0 X.s_0 E e s'') E₁ s') (hdb : (x == ("__debug__" : Str)) = false := by decide) :
    PS X (.Raise (some (.Call (.Name x p) [.Constant (.str m) j p2] [] pos)) none pos') (tRaise C E) :=
  L2N.ps_raise hc (L2N.takes_of hs hf hex hx) (L2N.pmk_own PySem.F.excBase_ValueError T.xC T.gC T.kC (raises_own T.bC T.tC) hg hdb)
end
/-! ### xs[::-1] -/
def tRevL (K : PySem.W.Frag) (te : TE) : TE := fun σ H Q => te σ H fun x H1 => ∃ a xs, x = .ref a ∧ SqL K H1 a xs ∧ ∀ p, H1 p = none → Q (.ref p) (upd H1 p (.lst xs.reverse))
section
variable {X : Cx}
theorem pe_revl {e : Expr} {te : TE} {j : Nat} {p1 p2 p3 pos : Pos} (he : PE X e te) : PE X (.Subscript e (.Slice none none (some (.UnaryOp .USub (.Constant (.int 1) j p1) p3)) p2) pos) (tRevL X.K te) := by
  refine ⟨fun pins s σ H Q I h => ?_⟩
  refine Subscript_ (thn (he.run pins s σ H _ I h) fun v s1 ⟨x, H1, I1, r1, q1⟩ => ?_)
  refine wpAny_Slice ?_
  rw [evalPart_none]
  refine wpAny_pure (wpAny_pure ?_)
  have hst : PO X (some (.UnaryOp .USub (.Constant (.int 1) j p1) p3)) (tPart (tUn uNeg (tC (.int 1)))) := po_some (pe_un un_neg pe_int)
  refine thn (hst.run pins s1 σ H1 (fun o H2 => o = some (-1) ∧ H2 = H1) I1 ⟨1, rfl, -1, rfl, rfl, rfl⟩) fun vst s3 ⟨o, H3, I3, pst, eo, eH⟩ => ?_
  subst eo
  subst eH
  obtain ⟨a, xs, rfl, hx, q⟩ := q1
  cases r1
  have I4 : Inv X pins σ H3 { s3 with heap := s3.heap.push { cls := .type "slice", data := .fields #[.none, .none, vst] } } := I3.kept (t' := s3.toks) fun b ob q => Heap.get?_push_of_some _ q
  obtain ⟨its, r, ht, hz⟩ := I4.list hx
  have hlen := r.length
  show wpAny (model X.prog X.w) X.A (subscriptTail e (.Slice none none (some (.UnaryOp .USub (.Constant (.int 1) j p1) p3)) p2) (.ref a) (.ref s3.heap.objs.size)) (EP X pins σ Q) X.xe { s3 with heap := s3.heap.push { cls := .type "slice", data := .fields #[.none, .none, vst] } }
  refine tail_any (ops := [.ref a, .ref s3.heap.objs.size]) ht.isList.typeIs slot_list_getitem.lookup ?_ (by with_unfolding_all rfl)
  refine wpAny_getItem_list_slice ht.isList (Heap.IsSliceOf.new ..) .none .none pst (by simp) ?_ (by rw [List.size_toArray] <;> omega)
  rw [PySem.W.krv_pick]
  refine ⟨.ref _, _, I4.laid (t' := s3.toks) (o := .lst xs.reverse) (fun b ob q => Heap.get?_push_of_some _ q) (Nat.le_refl _) ?_, rfl, q _ (I4.hok.fresh (Nat.le_refl _))⟩
  exact ⟨by rw [List.length_reverse]; exact hz, _, 0, r.reverse, Heap.get?_push_size _ rfl⟩
end
/-! ### the end: a law's promise, with the script's bits -/
theorem walk_law {l : PySem.W.OpenLaw} {n k : Nat} {q : Program} {loose : List Str} {XP : (Str → Option Value) → Heap → Prop} {YP : World → Heap → Prop} {d : DefRec} {K : Params → PySem.W.Frag} {x : Str}
    (hn : l.most = some n) (hn2 : n ≤ sizeLine) (hdf : d.params.defaults = []) (hr : Room k callerA)
    (hY : ∀ (w : World) (h : Heap), YP w h → (K w.params).In h)
    (F : ∀ (w : World) (mg : Str → Option Value) (fa : Addr) (h : Heap), (K w.params).In h → h.Ns mainGlobals mg → mg d.name = some (.ref fa) →
      ∃ G : Pm, G.K = K w.params ∧ ∃ fd : FuncData, (∀ (s : Shared) (u : Value), BindsTo s fd ⟨[u], []⟩ [(x, u)]) ∧
        ∀ base : Heap, G.K.In base → base.Ns mainGlobals mg → FnOk l.prog w G.K mg base (CXN l.prog w) k fa fd [x] (sp1 fun v H Q _ => ∃ (a : Addr) (ns : List Int), v = .ref a ∧ SqL G.K H a (ns.map V.int) ∧ ns.length ≤ n ∧ (∀ z ∈ ns, Builtin.Int.intBits z ≤ 1048576) ∧ ∀ H', Q (.bl true) H')) :
    PySem.W.WalkO q loose XP YP l.row.toRowW d [] (fun f vs => PySem.call f vs) := by
  refine walk_ofB (l := l) (n := n) (k := k) (x := x) (K := K) (CX := fun w => CXN l.prog w) (sp := fun w => sp1 fun v H Q _ => ∃ (a : Addr) (ns : List Int), v = .ref a ∧ SqL (K w.params) H a (ns.map V.int) ∧ ns.length ≤ n ∧ (∀ z ∈ ns, Builtin.Int.intBits z ≤ 1048576) ∧ ∀ H', Q (.bl true) H') hn hn2 hdf hr hY ?_ ?_ ?_
  · intro w mg fa h KX GX hm
    obtain ⟨G, eG, fd, hb, hF⟩ := F w mg fa h KX GX hm
    rw [eG] at hF
    exact ⟨fd, hb, hF⟩
  · intro w H a ns hl hz _ hS
    exact ⟨a, ns, rfl, hS, hl, hz, fun _ => rfl⟩
  · intro w H s e s' h
    obtain ⟨_, _, _, _, _, _, _, _, _, _, _, _, z⟩ := h
    exact z
end Sv

set_option Elab.async false
set_option linter.all false
set_option maxRecDepth 100000
set_option maxHeartbeats 4000000
/-! SvEv: what readings evaluate to, further: isinstance, len, == of data, calls; the word «ev». -/
namespace Sv
open PySem PySem.Spec PyProof.Rows L2 Evl
section
variable {K : PySem.W.Frag} {σ : L2.St} {H H' : Hp} {ta tb te tc : TE} {t u : TT} {x y z v : V} {a : Addr} {xs : List V}
theorem ev_at (h : Ev te σ H v) (Q : VK) (q : ∀ H2, Ex H H2 → Q v H2) : te σ H Q := h H (Ex.refl H) Q q
/-! ### isinstance -/
theorem ty_l (h : SqL K H a xs) : TyX K H (.ref a) (.type "list") := by
  rcases h with (h | ⟨o, h⟩) | ⟨o, its, n, e, c, _⟩
  · exact .base (.lst h)
  · exact .base (.frz h)
  · exact .kList e c
theorem ty_t (h : SqT K H a xs) : TyX K H (.ref a) (.type "tuple") := by
  rcases h with (h | ⟨o, h⟩) | ⟨o, its, n, e, c, _⟩
  · exact .base (.tup h)
  · exact .fTuple h
  · exact .kTuple e c
theorem rc_isi {n m : String} {b : Bool} (hx : ∀ H1, Ex H H1 → TyX K H1 x (.type m)) (hk : kitB m n = some b) : RC (rIsi K) [x, .ty n] H (.bl b) :=
  fun H1 e Q q => ⟨x, .ty n, .type m, .type n, b, rfl, .ty n, hx H1 e, kit_ty hk, q H1 (Ex.refl H1)⟩
theorem ev_isi {n m : String} {b : Bool} (ha : Ev ta σ H x) (hx : ∀ H1, Ex H H1 → TyX K H1 x (.type m)) (hk : kitB m n = some b) : Ev (tCB (rIsi K) (tCons ta (tCons (tC (.ty n)) tNil))) σ H (.bl b) :=
  ev_cb (ea_cons ha (ea_cons ev_c ea_nil)) (rc_isi hx hk)
/-! ### len, max, min, int -/
theorem rc_lenL (h : SqL K H a xs) : RC (bLenQ K) [.ref a] H (.int (xs.length : Int)) :=
  fun H1 e Q q => ⟨a, xs, rfl, .inl (ex_l e h), q H1 (Ex.refl H1)⟩
theorem rc_lenT (h : SqT K H a xs) : RC (bLenQ K) [.ref a] H (.int (xs.length : Int)) :=
  fun H1 e Q q => ⟨a, xs, rfl, .inr (ex_t e h), q H1 (Ex.refl H1)⟩
theorem ev_lenL (ha : Ev ta σ H (.ref a)) (h : SqL K H a xs) : Ev (tCB (bLenQ K) (tCons ta tNil)) σ H (.int (xs.length : Int)) := ev_cb (ea_cons ha ea_nil) (rc_lenL h)
theorem ev_lenT (ha : Ev ta σ H (.ref a)) (h : SqT K H a xs) : Ev (tCB (bLenQ K) (tCons ta tNil)) σ H (.int (xs.length : Int)) := ev_cb (ea_cons ha ea_nil) (rc_lenT h)
theorem ev_maxI {i j : Int} (ha : Ev ta σ H (.int i)) (hb : Ev tb σ H (.int j)) : Ev (tCB bMax2 (tCons ta (tCons tb tNil))) σ H (.int (if j > i then j else i)) :=
  ev_cb (ea_cons ha (ea_cons hb ea_nil)) fun H1 _ Q q => ⟨i, j, rfl, q H1 (Ex.refl H1)⟩
theorem ev_minI {i j : Int} (ha : Ev ta σ H (.int i)) (hb : Ev tb σ H (.int j)) : Ev (tCB bMin2 (tCons ta (tCons tb tNil))) σ H (.int (if j < i then j else i)) :=
  ev_cb (ea_cons ha (ea_cons hb ea_nil)) fun H1 _ Q q => ⟨i, j, rfl, q H1 (Ex.refl H1)⟩
theorem ev_intI {i : Int} (ha : Ev ta σ H (.int i)) : Ev (tCB bInt1 (tCons ta tNil)) σ H (.int i) :=
  ev_cb (ea_cons ha ea_nil) fun H1 _ Q q => .inl ⟨i, rfl, q H1 (Ex.refl H1)⟩
theorem ev_intB {k : Bool} (ha : Ev ta σ H (.bl k)) : Ev (tCB bInt1 (tCons ta tNil)) σ H (.int (if k then 1 else 0)) :=
  ev_cb (ea_cons ha ea_nil) fun H1 _ Q q => .inr ⟨k, rfl, q H1 (Ex.refl H1)⟩
theorem el_listOf (ha : Ev ta σ H (.ref a)) (h : SqL K H a xs) : EvL (tCB (bListOf K) (tCons ta tNil)) σ H xs :=
  el_cb (ea_cons ha ea_nil) fun H1 e Q q => ⟨a, xs, rfl, .inl (ex_l e h), fun l hl => q l _ hl (Ex.new hl) upd_same⟩
theorem el_rev (ha : Ev ta σ H (.ref a)) (h : SqL K H a xs) : EvL (tRevL K ta) σ H xs.reverse :=
  fun H1 e Q q => ha H1 e _ fun H2 e2 => ⟨a, xs, rfl, ex_l (e.trans e2) h, fun p hp => q p _ (fresh_back e2 hp) (e2.trans (Ex.new hp)) upd_same⟩
theorem ev_isN (ha : Ev ta σ H x) : Ev (tIsN ta) σ H (.bl (decide (x = .non))) := fun H1 e Q q => ha H1 e _ q
theorem ev_notN (ha : Ev ta σ H x) : Ev (tNotN ta) σ H (.bl (!decide (x = .non))) := fun H1 e Q q => ha H1 e _ q
/-- a chain -/
theorem ev_chain {r r' : R2} {k b : Bool} (ha : Ev ta σ H x) (hb : Ev tb σ H y) (h1 : RV r x y H (.bl k)) (hc : k = true → Ev tc σ H z) (h2 : k = true → RV r' y z H (.bl b)) : Ev (tChain r r' ta tb tc) σ H (.bl (k && b)) := by
  intro H1 e Q q
  refine ha H1 e _ fun H2 e2 => hb H2 (e.trans e2) _ fun H3 e3 => h1 H3 (e.trans (e2.trans e3)) _ fun H4 e4 => ⟨k, rfl, ?_⟩
  cases k with
  | false => exact q H4 (e2.trans (e3.trans e4))
  | true => exact hc rfl H4 (e.trans (e2.trans (e3.trans e4))) _ fun H5 e5 => h2 rfl H5 (e.trans (e2.trans (e3.trans (e4.trans e5)))) _ fun H6 e6 => q H6 (e2.trans (e3.trans (e4.trans (e5.trans e6))))
theorem et_chain {b : Bool} (h : Ev te σ H (.bl b)) : EvT (tTest te) σ H b := et_test h
/-! ### any, all, sum of lists just made -/
theorem ev_anyN {bs : List Bool} (ha : EvL ta σ H (bs.map V.bl)) : Ev (tCB (rAny K) (tCons ta tNil)) σ H (.bl (bs.any id)) :=
  fun H1 e Q q => ha H1 e _ fun p H2 _ e2 h2 => ⟨p, bs, rfl, sq_of h2, q H2 e2⟩
theorem ev_allN {bs : List Bool} (ha : EvL ta σ H (bs.map V.bl)) : Ev (tCB (rAll K) (tCons ta tNil)) σ H (.bl (bs.all id)) :=
  fun H1 e Q q => ha H1 e _ fun p H2 _ e2 h2 => ⟨p, bs, rfl, sq_of h2, q H2 e2⟩
theorem ev_sumN {ns : List Int} (ha : EvL ta σ H (ns.map V.int)) : Ev (tCB (rSum K) (tCons ta tNil)) σ H (.int ns.sum) :=
  fun H1 e Q q => ha H1 e _ fun p H2 _ e2 h2 => ⟨p, ns, rfl, sq_of h2, q H2 e2⟩
theorem el_eq {ys : List V} (h : EvL te σ H xs) (e : xs = ys) : EvL te σ H ys := e ▸ h
/-! ### calls of the text's defs -/
theorem ev_ca1 {R : R1} {E : XK} (ha : Ev ta σ H x) (h : ∀ H1, Ex H H1 → ∀ Q : VK, (∀ H2, Ex H1 H2 → Q z H2) → R x H1 Q E) : Ev (tCall (sp1 R) [] E (tCons ta tNil)) σ H z :=
  fun H1 e Q q => ha H1 e _ fun H2 e2 => h H2 (e.trans e2) Q fun H3 e3 => q H3 (e2.trans e3)
theorem ev_ca2 {R : R2'} {E : XK} (ha : Ev ta σ H x) (hb : Ev tb σ H y) (h : ∀ H1, Ex H H1 → ∀ Q : VK, (∀ H2, Ex H1 H2 → Q z H2) → R x y H1 Q E) : Ev (tCall (sp2 R) [] E (tCons ta (tCons tb tNil))) σ H z :=
  fun H1 e Q q => ha H1 e _ fun H2 e2 => hb H2 (e.trans e2) _ fun H3 e3 => h H3 (e.trans (e2.trans e3)) Q fun H4 e4 => q H4 (e2.trans (e3.trans e4))
theorem ev_ca3 {w : V} {R : R3} {E : XK} (ha : Ev ta σ H x) (hb : Ev tb σ H y) (hc : Ev tc σ H w) (h : ∀ H1, Ex H H1 → ∀ Q : VK, (∀ H2, Ex H1 H2 → Q z H2) → R x y w H1 Q E) : Ev (tCall (sp3 R) [] E (tCons ta (tCons tb (tCons tc tNil)))) σ H z :=
  fun H1 e Q q => ha H1 e _ fun H2 e2 => hb H2 (e.trans e2) _ fun H3 e3 => hc H3 (e.trans (e2.trans e3)) _ fun H4 e4 => h H4 (e.trans (e2.trans (e3.trans e4))) Q fun H5 e5 => q H5 (e2.trans (e3.trans (e4.trans e5)))
/-! ### data -/
mutual
theorem Dp.ex (e : Ex H H') : ∀ (d : PyData) (v : V), Dp K H v d → Dp K H' v d
  | .none, _, h => by cases h; exact .non
  | .bool b, _, h => by cases h; exact .bl b
  | .int i, _, h => by cases h; exact .int i
  | .str x, _, h => by cases h; exact .str x
  | .list ds, _, h => by
    cases h with
    | lst h1 h2 => exact .lst (ex_l e h1) (DpAll.ex e ds _ h2)
  | .tuple ds, _, h => by
    cases h with
    | tup h1 h2 => exact .tup (ex_t e h1) (DpAll.ex e ds _ h2)
  | .dict _, _, h => by cases h
theorem DpAll.ex (e : Ex H H') : ∀ (ds : List PyData) (vs : List V), DpAll K H vs ds → DpAll K H' vs ds
  | [], _, h => by cases h; exact .nil
  | d :: ds, _, h => by
    cases h with
    | cons h1 h2 => exact .cons (Dp.ex e d _ h1) (DpAll.ex e ds _ h2)
end
theorem rv_eqD {d e : PyData} (hx : Dp K H x d) (hy : Dp K H y e) (s1 : SeqAt.shaped d = true) (s2 : SeqAt.shaped e = true) : RV (rEqD K) x y H (.bl (PyData.eqv d e)) :=
  fun H1 ex Q q => ⟨d, e, Dp.ex ex d _ hx, Dp.ex ex e _ hy, s1, s2, q H1 (Ex.refl H1)⟩
theorem rv_neD {d e : PyData} (hx : Dp K H x d) (hy : Dp K H y e) (s1 : SeqAt.shaped d = true) (s2 : SeqAt.shaped e = true) : RV (rNeD K) x y H (.bl (!PyData.eqv d e)) :=
  fun H1 ex Q q => ⟨d, e, Dp.ex ex d _ hx, Dp.ex ex e _ hy, s1, s2, q H1 (Ex.refl H1)⟩
theorem dp_ints : ∀ ns : List Int, DpAll K H (ns.map V.int) (ns.map PyData.int)
  | [] => .nil
  | n :: ns => .cons (.int n) (dp_ints ns)
theorem dp_il {ns : List Int} (h : SqL K H a (ns.map V.int)) : Dp K H (.ref a) (.list (ns.map PyData.int)) := .lst h (dp_ints ns)
theorem dp_it {ns : List Int} (h : SqT K H a (ns.map V.int)) : Dp K H (.ref a) (.tuple (ns.map PyData.int)) := .tup h (dp_ints ns)
theorem canL_ints : ∀ ns : List Int, PyData.canLayAll0 (ns.map PyData.int) = true
  | [] => by simp [PyData.canLayAll0]
  | n :: ns => by simp [PyData.canLayAll0, PyData.canLay0, canL_ints ns]
theorem dep_ints : ∀ ns : List Int, PyData.depthAll (ns.map PyData.int) = 0
  | [] => by simp [PyData.depthAll]
  | n :: ns => by simp [PyData.depthAll, PyData.depth, dep_ints ns]
theorem sh_il (ns : List Int) : SeqAt.shaped (.list (ns.map PyData.int)) = true := by
  simp [SeqAt.shaped, PyData.canLay0, PyData.depth, canL_ints, dep_ints]
theorem sh_it (ns : List Int) : SeqAt.shaped (.tuple (ns.map PyData.int)) = true := by
  simp [SeqAt.shaped, PyData.canLay0, PyData.depth, canL_ints, dep_ints]
theorem eqv_ints : ∀ ns ms : List Int, PyData.eqvAll (ns.map PyData.int) (ms.map PyData.int) = decide (ns = ms) := fun ns ms => PySem.W.eqvAll_map ns ms
theorem eqv_il (ns ms : List Int) : PyData.eqv (.list (ns.map PyData.int)) (.list (ms.map PyData.int)) = decide (ns = ms) := by
  rw [PyData.eqv]
  exact eqv_ints ns ms
theorem eqv_it (ns ms : List Int) : PyData.eqv (.tuple (ns.map PyData.int)) (.tuple (ms.map PyData.int)) = decide (ns = ms) := by
  rw [PyData.eqv]
  exact eqv_ints ns ms
end
/-! ### comprehensions whose element is told item by item -/
section
variable {K : PySem.W.Frag} {σ : L2.St} {H H' : Hp} {ta tb te tc : TE} {t u : TT} {x y z v : V} {a : Addr} {xs : List V} {D : Ends} {tu tz : TS} {g : TG}
theorem et_yes : EvT tYes σ H true := fun H1 _ Q q => q H1 (Ex.refl H1)
theorem given_all (n : Nat) (v : Nat → V) : given n (fun _ => true) v = (List.range n).map v := by
  unfold given
  rw [List.filter_eq_self.mpr (fun _ _ => rfl)]
theorem given_list (ys : List V) : given ys.length (fun _ => true) (fun i => ys.getD i .non) = ys := by
  rw [given_all]
  apply List.ext_getElem
  · rw [List.length_map, List.length_range]
  · intro i h1 h2
    rw [List.getElem_map, List.getElem_range, List.getD_eq_getElem?_getD, List.getElem?_eq_getElem h2]
    rfl
theorem getD_at {ys : List V} {i : Nat} (h : i < ys.length) : ys[i]? = some (ys.getD i .non) := by
  rw [List.getD_eq_getElem?_getD, List.getElem?_eq_getElem h]
  rfl
theorem el_mapL {tl : TE} {j : Nat} {vs : List Nat} (ys : List V) (h : Ev tl σ H (.ref a)) (hx : SqL K H a xs) (hl : ys.length = xs.length) (hz : xs.length ≤ 40000) (hw : ∀ x, wipe ((wipe σ vs).set j (some x)) vs = wipe σ vs)
    (he : ∀ (i : Nat) (x y : V) H1, Ex H H1 → xs[i]? = some x → ys[i]? = some y → Ev te ((wipe σ vs).set j (some x)) H1 y) : EvL (tLc (iList K tl) (gName j) tYes te vs) σ H ys := by
  have h0 := el_lcL (K := K) (te := te) (fun _ => true) (fun i => ys.getD i .non) h hx hz hw (fun _ _ _ _ _ => et_yes) (fun i x H1 e hi _ => he i x _ H1 e hi (getD_at (by rw [hl]; exact (List.getElem?_eq_some_iff.mp hi).1)))
  rw [← hl, given_list] at h0
  exact h0
theorem el_mapNL {tl : TE} {j : Nat} {vs : List Nat} (ys : List V) (h : EvL tl σ H xs) (hl : ys.length = xs.length) (hz : xs.length ≤ 40000) (hw : ∀ x, wipe ((wipe σ vs).set j (some x)) vs = wipe σ vs)
    (he : ∀ (i : Nat) (x y : V) H1, Ex H H1 → xs[i]? = some x → ys[i]? = some y → Ev te ((wipe σ vs).set j (some x)) H1 y) : EvL (tLc (iList K tl) (gName j) tYes te vs) σ H ys := by
  have h0 := el_lcNL (K := K) (te := te) (fun _ => true) (fun i => ys.getD i .non) h hz hw (fun _ _ _ _ _ => et_yes) (fun i x H1 e hi _ => he i x _ H1 e hi (getD_at (by rw [hl]; exact (List.getElem?_eq_some_iff.mp hi).1)))
  rw [← hl, given_list] at h0
  exact h0
theorem el_lcT {tl : TE} {j : Nat} {vs : List Nat} (f : Nat → Bool) (v : Nat → V) (h : Ev tl σ H (.ref a)) (hx : SqT K H a xs) (hz : xs.length ≤ 40000) (hw : ∀ x, wipe ((wipe σ vs).set j (some x)) vs = wipe σ vs)
    (ht : ∀ (i : Nat) (x : V) H1, Ex H H1 → xs[i]? = some x → EvT t ((wipe σ vs).set j (some x)) H1 (f i)) (he : ∀ (i : Nat) (x : V) H1, Ex H H1 → xs[i]? = some x → f i = true → Ev te ((wipe σ vs).set j (some x)) H1 (v i)) :
    EvL (tLc (iTup K tl) (gName j) t te vs) σ H (given xs.length f v) := fun H0 e Q q => h H0 e _ fun H1 e1 => ⟨a, rfl, ⟨xs, ex_t (e.trans e1) hx⟩, fun Dl hD =>
  lc_tup (xs := xs) (Cw H1 f v Dl) ⟨hD, Ex.new hD, upd_same⟩ (fun i H' _ p => ex_t ((e.trans e1).trans p.2.1) hx) (fun i x H' hi p => ⟨hw x, cw_turn p (by have := (List.getElem?_eq_some_iff.mp hi).1; omega) (ht i x H1 (e.trans e1) hi) (fun hf => he i x H1 (e.trans e1) hi hf)⟩)
    (fun H' p => q Dl H' (fresh_back e1 p.1) (e1.trans p.2.1) p.2.2)⟩
theorem el_mapT {tl : TE} {j : Nat} {vs : List Nat} (ys : List V) (h : Ev tl σ H (.ref a)) (hx : SqT K H a xs) (hl : ys.length = xs.length) (hz : xs.length ≤ 40000) (hw : ∀ x, wipe ((wipe σ vs).set j (some x)) vs = wipe σ vs)
    (he : ∀ (i : Nat) (x y : V) H1, Ex H H1 → xs[i]? = some x → ys[i]? = some y → Ev te ((wipe σ vs).set j (some x)) H1 y) : EvL (tLc (iTup K tl) (gName j) tYes te vs) σ H ys := by
  have h0 := el_lcT (K := K) (te := te) (fun _ => true) (fun i => ys.getD i .non) h hx hz hw (fun _ _ _ _ _ => et_yes) (fun i x H1 e hi _ => he i x _ H1 e hi (getD_at (by rw [hl]; exact (List.getElem?_eq_some_iff.mp hi).1)))
  rw [← hl, given_list] at h0
  exact h0
/-! ### while by a word and a number that falls; two names stored at once; a pair taken apart -/
theorem s_whl (W : Nat → L2.St → Hp → Prop) (m0 : Nat) (h0 : W m0 σ H)
    (hs : ∀ m σ' H', W m σ' H' → ∃ b, EvT t σ' H' b ∧ (b = true → ∀ H1, Ex H' H1 → tu { D with nx := fun σ2 H2 => ∃ m', m' < m ∧ W m' σ2 H2, ct := fun σ2 H2 => ∃ m', m' < m ∧ W m' σ2 H2, bk := D.nx } σ' H1) ∧ (b = false → ∀ H1, Ex H' H1 → D.nx σ' H1)) : tWhile t tu D σ H :=
  s_while W m0 h0 fun m σ' H' hw => by
    obtain ⟨b, hb, h1, h2⟩ := hs m σ' H' hw
    exact ⟨b, hb, fun e H1 e1 => ⟨_, fun _ _ h => h, h1 e H1 e1⟩, h2⟩
theorem q_whl (W : Nat → L2.St → Hp → Prop) (m0 : Nat) (h0 : W m0 σ H)
    (hs : ∀ m σ' H', W m σ' H' → ∃ b, EvT t σ' H' b ∧ (b = true → ∀ H1, Ex H' H1 → tu { D with nx := fun σ2 H2 => ∃ m', m' < m ∧ W m' σ2 H2, ct := fun σ2 H2 => ∃ m', m' < m ∧ W m' σ2 H2, bk := tz D } σ' H1) ∧ (b = false → ∀ H1, Ex H' H1 → tz D σ' H1)) : tSeq (tWhile t tu) tz D σ H :=
  s_whl (D := { D with nx := tz D }) W m0 h0 hs
theorem s_par {i j : Nat} {w : V} (ha : Ev ta σ H v) (hb : Ev tb σ H w) (k : ∀ H1, Ex H H1 → D.nx ((σ.set i (some v)).set j (some w)) H1) : tPar i j (tCons ta (tCons tb tNil)) D σ H :=
  ha H (Ex.refl H) _ fun H1 e1 => hb H1 e1 _ fun H2 e2 => ⟨v, w, rfl, k H2 (e1.trans e2)⟩
theorem q_par {i j : Nat} {w : V} (ha : Ev ta σ H v) (hb : Ev tb σ H w) (k : ∀ H1, Ex H H1 → tz D ((σ.set i (some v)).set j (some w)) H1) : tSeq (tPar i j (tCons ta (tCons tb tNil))) tz D σ H :=
  s_par (D := { D with nx := tz D }) ha hb k
theorem g_tup2 {i j : Nat} {w : V} {p : Addr} {Q : L2.St → Hp → Prop} (h : SqT K H p [v, w]) (q : Q ((σ.set i (some v)).set j (some w)) H) : gTup K 2 (gCons (gName i) (gCons (gName j) gNil)) (.ref p) σ H Q :=
  ⟨p, [v, w], rfl, h, rfl, v, [w], rfl, w, [], rfl, rfl, q⟩
/-- a, b = e, e a tuple that is read, or a new one -/
theorem q_tup2 {i j : Nat} {w : V} {p : Addr} (h : Ev te σ H (.ref p)) (hp : SqT K H p [v, w]) (k : ∀ H1, Ex H H1 → tz D ((σ.set i (some v)).set j (some w)) H1) : tSeq (tAsg te (gTup K 2 (gCons (gName i) (gCons (gName j) gNil)))) tz D σ H :=
  h H (Ex.refl H) _ fun H1 e => g_tup2 (ex_t e hp) (k H1 e)
theorem q_tup2N {i j : Nat} {w : V} (h : EvU te σ H [v, w]) (k : ∀ H1, Ex H H1 → tz D ((σ.set i (some v)).set j (some w)) H1) : tSeq (tAsg te (gTup K 2 (gCons (gName i) (gCons (gName j) gNil)))) tz D σ H :=
  h H (Ex.refl H) _ fun p H1 _ e h1 => g_tup2 (st_of h1) (k H1 e)
def RetU (xs : List V) (H : Hp) (Q : VK) : Prop := ∀ p H2, H p = none → Ex H H2 → H2 p = some (.tup xs) → Q (.ref p) H2
theorem RetU.go {Q : VK} (k : RetU xs H Q) (e : Ex H H') {p : Addr} {H2 : Hp} (hp : H' p = none) (e2 : Ex H' H2) (h : H2 p = some (.tup xs)) : Q (.ref p) H2 := k p H2 (fresh_back e hp) (e.trans e2) h
end
theorem small_nn {n : Nat} (h : n ≤ 100000) : n ≤ sizeLine := sz_of h
/-- a list that was new is changed: what was known ahead stays; tuples stay -/
theorem sqT_mut {K : PySem.W.Frag} {H : Hp} {l t : Addr} {xs ys : List V} {o : HO} (hl : H l = some (.lst xs)) (h : SqT K H t ys) : SqT K (upd H l o) t ys := by
  rcases h with (h | ⟨u, h⟩) | h
  · exact .inl (.inl (by rw [upd_ne (ne_of h hl (by intro z; cases z))]; exact h))
  · exact .inl (.inr ⟨u, by rw [upd_ne (ne_of h hl (by intro z; cases z))]; exact h⟩)
  · exact .inr h
theorem nat_of {z : Int} (h : 0 ≤ z) : ∃ n : Nat, z = (n : Int) := Int.eq_ofNat_of_zero_le h
end Sv

set_option Elab.async false
set_option linter.all false
set_option maxRecDepth 100000
set_option maxHeartbeats 4000000
/-! SvHot: what a def does that is called while an exception is handled: the end of a list's walk, sum, [int(x) for x in ..], isinstance of that exception. -/
namespace Sv
open PySem PySem.Spec PyProof.Rows L2 Evl HotX L2H
section
variable {prog : Program} {w : World} {A : Around} {E : Value → Shared → Prop} {s : Shared}
theorem next_end_hot {it l x1 : Addr} {i : Nat} {items : Array Value} {Q : Option Value → Shared → Prop} (hot : HotAt A x1 s.heap) (hne : x1 ≠ it) (hit : s.heap.IsListIter it l i) (hl : s.heap.IsList l items) (hx : items[i]? = none)
    (hQ : ∀ h', Heap.ExtBut it s.heap h' → Q none { s with heap := h' }) : wpAny (model prog w) A (pyNext (.ref it)) Q E s := by
  obtain ⟨o, ho, hc, hd⟩ := id hit
  obtain ⟨ol, hol, _, nl, hdl⟩ := hl
  obtain ⟨hh, o1, vs1, k1, d1, c1⟩ := hot
  unfold pyNext
  refine wpAny_bind (wpAny_attempt (wpAny_callSpecial?_slot (name := Str.ofString "__next__") hit.typeIs slot_listiter_next
    (wpAny_call_entry slot_listiter_next hit.typeIs entry_listiter_next ?g0 (args_listiter_next _))))
  show wpAny _ _ (field (.ref it) 0 >>= _) _ _ s
  refine wpAny_bind (wpAny_field ho hd (x := .ref l) rfl ?g1)
  show wpAny _ _ (if (Value.ref l == Value.none) = true then _ else _) _ _ s
  rw [if_neg (show ¬ ((Value.ref l == Value.none) = true) from Bool.false_ne_true)]
  show wpAny _ _ (field (.ref it) 1 >>= _) _ _ s
  refine wpAny_bind (wpAny_field ho hd (x := .int i 0) rfl ?g2)
  show wpAny _ _ (seqItems? (.ref l) >>= _) _ _ s
  refine wpAny_bind (wpAny_seqItems hol hdl ?g3)
  simp only [Int.toNat_natCast, hx]
  refine wpAny_bind (wpAny_rule (wpAny_bind (wpAny_setField ho hd (by simp) ?g4)))
  show wpAny _ _ (newExc (.type "StopIteration") [] >>= _) _ _ _
  refine wpAny_bind ?g5
  simp only [newExc, newTuple]
  refine wpAny_bind (wpAny_newObj_type ?g6 (by size_fits))
  refine wpAny_bind (m := firstArgMember _ _) (wpAny_of_eq (a := Value.none) (by first | rfl | (simp only [firstArgMember]; rfl)) ?g7)
  refine wpAny_newObj_type ?g8 (by size_fits)
  refine raiseNew_hot ⟨hh, o1, vs1, Heap.get?_push_of_some _ (Heap.get?_push_of_some _ ((Heap.SameBut.update ..).extBut _ _ hne k1)), d1, c1⟩ (Nat.ne_of_lt (Heap.lt_size (Heap.get?_push_of_some _ ((Heap.SameBut.update ..).extBut _ _ hne k1)))) (Heap.get?_push_size _ rfl) rfl (by first | (simp; done) | (simp; omega)) ?g9
  refine wpAny_bind (wpAny_isInstance (T := "StopIteration") (b := true) ⟨_, Heap.get?_update_self _ (Heap.get?_push_size _ rfl) rfl, rfl⟩ isSubtype_stop ?g10)
  refine wpAny_pure (hQ _ fun b ob hb e => ?g11)
  have e1 := Heap.get?_push_of_some { cls := .type "tuple", data := .seq #[] } ((Heap.SameBut.update (h := s.heap) (a := it) (f := Obj.mapFields (·.setIfInBounds 0 Value.none))).extBut b ob hb e)
  rw [Heap.get?_update_other _ _ (Nat.ne_of_gt (Heap.lt_size e1))]
  exact Heap.get?_push_of_some _ e1
theorem walks_hot {I ax x1 : Addr} {oe : Obj} {vs : Array Value} (hh : A.handled = some (.ref x1)) (d1 : oe.data = .fields vs) (c1 : vs[2]? = some .none) (hne : ax ≠ I) (hn1 : x1 ≠ I) (items : Array Value) :
    Walks prog w A I [I, ax, x1] [I] items.size (fun i v => items[i]? = some v) (fun i h => h.IsListIter I ax i ∧ h.IsList ax items ∧ h.get? x1 = some oe) where
  sub := fun b hb => by
    rw [List.mem_singleton.mp hb]
    exact List.mem_cons_self
  frame := fun i h h' st hk => ⟨st.1.at fun o e => hk I (by simp) o e, st.2.1.at fun o e => hk ax (by simp) o e, hk x1 (by simp) _ st.2.2⟩
  item := fun i s Q E hi st hQ => by
    refine wpAny_pyNext_list_item st.1 st.2.1 (x := items[i]) (by simp [hi]) fun h' hit' hs' => ?_
    refine hQ _ h' s.toks (by simp [hi]) ⟨hit', st.2.1.extBut hs'.extBut hne, hs'.extBut _ _ hn1 st.2.2⟩ fun b o hb e => ?_
    exact hs'.extBut b o (fun z => hb (by rw [z]; exact List.mem_cons_self)) e
  done := fun s Q E st hQ => next_end_hot ⟨hh, oe, vs, st.2.2, d1, c1⟩ hn1 st.1 st.2.1 (by simp) fun h' he' => hQ h' s.toks fun b o hb e => he' b o (fun z => hb (by rw [z]; exact List.mem_cons_self)) e
  self := fun _ _ _ _ st hQ => wpAny_pyIter_listiter st.1 hQ
theorem goes_hot {target : Expr} {I ax x1 : Addr} {oe : Obj} {vs : Array Value} (hh : A.handled = some (.ref x1)) (d1 : oe.data = .fields vs) (c1 : vs[2]? = some .none) (hne : ax ≠ I) (hn1 : x1 ≠ I) (items : Array Value) :
    Goes prog w A target I [I, ax, x1] [I] items.size (fun i v _ => items[i]? = some v) (fun i h => h.IsListIter I ax i ∧ h.IsList ax items ∧ h.get? x1 = some oe) :=
  Goes.ofWalks (walks_hot hh d1 c1 hne hn1 items) fun i v s Q E (st : s.heap.IsListIter I ax i ∧ s.heap.IsList ax items ∧ s.heap.get? x1 = some oe) q => by
    obtain ⟨o, ho, hc, hd⟩ := st.1
    exact letGo_of_cls ho hc hd (by decide) q
/-- sum of a list of ints, an exception handled -/
theorem sum_hot {l x1 : Addr} {xs : Array (Int × Tok)} {oe : Obj} {vs : Array Value} {Q : Value → Shared → Prop} (hh : A.handled = some (.ref x1)) (h1 : s.heap.get? x1 = some oe) (d1 : oe.data = .fields vs) (c1 : vs[2]? = some .none) (hl : s.heap.IsList l (intItems xs))
    (h : ∀ h' tk t', (∀ b o, s.heap.get? b = some o → h'.get? b = some o) → Q (.int (preSum (numAt xs) xs.size) t') { s with heap := h', toks := tk }) : wpAny (model prog w) A (call (.builtin "sum") [.ref l]) Q E s := by
  refine call_sum_walkG (iter_intList hl fun s₂ e st hfp hlI => ?_)
  subst e
  have hx1 := Heap.lt_size h1
  have k1 := Heap.get?_push_of_some { cls := .type "list_iterator", data := .fields #[.ref l, .int 0 0] } h1
  refine ⟨_, _, _, _, _, _, numAt xs, rfl, walks_hot (A := A.in1) (oe := oe) hh d1 c1 hlI (Nat.ne_of_lt hx1) (intItems xs), ⟨st.1, st.2, k1⟩, fun b hb => ?_, (fun _ _ => intItems_at), fun h' tk t' hk => ?_⟩
  · rcases List.mem_cons.mp hb with z | z
    · exact hfp b (by rw [z]; exact List.mem_cons_self)
    · rcases List.mem_cons.mp z with z | z
      · exact hfp b (by rw [z]; exact List.mem_cons_of_mem _ List.mem_cons_self)
      · rw [List.mem_singleton.mp z]
        exact Heap.lt_size k1
  · have := h h' tk t' (old_kept hk)
    simpa [intItems] using this
end
section
variable {X : Cx}
theorem hotGet {pins : List (Addr × Obj)} {σ : L2.St} {H : Hp} {s : Shared} (c : HotC X) (I : L2.Inv X pins σ H s) : ∃ (x1 : Addr) (oe : Obj) (vs : Array Value), X.A.handled = some (.ref x1) ∧ s.heap.get? x1 = some oe ∧ oe.data = .fields vs ∧ vs[2]? = some .none := by
  obtain ⟨x1, hh, oe, vs, h1, d1, c1⟩ := c.at I
  exact ⟨x1, oe, vs, hh, h1, d1, c1⟩
theorem cr_sumH (hc : HotC X) : CallR X (.builtin "sum") (rSum X.K) := by
  intro pins s σ H vs us Q I r h
  obtain ⟨a, ns, rfl, hs, q⟩ := h
  obtain ⟨its, rv, hl, _⟩ := I.list hs
  obtain ⟨x1, oe, ws, hh, h1, d1, c1⟩ := hotGet hc I
  rw [Vals.ref1 r]
  obtain ⟨xs, e⟩ := rv.ints.allInts.items
  have hn : numsOf (intItems xs).toList = ns := by
    rw [← e]
    exact rv.ints.numsOf
  rw [nums_intItems] at hn
  have hl' := hl.isList
  rw [e] at hl'
  refine sum_hot hh h1 d1 c1 hl' fun h' tk t' hk => ?_
  rw [preSum_eq, List.take_of_length_le (by simp), hn]
  exact ⟨.int _, H, I.kept hk, ⟨_, rfl⟩, q⟩
/-- isinstance(e, c), e the exception that is handled -/
theorem call_isP {a C : Addr} {oe : Obj} (hp : (a, oe) ∈ X.pn) (T : ExcC X.K C) (hz : Zc (.ref C) none oe) (hf : ∃ vs, oe.data = .fields vs) : CallR X (.builtin "isinstance") (rIsE X.K C a) := by
  intro pins s σ H xs us Q I r h
  obtain ⟨c, cv, b, rfl, hcv, e, q⟩ := h
  obtain ⟨u1, u2, rfl, r1, r2⟩ := Vals.two r
  cases r1
  rw [hcv _ r2]
  have hget := (I.pin (a, oe) (List.mem_append_left _ hp)).1
  obtain ⟨vs, hv⟩ := hf
  have J : PySem.W.InstAt s.heap a oe C none := by
    obtain ⟨oc, od, oda, osl⟩ := oe
    obtain ⟨z1, z2⟩ := hz
    dsimp only at z1 z2 hv
    subst z1 z2 hv
    exact ⟨hget, rfl, rfl, trivial⟩
  exact PySem.W.kia_one (PySem.W.handS_kitx_exc T.hg T.hk T.hs T.hd T.ha T.hn T.ht T.hm) I.kIn J e (fun z => nomatch z) fun tk => ⟨.bl b, H, I.kept (t' := tk) fun _ _ z => z, rfl, q⟩
/-- [int(v) for v in ..] over truth values -/
def tIntsH (K : PySem.W.Frag) (te : TE) : TE := fun σ H Q => te σ H fun x H1 => ∃ (a : Addr) (bs : List Bool), x = .ref a ∧ SqL K H1 a (bs.map V.bl) ∧ ∀ D, H1 D = none → Q (.ref D) (upd H1 D (.lst (bs.map fun b => .int (if b then 1 else 0))))
theorem arith1 {b N C D : Nat} (hb : b < N ∨ b = C) (hC : N + 1 ≤ C) (hD : N + 1 ≤ D) (h : D ≠ C) : ¬ (b = D ∨ b = N) := by omega
theorem arith2 {b N C : Nat} (hb : b < N + 1) (hC : N + 1 ≤ C) : b ≠ C := by omega
theorem pe_intsH {v : Str} {iter : Expr} {te : TE} {scope : Scope} {p1 p2 p3 p4 pos : Pos} (hc : HotC X) (hi : PE X iter te) (hclos : closureFor scope X.env = pure []) (hcell : ∀ y ∈ scope.names, y.2 ≠ .cell) (hkind : scope.kind = .function)
    (hnames : ∀ y ∈ scope.names, y.2 = .local → scope.names.lookup y.1 = some .local) (hv : scope.names.lookup v = some .local) (hint : ∀ C, (compEnvC scope [] C X.env).kindOf ("int" : Str) = some .globalImplicit) (hm : X.mg "int" = none) (hdv : (v == ("__debug__" : Str)) = false)
    (hs : ∀ x, foldedSetIterable iter X.env x = pure x := by intro _; rfl) : PE X (.ListComp (.Call (.Name "int" p1) [.Name v p2] [] p3) [⟨.Name v p4, iter, [], 0⟩] scope pos) (tIntsH X.K te) := by
  refine ⟨fun pins s σ H Q I h => ?_⟩
  refine ListComp_goes hclos hcell hkind hnames (thn (hi.run pins s σ H _ I h) fun u s1 ⟨x, H1, I1, r1, a, bs, ex, hS, q⟩ => ?_) hs
  subst ex
  cases r1
  obtain ⟨its, rv, hl, hz⟩ := I1.list hS
  obtain ⟨x1, oe, vs1, hh, h1, d1, c1⟩ := hotGet hc I1
  have ei : its = bs.map Value.bool := Vals.bls rv
  have hlt : a < s1.heap.objs.size := by
    obtain ⟨o, ho, _⟩ := hl.isList
    exact Heap.lt_size ho
  have hx1 := Heap.lt_size h1
  have hsz := rv.length
  refine wpAny_pyIter_list hl.isList ?_
  refine ⟨_, _, _, _, _, _, rfl, goes_hot hh d1 c1 (Nat.ne_of_lt hlt) (Nat.ne_of_lt hx1) its.toArray, by rw [List.size_toArray]; omega, ⟨⟨_, Heap.get?_push_size _ rfl, rfl, rfl⟩, hl.isList.push _, Heap.get?_push_of_some _ h1⟩, fun b hb => ?_, fun D C s₃ hB => ?_⟩
  · show b < (s1.heap.push _).objs.size
    rw [Heap.size_push]
    have hb : b = s1.heap.objs.size ∨ b = a ∨ b = x1 := by simpa using hb
    rcases hb with z | z | z
    · rw [z]
      exact Nat.lt_succ_self _
    · rw [z]
      exact Nat.lt_succ_of_lt hlt
    · rw [z]
      exact Nat.lt_succ_of_lt hx1
  obtain ⟨⟨h₃, tk₃, rfl⟩, old, nD, nC, hDC, hnm⟩ := hB
  have nC' : (s1.heap.objs.size + 1 : Nat) ≤ C := by
    have q : (s1.heap.push { cls := .type "list_iterator", data := .fields #[.ref a, .int 0 0] }).objs.size ≤ C := nC
    rw [Heap.size_push] at q
    exact q
  have nD' : (s1.heap.objs.size + 1 : Nat) ≤ D := by
    have q : (s1.heap.push { cls := .type "list_iterator", data := .fields #[.ref a, .int 0 0] }).objs.size ≤ D := nD
    rw [Heap.size_push] at q
    exact q
  have hDC' : (D : Nat) ≠ C := hDC
  have kv : (compEnvC scope [] C X.env).kindOf v = some .local := lookup_relabel_local hv
  have hp : ((compEnvC scope [] C X.env).scope.kind == .class || ((compEnvC scope [] C X.env).scope.kind == .module && (compEnvC scope [] C X.env).locals != (compEnvC scope [] C X.env).globals)) = false := by
    show (scope.kind == .class || (scope.kind == .module && _)) = false
    rw [hkind]
    rfl
  refine ⟨fun i ys s2 => ∃ h' tk m, s2 = { s1 with heap := h', toks := tk } ∧ h'.Ns C m ∧ Vals ((bs.take i).map fun b => V.int (if b then 1 else 0)) ys ∧ ∀ b o, s1.heap.get? b = some o → h'.get? b = some o,
    ⟨h₃, tk₃, _, rfl, hnm, .nil, fun b o e => old b o (Heap.get?_push_of_some _ e)⟩, ?_, ?_, ?_⟩
  · rintro i ys s2 h' tk ⟨h₄, tk₄, m, rfl, n₄, e₄, k₄⟩ hk' _
    have off : ∀ b : Addr, (b < s1.heap.objs.size ∨ b = C) → b ∉ D :: [s1.heap.objs.size] := fun b hb hm => arith1 hb nC' nD' hDC' (by simpa using hm)
    exact ⟨h', tk, m, rfl, n₄.at' fun o e => hk' _ o (off _ (.inr rfl)) e, e₄, fun b o e => hk' b o (off _ (.inl (Heap.lt_size e))) (k₄ b o e)⟩
  · rintro i u ys s2 hi2 hu st ⟨h₄, tk₄, m, rfl, n₄, e₄, k₄⟩ hpl
    have hub : ∃ b, bs[i]? = some b ∧ u = Value.bool b := by
      have hu2 : its[i]? = some u := by simpa using hu
      rw [ei, List.getElem?_map] at hu2
      cases hb : bs[i]? with
      | none =>
        rw [hb] at hu2
        cases hu2
      | some b =>
        rw [hb] at hu2
        exact ⟨b, rfl, (Option.some.inj hu2).symm⟩
    obtain ⟨b, hb, rfl⟩ := hub
    refine wpAny_assign_Name (wpAny_storeName_local kv n₄ (fun h₅ n₅ s₅ => ?_) hp)
    refine wpAny_tests_nil ?_
    have offC : ∀ b : Addr, b < s1.heap.objs.size + 1 → b ≠ C := fun b hb => arith2 hb nC'
    have keep : ∀ b o, s1.heap.get? b = some o → h₅.get? b = some o := fun b o e => s₅.extBut b o (offC b (Nat.lt_succ_of_lt (Heap.lt_size e))) (k₄ b o e)
    have kb : ∀ b o, X.base.get? b = some o → h₅.get? b = some o := fun b o e => keep b o (I1.bk b o e)
    obtain ⟨mb, b1, b2⟩ := I1.mod.blt
    refine wpAny_Call_Name_kw (Calls.Name_function_global hkind (hint C) (Calls.loadGlobal_builtin (mg := X.mg) (mb := mb) (v := .type "int") ?_ hm ?_ ((b2 _ (by decide)).trans (by decide +kernel)) ?_))
    · show h₅.Ns X.env.globals X.mg
      rw [I1.ok.glob]
      exact I1.mod.glob.keeps kb
    · show h₅.Ns X.env.builtins mb
      rw [I1.ok.blt]
      exact b1.keeps kb
    refine PyProof.Rows.callWith_type1 ?_ (by rfl) (by rfl)
    show wpAny _ _ (spliced ((false, eval (.Name v p2) (compEnvC scope [] C X.env)) :: backTo p3 (starEach [] (compEnvC scope [] C X.env)))) _ _ _
    refine Calls.spliced_cons ?_
    rw [eval_Name _ _ _ hdv]
    refine wpAny_bind (wpAny_standAt (wpAny_loadName_local hkind kv n₅ (v := .bool b) (if_pos rfl) ?_))
    refine Calls.spliced_nil ?_
    refine call_int_bool ⟨⟨h₅, _, _, rfl, n₅, ?_, keep⟩, ⟨st.1.at fun o e => s₅.extBut _ o (offC _ (Nat.lt_succ_self _)) e, st.2.1.at fun o e => s₅.extBut _ o (offC _ (Nat.lt_succ_of_lt hlt)) e, s₅.extBut _ _ (offC _ (Nat.lt_succ_of_lt hx1)) st.2.2⟩, hpl.at fun o e => s₅.extBut _ o hDC e⟩
    rw [List.take_add_one, hb, List.map_append]
    exact e₄.append (.cons ⟨_, rfl⟩ .nil)
  · rintro ys s2 ⟨h₄, tk₄, m, rfl, n₄, e₄, k₄⟩ hpl
    refine ⟨m, n₄, fun h' hs' => ?_⟩
    have keep : ∀ b o, s1.heap.get? b = some o → h'.get? b = some o := fun b o e => hs'.extBut b o (arith2 (Nat.lt_succ_of_lt (Heap.lt_size e)) nC') (k₄ b o e)
    have hD0 : s1.heap.objs.size ≤ D := Nat.le_trans (Nat.le_succ _) nD'
    have e5 : (bs.take its.toArray.size) = bs := List.take_of_length_le (by rw [ei]; simp)
    rw [e5] at e₄
    obtain ⟨n, hn⟩ := hpl.extBut hs'.extBut hDC
    refine ⟨.ref D, _, I1.laid (t' := tk₄) (o := .lst (bs.map fun b => V.int (if b then 1 else 0))) keep hD0 ⟨?_, ys, n, e₄, hn⟩, rfl, q D (I1.hok.fresh hD0)⟩
    rw [List.length_map] at hz ⊢
    exact hz
end
end Sv

set_option Elab.async false
set_option linter.all false
set_option maxRecDepth 100000
set_option maxHeartbeats 4000000
/-! SvWord: a def that is called in an except suite with the exception itself (_law_word); try: return deed() / except X as e: return word(e), where deed is a lambda of the caller's (_law_told). -/
namespace Sv
open PySem PySem.Spec PyProof.Rows L2 Evl HotX L2H LamX
/-- the body of a def, entered while p's exception is handled -/
theorem hot_body {CT : CXT} {P : Program} {w : World} {K : PySem.W.Frag} {mg : Str → Option Value} {base : Heap} {j : Nat} {g : Addr} {x : Str} {prs : Arguments} {sts : List Stmt} {sco : Scope} {v1 v2 v3 v4 v5 v6 v7 : Value} {a1 a2 : Option Addr}
    {slo : Array (Option Value)} {N ps : List Str} (look : K.lookup g = some ⟨v7, a1, .func (PySem.W.fnOf x x prs sts sco v1 v2 v3 v4 a2 v5 v6), slo⟩) (code : PySem.W.codeIn K v5 x = true) (F : FnScope N ps sco)
    {A : Around} {outer : List Env} {s : Shared} {H : Hp} {args : Args} {us : List Value} {vs : List V} {Q : VK} {E : XK} {p : Addr × Obj} (room : RoomH (j + 1) A) (pin : PinOk outer H s p) (env0 : Env0 P w K mg base A outer s H)
    (bind : BindsTo s (PySem.W.fnOf x x prs sts sco v1 v2 v3 v4 a2 v5 v6) args (ps.zip us)) (rel : Vals vs us) (many : vs.length = ps.length)
    (bd : RoomH j (A.deeper (envOfC x sco s.heap.objs.size g v5)) → ∃ t, PSs (cxH CT P w K mg base N x sco g v5 A outer s H E p) sts t ∧ t (dn Q) (L2.start N vs) H) :
    codeAny (model P w) A (.call (.ref g) args) (CR CT outer P w H s Q E) s := by
  have inK : K.In s.heap := env0.mod.kin.keeps fun b o z => (env0.bs b o z).1
  have noL : s.heap.NoLimit := env0.mod.nolimit.keeps fun b o z => (env0.bs b o z).1
  have kinds : ∀ y ∈ ps.zip us, sco.names.lookup y.1 = some .local ∨ (sco.names.lookup y.1 = some .cell ∧ ((cellsFrom (s.heap.objs.size + 1) sco.names []).lookup y.1).isSome = true) := fun ⟨n, v⟩ hy =>
    (F.par n (List.of_mem_zip hy).1).elim .inl fun q => .inr ⟨q, PySem.W.cellsFrom_some _ _ _ (.inl q)⟩
  refine codeAny_call_function room.depth (inK _ _ look) rfl F.co F.gen rfl (PySem.W.codeRec_of inK code) (bind _ _ _ _ ?_)
  refine wpAny_newFunctionEnv_cells F.kind kinds fun env ee s1 ic => ?_
  subst ee
  refine ⟨noL.keeps ic.toInCall.keep, codeAny_func ?_⟩
  obtain ⟨t, hd, ht⟩ := bd (room.deeper _)
  have J0 : L2.Inv (cxH CT P w K mg base N x sco g v5 A outer s H E p) [] (L2.start N vs) H s1 := inv_startH F pin env0 many rel ic
  refine wpAny_mono (hd.run [] s1 (L2.start N vs) H _ J0 ht) (fun fl s2 q => ?_) fun _ _ q => q
  cases fl with
  | ret u =>
    obtain ⟨v, σ', H', J, rv, z⟩ := q
    exact ⟨v, H', J.os, J.bare, J.base, J.hok, rv, z⟩
  | next =>
    obtain ⟨σ', H', J, z⟩ := q
    exact ⟨.non, H', J.os, J.bare, J.base, J.hok, rfl, z⟩
  | brk =>
    obtain ⟨_, _, _, z⟩ := q
    exact z.elim
  | cont =>
    obtain ⟨_, _, _, z⟩ := q
    exact z.elim
/-- word(e), e the exception that is handled, of the class at C: the text nm where W C nm -/
structure WordOk (P : Program) (w : World) (K : PySem.W.Frag) (mg : Str → Option Value) (base : Heap) (j : Nat) (x a : Str) (W : Addr → Str → Prop) : Prop where
  ex : ∃ (g : Addr) (fd : FuncData), mg x = some (.ref g) ∧ PySem.W.keepIn K (.ref g) = true ∧ Binds K fd [a] [] ∧
    ∀ (A : Around) (outer : List Env) (s : Shared) (H : Hp) (args : Args) (Q : VK) (p : Addr × Obj) (C : Addr) (nm : Str), RoomH j A → Hot1 A p → PinOk outer H s p → Env0 P w K mg base A outer s H → BindsTo s fd args (([a] : List Str).zip [.ref p.1]) →
      Zc (.ref C) none p.2 → W C nm → (∀ H', Ex H H' → Q (.str nm) H') → codeAny (model P w) A (.call (.ref g) args) (CR (CXN P w) outer P w H s Q E0) s
theorem mk_word {P : Program} {w : World} {K : PySem.W.Frag} {mg : Str → Option Value} {base : Heap} {j : Nat} {x a : Str} {st : Stmt} {N : List Str} {W : Addr → Str → Prop} (D : DefAt K mg x st) (F : FnScope N [a] (defScope st))
    (hb : ∀ (kV doc pm : Value) (an : Option Addr) (cdv ct : Value) (us : List Value), us.length = 1 → bindArgs (PySem.W.fnOf x x (defArgs st) (defBody st) (defScope st) .none kV doc pm an cdv ct) ⟨us, []⟩ = pure (([a] : List Str).zip us))
    (t : Addr → Addr → TS) (hp : ∀ (e C : Addr) (nm : Str) (H : Hp) (Q : VK), W C nm → (∀ H', Ex H H' → Q (.str nm) H') → t e C (dn Q) (L2.start N [.ref e]) H)
    (hd : ∀ (g : Addr) (cdv : Value) (A : Around) (outer : List Env) (s : Shared) (H : Hp) (p : Addr × Obj) (C : Addr), (∃ nm, W C nm) → Hot1 A p → RoomH j (A.deeper (envOfC x (defScope st) s.heap.objs.size g cdv)) → Zc (.ref C) none p.2 →
      PSs (cxH (CXN P w) P w K mg base N x (defScope st) g cdv A outer s H E0 p) (defBody st) (t p.1 C)) : WordOk P w K mg base (j + 1) x a W := by
  obtain ⟨g, fd, Fn, hm⟩ := D.ex
  obtain ⟨oc, od, kV, doc, pm, an, cdv, ct, osl, rfl, lk, hcd⟩ := Fn.ex
  refine ⟨g, _, hm, Fn.kp, Fn.binds hb, fun A outer s H args Q p C nm room hot pin env0 bind z hw q => ?_⟩
  exact hot_body lk hcd F (vs := [.ref p.1]) (us := [.ref p.1]) room pin env0 bind (.cons rfl .nil) rfl fun rm => ⟨_, hd g cdv A outer s H p C ⟨nm, hw⟩ hot rm z, hp p.1 C nm H Q hw q⟩
section
variable {X : Cx}
/-- a call of such a def in the suite that holds the exception in slot i -/
def tWord (W : Addr → Str → Prop) (a C : Addr) (i : Nat) : TE := fun σ H Q => σ[i]? = some (some (.ref a)) ∧ ∃ nm, W C nm ∧ ∀ H', Ex H H' → Q (.str nm) H'
theorem pe_word {j k i : Nat} {x b y : Str} {W : Addr → Str → Prop} {C : Addr} {pp : Addr × Obj} {p1 p2 pos : Pos} (F : WordOk X.prog X.w X.K X.mg X.base j x b W) (hot : Hot1 X.A pp) (hpn : pp ∈ X.pn) (hr : RoomH k X.A) (hk : j ≤ k) (hz : Zc (.ref C) none pp.2)
    (hg : Gl X x) (hv : PE X (.Name y p2) (tVar i)) (hdb : (x == ("__debug__" : Str)) = false := by decide) :
    PE X (.Call (.Name x p1) [.Name y p2] [] pos) (tWord W pp.1 C i) := by
  obtain ⟨g, fd, hm, hkp, hb, run⟩ := F.ex
  refine ⟨fun pins s σ H Q I h => ?_⟩
  obtain ⟨hs, nm, hw, q⟩ := h
  refine wpAny_Call_Name_kw (ld_glob I hg hm ?_ hdb)
  refine PySem.W.callWith_K (h₀ := X.base) I.ok.mod.kin hkp ?_ (by rfl) (by rfl)
  have ha : PA X [.Name y p2] (tCons (tVar i) tNil) := pa_cons hv pa_nil
  refine thn (ha.run pos pins s σ H (fun vs H1 => vs = [.ref pp.1] ∧ H1 = H) I ⟨_, hs, rfl, rfl⟩) fun us s1 ⟨vs, H1, I1, r1, e1, e2⟩ => ⟨I1.kIn, ?_⟩
  subst e1
  subst e2
  obtain ⟨u, rfl, r2⟩ := Vals.one r1
  cases r2
  have P1 := I1.pin pp (List.mem_append_left _ hpn)
  have pin : PinOk X.stack H1 s1 pp := ⟨P1.1, P1.2.1, fun hm => (List.mem_cons.mp (I1.stkSub pp.1 hm)).elim P1.2.2.1 P1.2.2.2.1, P1.2.2.2.2⟩
  refine wpAny_call (codeAny_mono (run X.A X.stack s1 H1 ⟨[.ref pp.1], []⟩ Q pp C nm (hr.mono hk) hot pin I1.env0 (hb s1 [.ref pp.1] I1.kIn rfl) hz hw q) fun r s2 z => ?_)
  cases r with
  | error e => exact psn pins σ H1 s1 e s2 I1 z
  | ok fl =>
    cases fl with
    | ret u => exact I1.after z
    | next => exact False.elim z
    | brk => exact False.elim z
    | cont => exact False.elim z
end
end Sv

set_option Elab.async false
set_option linter.all false
set_option maxRecDepth 100000
set_option maxHeartbeats 4000000
/-! SvTold: told(lambda: body), where told is: try: return deed() / except S as e: return word(e). -/
namespace Sv
open PySem PySem.Spec PyProof.Rows L2 Evl HotX L2H LamX
/-- the context of the lambda's body, what it raises told with its context -/
abbrev lamN (X : Cx) (A : Around) (outer : List Env) (s : Shared) (H : Hp) (E : XK) (scope : Scope) (f c' : Addr) : Cx :=
  (lamCx X A outer s H E scope f c').wish fun e s' => wpAny (model X.prog X.w) (A.deeper (lamEnv X scope s.heap.objs.size f c')) (leaving (lamEnv X scope s.heap.objs.size f c') e) (fun _ s2 => L2N.CX X.prog X.w outer H s E e s2) (fun e' s2 => L2N.CX X.prog X.w outer H s E e' s2) s'
theorem takesN0 {X : Cx} : L2N.Takes X (fun _ _ _ _ => False) := fun _ _ x => by
  obtain ⟨_, _, _, _, _, _, _, _, _, _, _, _, _, _, _, _, z⟩ := x
  exact z.elim
section
variable {X : Cx} {pins : List (Addr × Obj)} {σ : L2.St} {H : Hp} {s : Shared}
/-- deed(), in the body of told -/
theorem actN {E0' : XK} {Nz : List Str} {qz : Str} {sz : Scope} {z f c' : Addr} {cdz pm ctv : Value} {prs : Arguments} {body : Expr} {scope : Scope} {j i : Nat} {a : Str} {pn : List (Addr × Obj)} {xe : Value → Shared → Prop} {W : WX} {E : XK} {tb : TE} {p1 p2 : Pos}
    (I : L2.Inv X pins σ H s) (L : LamS X.env.scope scope) (obj : s.heap.get? f = some (PySem.W.kla_obj "<lambda>" (X.env.qual ++ "<lambda>") prs body scope (cloFrom X.env.cells scope.names []) pm c' ctv)) (fNo : H f = none) (fFr : f ∉ frs X.stack)
    (bnd : bindArgs (PySem.W.kla_fn "<lambda>" (X.env.qual ++ "<lambda>") prs body scope (cloFrom X.env.cells scope.names []) pm (.ref c') ctv) ⟨[], []⟩ = pure [])
    (tk : L2N.Takes ((cxOf (CXN X.prog X.w) X.prog X.w X.K X.mg X.base Nz qz sz z cdz X.A X.stack s H E0').tr pn xe) W) (room : Room (j + 1) (X.A.deeper (envOfC qz sz s.heap.objs.size z cdz)))
    (bd : ∀ (A : Around) (outer : List Env) (s : Shared) (H : Hp), Room j (A.deeper (lamEnv X scope s.heap.objs.size f c')) → PE (lamN X A outer s H E scope f c') body tb)
    (hN : Nz[i]? = some a) (hv : Vis sz a) (hd : (a == ("__debug__" : Str)) = false := by decide) (hcd : (a == ("__classdict__" : Str)) = false := by decide) :
    PE ((cxOf (CXN X.prog X.w) X.prog X.w X.K X.mg X.base Nz qz sz z cdz X.A X.stack s H E0').tr pn xe) (.Call (.Name a p1) [] [] p2)
      (fun σZ HZ Q => σZ[i]? = some (some (.ref f)) ∧ HZ c' = some (CodeO c' (X.env.qual ++ "<lambda>")) ∧ (∀ cls d H', E cls d H' → W cls d σZ H') ∧ tb σ HZ Q) := by
  refine ⟨fun pz sZ σZ HZ Q IZ h => ?_⟩
  obtain ⟨slot, codeH, hW, ht⟩ := h
  refine wpAny_Call_Name_kw (thn ((pe_var (pos := p1) (i := i) hN hv hd hcd).run pz sZ σZ HZ (fun v H1 => v = .ref f ∧ H1 = HZ) IZ ⟨.ref f, slot, rfl, rfl⟩) fun u s1 ⟨v, H1, I1, r1, e1, e2⟩ => ?_)
  subst e1
  subst e2
  cases r1
  have obj1 : s1.heap.get? f = some (PySem.W.kla_obj "<lambda>" (X.env.qual ++ "<lambda>") prs body scope (cloFrom X.env.cells scope.names []) pm c' ctv) := I1.base.keep f _ obj fNo fFr (fun q => nomatch (show f ∈ ([] : List Addr) from q))
  refine PySem.W.callWith_F0 ⟨_, _, _, _, obj1⟩ ?_
  have un : Un (frs X.stack) [] H H1 s.heap s1.heap := I1.base
  obtain ⟨⟨oc, vs, t, hoc, hdc, hvc⟩, _, _⟩ := I1.hok c' _ codeH
  have rc : codeAny (model X.prog X.w) (X.A.deeper (envOfC qz sz s.heap.objs.size z cdz)) (.call (.ref f) ⟨[], []⟩) (CR (CXN X.prog X.w) (envOfC qz sz s.heap.objs.size z cdz :: X.stack) X.prog X.w H1 s1 Q E) s1 := by
    refine PySem.W.kla_callFunE room.depth obj1 rfl L.co L.gen rfl ⟨c', oc, vs, t, rfl, hoc, hdc, hvc⟩ ?_
    rw [bnd]
    refine wpAny_pure (wpAny_newFunctionEnv (fun y hy => (L.own y hy).2) (fun y hy => absurd hy (by simp)) (fun h₁ names grown => ⟨I1.nolimit.fresh _ grown, ?_⟩) L.kind)
    have kp : ∀ b o, s1.heap.get? b = some o → h₁.get? b = some o := fun b o e => grown.extBut b o (Nat.ne_of_lt (Heap.lt_size e)) (Heap.get?_push_of_some _ e)
    have J := (lam_start2 (E := E) (c' := c') (f := f) (tk := s1.toks + ([] : List (Str × Value)).length) I L I1.env0 room.hd un names kp).wish (lamN X (X.A.deeper (envOfC qz sz s.heap.objs.size z cdz)) (envOfC qz sz s.heap.objs.size z cdz :: X.stack) s1 H1 E scope f c').xe
    refine PySem.W.kla_codeExpr (wpAny_mono ((bd _ _ s1 H1 (room.deeper _)).run [] _ _ H1 Q J ht) (fun v s' q => ?_) fun e s' q => q)
    obtain ⟨w', H', J', rv, q⟩ := q
    exact ⟨w', H', J'.os, J'.bare, J'.base, J'.hok, rv, q⟩
  refine wpAny_call (codeAny_mono rc fun r s' q => ?_)
  cases r with
  | error e => exact tk e s' (L2N.XE.of_call I1 hW q)
  | ok fl =>
    cases fl with
    | ret u => exact I1.after q
    | next => exact False.elim q
    | brk => exact False.elim q
    | cont => exact False.elim q
end
/-- try: return deed() / except S as e: return word(e) -/
abbrev toldB (p1 p2 p3 p4 p5 p6 p7 p8 p9 p10 : Pos) : List Stmt :=
  [.Try [.Return (some (.Call (.Name "_law_deed" p1) [] [] p2)) p3] [.ExceptHandler (some (.Name "SieveError" p4)) (some "_law_e") [.Return (some (.Call (.Name "_law_word" p5) [.Name "_law_e" p6] [] p7)) p8] p9] [] [] p10]
/-- what the text's told is -/
structure ToldAt (P : Program) (w : World) (K : PySem.W.Frag) (mg : Str → Option Value) (base : Heap) (S : Addr) (j : Nat) (W : Addr → Str → Prop) (st : Stmt) : Prop where
  dat : DefAt K mg "_law_told" st
  sco : FnScope ["_law_deed", "_law_e"] ["_law_deed"] (defScope st)
  loc : (defScope st).names.lookup ("_law_e" : Str) = some .local
  loc0 : (defScope st).names.lookup ("_law_deed" : Str) = some .local
  gS : (defScope st).names.lookup ("SieveError" : Str) = some .globalImplicit
  gW : (defScope st).names.lookup ("_law_word" : Str) = some .globalImplicit
  bdy : ∃ p1 p2 p3 p4 p5 p6 p7 p8 p9 p10, defBody st = toldB p1 p2 p3 p4 p5 p6 p7 p8 p9 p10
  bnd : ∀ (kV doc pm : Value) (an : Option Addr) (cdv ct : Value) (us : List Value), us.length = 1 → bindArgs (PySem.W.fnOf "_law_told" "_law_told" (defArgs st) (defBody st) (defScope st) .none kV doc pm an cdv ct) ⟨us, []⟩ = pure ((["_law_deed"] : List Str).zip us)
  wrd : WordOk P w K mg base j "_law_word" "_law_e" W
  mS : mg "SieveError" = some (.ref S)
  exm : ∀ C nm, W C nm → PySem.W.exmOne K (.ref C) (.ref S) = some true
/-- what is wanted of an exception of the deed -/
def ET (W : Addr → Str → Prop) (Q : VK) : XK := fun cls d H => ∃ (C : Addr) (nm : Str), cls = .ref C ∧ d = none ∧ W C nm ∧ ∀ H', Ex H H' → Q (.str nm) H'
/-- told(lambda: body) -/
def tTold (T : List (Addr × Str)) (W : Addr → Str → Prop) (t : XK → TE) : TE := fun σ H Q => Tabs T H ∧ ∀ H1, ExtN H H1 → Tabs T H1 → t (ET W Q) σ H1 Q
section
variable {X : Cx}
theorem pe_told {T : List (Addr × Str)} {S : Addr} {j k : Nat} {W : Addr → Str → Prop} {st : Stmt} {c Pt : Addr} {prs : Arguments} {body : Expr} {scope : Scope} {t : XK → TE} {p lpos pos : Pos} (TD : ToldAt X.prog X.w X.K X.mg X.base S j W st) (hg : Gl X "_law_told")
    (TB : TabB X.base X.mg c Pt) (hcode : X.env.code = .ref c) (hmT : (Pt, X.env.qual ++ "<lambda>") ∈ T) (hu : ∀ p ∈ T, p.1 = Pt → p.2 = X.env.qual ++ "<lambda>") (hr : Room (k + 2) X.A) (hjk : j ≤ k + 1) (L : LamS X.env.scope scope) (hdef : defaultsOf prs X.env = ([], []))
    (hbind : ∀ (q : Str) (cl : List (Str × Addr)) (pm cv ctv : Value), bindArgs (PySem.W.kla_fn "<lambda>" q prs body scope cl pm cv ctv) ⟨[], []⟩ = pure [])
    (bd : ∀ (A : Around) (outer : List Env) (s : Shared) (H : Hp) (E : XK) (f c' : Addr), Room k (A.deeper (lamEnv X scope s.heap.objs.size f c')) → PE (lamN X A outer s H E scope f c') body (t E)) :
    PE X (.Call (.Name "_law_told" p) [.Lambda prs body scope lpos] [] pos) (tTold T W t) := by
  obtain ⟨g, fd, Fn, hm⟩ := TD.dat.ex
  obtain ⟨oc, od, kV, doc, pm0, an, cdv, ct, osl, rfl, lk, hcd⟩ := Fn.ex
  obtain ⟨q1, q2, q3, q4, q5, q6, q7, q8, q9, q10, eb⟩ := TD.bdy
  refine ⟨fun pins s σ H Q I h => ?_⟩
  obtain ⟨hT, h⟩ := h
  refine wpAny_Call_Name_kw (ld_glob I hg hm ?_)
  refine PySem.W.callWith_K (h₀ := X.base) I.ok.mod.kin Fn.kp ?_ (by rfl) (by rfl)
  show wpAny _ _ (spliced ((false, eval (.Lambda prs body scope lpos) X.env) :: backTo pos (starEach [] X.env))) _ _ s
  refine Calls.spliced_cons (lam_make2 I TB hcode hmT hu hT hdef (L.has I.ok) fun f c' pm' ctv H1 s' I1 eN T1 obj fNo fFr hco => ?_)
  refine Calls.spliced_nil ⟨I1.kIn, ?_⟩
  have rc : codeAny (model X.prog X.w) X.A (.call (.ref g) ⟨[.ref f], []⟩) (CR (CXN X.prog X.w) X.stack X.prog X.w H1 s' Q E0) s' := by
    refine run_ofS (CX := CXN X.prog X.w) (N := ["_law_deed", "_law_e"]) (ps := ["_law_deed"]) (us := [.ref f]) (vs := [.ref f]) lk hcd TD.sco hr I1.env0 ((Fn.binds (ps := ["_law_deed"]) TD.bnd) s' [.ref f] I1.kIn rfl) (.cons rfl .nil) rfl fun hr' => ?_
    rw [eb]
    have hd : (cxOf (CXN X.prog X.w) X.prog X.w X.K X.mg X.base ["_law_deed", "_law_e"] "_law_told" (defScope st) g cdv X.A X.stack s' H1 E0).A = X.A.deeper (envOfC "_law_told" (defScope st) s'.heap.objs.size g cdv) := rfl
    have nm : Names (cxOf (CXN X.prog X.w) X.prog X.w X.K X.mg X.base ["_law_deed", "_law_e"] "_law_told" (defScope st) g cdv X.A X.stack s' H1 E0) "SieveError" (.ref S) := ⟨TD.gS, by decide, .inl TD.mS⟩
    refine ⟨_, pss_one (L2N.ps_try_as (X := cxOf (CXN X.prog X.w) X.prog X.w X.K X.mg X.base ["_law_deed", "_law_e"] "_law_told" (defScope st) g cdv X.A X.stack s' H1 E0) (i := 1) (Wout := fun _ _ _ _ => False)
      (tb := fun W' D σ' H' => ∃ Ech : XK, (∀ cls d H2, Ech cls d H2 → W' cls d σ' H2) ∧ σ'[0]? = some (some (.ref f)) ∧ H' c' = some (CodeO c' (X.env.qual ++ "<lambda>")) ∧ t Ech σ H' D.rt)
      (ts := fun a cls d D σ' H' => ∃ (C : Addr) (nm : Str), cls = .ref C ∧ d = none ∧ W C nm ∧ σ'[1]? = some (some (.ref a)) ∧ ∀ H2, Ex H' H2 → D.rt (.str nm) H2)
      rfl rfl TD.sco.nd rfl TD.loc nm takesN0 (fun W' pn xe tk _ => ?_) (fun a oe cls d pn hz hf => ?_)), ?_⟩
    · refine ⟨fun pz s2 σ' H' D I2 h' => ?_⟩
      obtain ⟨Ech, hW, h1, h2, h3⟩ := h'
      have hp := actN (i := 0) (E := Ech) (p1 := q1) (p2 := q2) I1 L obj fNo fFr (hbind _ _ _ _ _) tk hr' (fun A outer s H hr2 => bd A outer s H Ech f c' hr2) rfl (Or.inl TD.loc0)
      exact (pss_one (ps_ret (pos := q3) hp)).run pz s2 σ' H' D I2 ⟨h1, h2, hW, h3⟩
    · refine ⟨fun pz s2 σ' H' D I2 h' => ?_⟩
      obtain ⟨C, nm, rfl, rfl, hw, h1, h2⟩ := h'
      obtain ⟨vs, hvs⟩ := hf
      have hot : Hot1 (Cx.suite (cxOf (CXN X.prog X.w) X.prog X.w X.K X.mg X.base ["_law_deed", "_law_e"] "_law_told" (defScope st) g cdv X.A X.stack s' H1 E0) a ((a, oe) :: pn)).A (a, oe) := ⟨rfl, vs, hvs, hz.2.2 vs hvs⟩
      have hrm : RoomH (k + 1) (Cx.suite (cxOf (CXN X.prog X.w) X.prog X.w X.K X.mg X.base ["_law_deed", "_law_e"] "_law_told" (defScope st) g cdv X.A X.stack s' H1 E0) a ((a, oe) :: pn)).A := ⟨hr'.dp, hr'.un⟩
      have hpe := pe_word (X := Cx.suite (cxOf (CXN X.prog X.w) X.prog X.w X.K X.mg X.base ["_law_deed", "_law_e"] "_law_told" (defScope st) g cdv X.A X.stack s' H1 E0) a ((a, oe) :: pn)) (i := 1) (p1 := q5) (p2 := q6) (pos := q7) (C := C) TD.wrd hot List.mem_cons_self hrm hjk ⟨hz.1, hz.2.1⟩ TD.gW (pv 1 rfl (Or.inl TD.loc))
      exact (pss_one (ps_ret (pos := q8) hpe)).run pz s2 σ' H' D I2 ⟨h1, nm, hw, h2⟩
    · refine ⟨ET W Q, fun cls d H2 ⟨C, nm, e1, e2, hw, q⟩ => ⟨true, ?_, fun _ a _ => ⟨C, nm, e1, e2, hw, rfl, q⟩, fun z => (by cases z)⟩, rfl, hco, h H1 eN T1⟩
      rw [e1]
      exact TD.exm C nm hw
  refine wpAny_call (codeAny_mono rc fun r s2 q => ?_)
  cases r with
  | error e => exact psn pins σ H1 s' e s2 I1 q
  | ok fl =>
    cases fl with
    | ret u => exact I1.after q
    | next => exact False.elim q
    | brk => exact False.elim q
    | cont => exact False.elim q
end
end Sv
namespace Sv
open PySem PySem.Spec PyProof.Rows L2 Evl LamX
/-! ### defs that make lambdas: their code object is told -/
structure FunC (K : PySem.W.Frag) (x qual : Str) (st : Stmt) (f : Addr) (fd : FuncData) (c : Addr) : Prop where
  ex : ∃ (oc : Value) (od : Option Addr) (kV doc pm : Value) (an : Option Addr) (ct : Value) (osl : Array (Option Value)),
    fd = PySem.W.fnOf x qual (defArgs st) (defBody st) (defScope st) .none kV doc pm an (.ref c) ct ∧ K.lookup f = some ⟨oc, od, .func fd, osl⟩ ∧ PySem.W.codeIn K (.ref c) qual = true
  kp : PySem.W.keepIn K (.ref f) = true
structure DefAtC (K : PySem.W.Frag) (mg : Str → Option Value) (x : Str) (st : Stmt) (c : Addr) : Prop where
  ex : ∃ (f : Addr) (fd : FuncData), FunC K x x st f fd c ∧ mg x = some (.ref f)
section
variable {P : Program} {w : World} {K : PySem.W.Frag} {mg : Str → Option Value} {base : Heap} {CT : CXT} {x : Str} {st : Stmt} {N ps : List Str} {k : Nat} {sp : Sp} {c : Addr}
theorem funC_mk {f : Addr} {od an : Option Addr} {sl : Array (Option Value)} {oc kV dc pm ct : Value} (l : K.lookup f = some ⟨oc, od, .func (PySem.W.fnOf x x (defArgs st) (defBody st) (defScope st) .none kV dc pm an (.ref c) ct), sl⟩)
    (cd : PySem.W.codeIn K (.ref c) x = true) (kp : PySem.W.keepIn K (.ref f) = true) : FunC K x x st f (PySem.W.fnOf x x (defArgs st) (defBody st) (defScope st) .none kV dc pm an (.ref c) ct) c := ⟨⟨_, _, _, _, _, _, _, _, rfl, l, cd⟩, kp⟩
theorem mk_fnC {f : Addr} {fd : FuncData} (F : FunC K x x st f fd c) (S : FnScope N ps (defScope st)) (len : ∀ vs H Q E, sp vs H Q E → vs.length = ps.length) (t : XK → TS) (hp : ∀ vs H Q E, sp vs H Q E → t E (dn Q) (start N vs) H)
    (hd : ∀ (A : Around) (outer : List Env) (s : Shared) (H : Hp) (E : XK), Room k (A.deeper (envOfC x (defScope st) s.heap.objs.size f (.ref c))) → PSs (cxOf CT P w K mg base N x (defScope st) f (.ref c) A outer s H E) (defBody st) (t E)) :
    FnOk P w K mg base CT (k + 1) f fd ps sp := by
  obtain ⟨oc, od, kV, doc, pm, an, ct, osl, rfl, lk, hcd⟩ := F.ex
  exact fn_of lk hcd S len fun A outer s H vs Q E hr hsp => ⟨t E, hd A outer s H E hr, hp vs H Q E hsp⟩
theorem mk_okC (D : DefAtC K mg x st c) (S : FnScope N ps (defScope st))
    (hb : ∀ (kV doc pm : Value) (an : Option Addr) (cdv ct : Value) (us : List Value), us.length = ps.length → bindArgs (PySem.W.fnOf x x (defArgs st) (defBody st) (defScope st) .none kV doc pm an cdv ct) ⟨us, []⟩ = pure (ps.zip us))
    (len : ∀ vs H Q E, sp vs H Q E → vs.length = ps.length) (t : XK → TS) (hp : ∀ vs H Q E, sp vs H Q E → t E (dn Q) (start N vs) H)
    (hd : ∀ (f : Addr) (A : Around) (outer : List Env) (s : Shared) (H : Hp) (E : XK), Room k (A.deeper (envOfC x (defScope st) s.heap.objs.size f (.ref c))) → PSs (cxOf CT P w K mg base N x (defScope st) f (.ref c) A outer s H E) (defBody st) (t E)) :
    Ok P w K mg base CT (k + 1) x ps sp := by
  obtain ⟨f, fd, F, hm⟩ := D.ex
  obtain ⟨oc, od, kV, doc, pm, an, ct, osl, rfl, lk, hcd⟩ := F.ex
  exact ⟨f, _, fn_of lk hcd S len fun A outer s H vs Q E hr hsp => ⟨t E, hd f A outer s H E hr, hp vs H Q E hsp⟩, hm, F.kp, .all (hb kV doc pm an (.ref c) ct)⟩
end
/-- the table of code objects of the def nm is empty at h -/
def TabOf (K : PySem.W.Frag) (mg : Str → Option Value) (h : Heap) (nm : Str) : Prop := ∀ (g c Pt : Addr) (o : Obj) (fd : FuncData) (e : Value) (dd : Option Addr) (vs : Array Value) (sl : Array (Option Value)),
  mg nm = some (.ref g) → K.lookup g = some o → o.data = .func fd → fd.code = .ref c → K.lookup c = some ⟨e, dd, .fields vs, sl⟩ → vs[11]? = some (.ref Pt) → h.get? Pt = some { cls := .none, data := .fields #[] }
/-- what the law gets: the script, its tables -/
def LawR (G : Pm) (T : List (Addr × Str)) : R1 := fun v H Q _ => ∃ (a : Addr) (ns : List Int), v = .ref a ∧ SqL G.K H a (ns.map V.int) ∧ ns.length ≤ 63 ∧ (∀ z ∈ ns, Builtin.Int.intBits z ≤ 1048576) ∧ Tabs T H ∧ ∀ H', Q (.bl true) H'
theorem walk_told {l : PySem.W.OpenLaw} {k : Nat} {q : Program} {loose : List Str} {XP : (Str → Option Value) → Heap → Prop} {YP : World → Heap → Prop} {d : DefRec} {K : Params → PySem.W.Frag} {x : Str}
    (hn : l.most = some 63) (hdf : d.params.defaults = []) (hr : Room k callerA) (hY : ∀ (w : World) (h : Heap), YP w h → (K w.params).In h)
    (F : ∀ (w : World) (mg : Str → Option Value) (fa : Addr) (h : Heap), (K w.params).In h → h.Ns mainGlobals mg → mg d.name = some (.ref fa) → (∀ nm, ((recsOf q).any fun e => e.name == nm) = true → TabOf (K w.params) mg h nm) →
      ∃ (G : Pm) (fd : FuncData) (cs : List (Addr × Addr × Str)), G.K = K w.params ∧ (∀ p ∈ cs, h.get? p.2.1 = some { cls := .none, data := .fields #[] }) ∧ (∀ p ∈ cs, G.K.lookup p.2.1 = none) ∧ (∀ p ∈ cs, PySem.W.CodeHd h p.1 p.2.1) ∧
        (∀ (s : Shared) (u : Value), BindsTo s fd ⟨[u], []⟩ [(x, u)]) ∧
        ∀ base : Heap, G.K.In base → base.Ns mainGlobals mg → (∀ p ∈ cs, TabB base mg p.1 p.2.1) → FnOk l.prog w G.K mg base (CXN l.prog w) k fa fd [x] (sp1 (LawR G (cs.map fun p => p.2)))) :
    PySem.W.WalkO q loose XP YP l.row.toRowW d [] (fun f vs => PySem.call f vs) := by
  refine Att.attach_callB hn hdf fun w s₀ s₁ mg mb fa o pm cd doc a vs ns B Y ho hd hcd hmg hobj hints hlen hbits hg => ?_
  have KX := hY w _ Y
  have tabs : ∀ nm, ((recsOf q).any fun e => e.name == nm) = true → TabOf (K w.params) mg s₁.heap nm := fun nm hr g c Pt o1 fd1 e dd ws sl k0 k1 k2 k3 k4 k5 => by
    obtain ⟨dL, hm, hn1⟩ := List.any_eq_true.mp hr
    have hn2 : dL.name = nm := beq_iff_eq.mp hn1
    obtain ⟨a', o', fd', c', P', h1, h2, h3, h4, h5, h6⟩ := B.T.tab dL hm
    rw [hn2, k0] at h1
    cases h1
    rw [KX _ _ k1] at h2
    cases h2
    rw [k2] at h3
    cases h3
    rw [k3] at h4
    cases h4
    obtain ⟨⟨oc, vc, e1, _, e3, e4⟩, hP⟩ := h6
    rw [KX _ _ k4] at e1
    cases e1
    cases e3
    rw [k5] at e4
    cases e4
    exact hP
  obtain ⟨G, fd, cs, eG, hT, nT, C, hb, hF⟩ := F w mg fa _ KX B.T.g hmg tabs
  have mem : ∀ p ∈ cs.map (fun p => (p.1, p.2.1)), ∃ r ∈ cs, p = (r.1, r.2.1) := fun p hp => by
    obtain ⟨r, hr, e⟩ := List.mem_map.mp hp
    exact ⟨r, hr, e.symm⟩
  refine law_callTs (K := G.K) (cs := cs.map fun p => (p.1, p.2.1)) (by rw [eG]; exact KX) B.T.g B.T.b B.T.builtins B.T.nolimit hg ?_ ?_ ?_ B.T.bmain hobj hints (Nat.le_trans hlen (by decide)) hr (fun base h1 h2 h3 => hF base h1 h2 fun p hp => h3 _ (List.mem_map.mpr ⟨p, hp, rfl⟩)) hb (fun H hH hS => ⟨a, ns, rfl, hS, hlen, hbits, fun p hp => ?_, fun _ => rfl⟩) ?_
  · intro p hp
    obtain ⟨r, hr, rfl⟩ := mem p hp
    exact hT r hr
  · intro p hp
    obtain ⟨r, hr, rfl⟩ := mem p hp
    exact nT r hr
  · intro p hp
    obtain ⟨r, hr, rfl⟩ := mem p hp
    exact C r hr
  · obtain ⟨r, hr, rfl⟩ := List.mem_map.mp hp
    exact TabS.nil (hH (r.1, r.2.1) (List.mem_map.mpr ⟨r, hr, rfl⟩))
  · intro H e s' z
    obtain ⟨_, _, _, _, _, _, _, _, _, _, _, _, y⟩ := z
    exact y
end Sv

set_option Elab.async false
set_option linter.all false
set_option maxRecDepth 100000
set_option maxHeartbeats 4000000
/-! SvErr: the program's own errors, looked at as a whole: one equation that the kernel decides. -/
namespace Sv
open PySem PySem.Spec PyProof.Rows L2 Evl LamX
def errOk (K : PySem.W.Frag) (S c : Addr) : Bool :=
  PySem.W.excIn K c [.type "ValueError", .type "Exception", .type "BaseException", .type "object"] "ValueError.__new__" && (PySem.W.keepIn K (.ref c) && (decide (PySem.W.subIn K (.ref c) (.type "BaseException") = some true) && (decide (PySem.W.typeIn K (.ref c) = some (.type "type")) &&
  (decide (PySem.W.findIn K (.ref c) "__getattribute__" = some (some (.builtin "BaseException.__getattribute__"))) && (decide (PySem.W.findIn K (.ref c) "__getattr__" = some none) && (PySem.W.hasDictIn K c && (decide (PySem.W.findIn K (.ref c) "__class__" = some (some (.builtin "object.__class__"))) &&
  (decide (PySem.W.specialIn K (.builtin "object.__class__") "__get__" = some (some (.builtin "getset_descriptor.__get__"))) && (decide (PySem.W.takesIn K (.builtin "object.__class__") = some true) && (decide (PySem.W.mroIn K c (.type "object") = some true) &&
  (decide (PySem.W.kitOne K (.ref c) (.type "ValueError") = some true) && decide (PySem.W.exmOne K (.ref c) (.ref S) = some true))))))))))))
def errsB (K : PySem.W.Frag) (S : Addr) (cs : List Addr) : Bool := cs.all (errOk K S) && ((cs.all fun c => cs.all fun d => decide (PySem.W.kitOne K (.ref c) (.ref d) = some (decide (c = d)))) && decide cs.Nodup)
structure ErrX (K : PySem.W.Frag) (S c : Addr) : Prop where
  xC : PySem.W.excIn K c [.type "ValueError", .type "Exception", .type "BaseException", .type "object"] "ValueError.__new__" = true
  kC : PySem.W.keepIn K (.ref c) = true
  bC : PySem.W.subIn K (.ref c) (.type "BaseException") = some true
  tC : PySem.W.typeIn K (.ref c) = some (.type "type")
  ex : ExcC K c
  ve : PySem.W.kitOne K (.ref c) (.type "ValueError") = some true
  ma : PySem.W.exmOne K (.ref c) (.ref S) = some true
theorem errX_of {K : PySem.W.Frag} {S c : Addr} (h : errOk K S c = true) : ErrX K S c := by
  unfold errOk at h
  simp only [Bool.and_eq_true, decide_eq_true_eq] at h
  obtain ⟨h1, h2, h3, h4, h5, h6, h7, h8, h9, h10, h11, h12, h13⟩ := h
  exact ⟨h1, h2, h3, h4, ⟨h5, h6, h3, h7, h8, h9, h10, h11⟩, h12, h13⟩
structure ErrsOk (K : PySem.W.Frag) (S : Addr) (cs : List Addr) : Prop where
  one : ∀ c ∈ cs, ErrX K S c
  two : ∀ c ∈ cs, ∀ d ∈ cs, PySem.W.kitOne K (.ref c) (.ref d) = some (decide (c = d))
  nd : cs.Nodup
theorem errsOk_of {K : PySem.W.Frag} {S : Addr} {cs : List Addr} (h : errsB K S cs = true) : ErrsOk K S cs := by
  unfold errsB at h
  simp only [Bool.and_eq_true, List.all_eq_true, decide_eq_true_eq] at h
  exact ⟨fun c hc => errX_of (h.1 c hc), h.2.1, h.2.2⟩
theorem ErrX.at {K : PySem.W.Frag} {S c : Addr} {mg : Str → Option Value} {x : Str} (h : ErrX K S c) (g : mg x = some (.ref c)) : ErrAt K mg x c := ⟨g, h.xC, h.kC, h.bC, h.tC⟩
section
variable {K : PySem.W.Frag} {σ : L2.St} {H : Hp} {ta tb : TE} {C D e l : Addr} {b : Bool} {xs ys : List V}
theorem ev_isE {i : Nat} (h : σ[i]? = some (some (.ref e))) (k : PySem.W.kitOne K (.ref C) (.ref D) = some b) : Ev (tCB (rIsE K C e) (tCons (tVar i) (tCons (tC (.ref D)) tNil))) σ H (.bl b) :=
  ev_cb (ea_cons (ev_var h) (ea_cons ev_c ea_nil)) fun H1 _ Q q => ⟨.ref D, .ref D, b, rfl, fun u r => r, k, q H1 (Ex.refl H1)⟩
theorem ev_isET {i : Nat} {n : String} (h : σ[i]? = some (some (.ref e))) (k : PySem.W.kitOne K (.ref C) (.type n) = some b) : Ev (tCB (rIsE K C e) (tCons (tVar i) (tCons (tC (.ty n)) tNil))) σ H (.bl b) :=
  ev_cb (ea_cons (ev_var h) (ea_cons ev_c ea_nil)) fun H1 _ Q q => ⟨.ty n, .type n, b, rfl, fun u r => r, k, q H1 (Ex.refl H1)⟩
/-- xs + ys, a list that is tracked and a new one -/
theorem el_cat (ha : Ev ta σ H (.ref l)) (hl : H l = some (.lst xs)) (hb : EvL tb σ H ys) (hz : xs.length + ys.length ≤ 100000) : EvL (tOp rCat ta tb) σ H (xs ++ ys) :=
  fun H1 ex Q q => ha H1 ex _ fun H2 e2 => hb H2 (ex.trans e2) _ fun p H3 _ e3 h3 => ⟨l, p, xs, ys, rfl, rfl, (ex.trans (e2.trans e3)) l _ hl, h3, sz_of hz, fun r hr => q r _ (fresh_back (e2.trans e3) hr) ((e2.trans e3).trans (Ex.new hr)) upd_same⟩
theorem el_intsH {bs : List Bool} (ha : Ev ta σ H (.ref l)) (hl : SqL K H l (bs.map V.bl)) : EvL (tIntsH K ta) σ H (bs.map fun b => V.int (if b then 1 else 0)) :=
  fun H1 ex Q q => ha H1 ex _ fun H2 e2 => ⟨l, bs, rfl, ex_l (ex.trans e2) hl, fun D hD => q D _ (fresh_back e2 hD) (e2.trans (Ex.new hD)) upd_same⟩
theorem ev_sumB {bs : List Bool} (ha : EvL ta σ H (bs.map fun b => V.int (if b then 1 else 0))) : Ev (tCB (rSum K) (tCons ta tNil)) σ H (.int ((bs.map fun b => (if b then 1 else 0 : Int)).sum)) :=
  ev_sumN (ns := bs.map fun b => (if b then 1 else 0 : Int)) (el_eq ha (by rw [List.map_map]; rfl))
/-- flags.index(True) -/
theorem ev_idx {bs : List Bool} {j : Nat} (ha : Ev ta σ H (.ref l)) (hl : SqL K H l (bs.map V.bl)) (h1 : bs[j]? = some true) (h2 : ∀ m, m < j → bs[m]? = some false) : Ev (tBM K "list" (rIndex K) ta (tCons (tC (.bl true)) tNil)) σ H (.int (j : Int)) :=
  fun H1 ex Q q => ha H1 ex _ fun H2 e2 => ⟨.inl ⟨rfl, _, ex_l (ex.trans e2) hl⟩, l, bs.map V.bl, .bl true, j, .bl true, rfl, rfl, ex_l (ex.trans e2) hl, rfl, by rw [List.all_map]; exact List.all_eq_true.mpr fun _ _ => rfl, by rw [List.getElem?_map, h1]; rfl, rfl, fun m z' hm hz => by
    rw [List.getElem?_map, h2 m hm] at hz
    rw [← Option.some.inj hz]
    rfl, q H2 e2⟩
end
end Sv

set_option Elab.async false
set_option linter.all false
set_option maxRecDepth 100000
set_option maxHeartbeats 4000000
/-! SvNx: what is known goes on past what is told (NX); lists repeated, put end to end; calls that hand lists back. -/
namespace Sv
open PySem PySem.Spec PyProof.Rows L2 Evl HotX L2H LamX
section
variable {K : PySem.W.Frag} {σ : L2.St} {H H' H1 H2 : Hp} {ta tb te tc : TE} {x y z v : V} {a p : Addr} {xs ys : List V} {T : List (Addr × Str)} {D : Ends} {tz : TS} {W : Addr → Str → Prop} {t : XK → TE} {Q : VK}
abbrev rIsBl : R2 := fun x y H Q => ∃ a b, x = .bl a ∧ y = .bl b ∧ Q (.bl (decide (a = b))) H
abbrev rNotBl : R2 := fun x y H Q => ∃ a b, x = .bl a ∧ y = .bl b ∧ Q (.bl (!decide (a = b))) H
theorem rv_isB {i j : Bool} : RV rIsBl (.bl i) (.bl j) H (.bl (decide (i = j))) := fun H1 _ Q q => ⟨i, j, rfl, rfl, q H1 (Ex.refl H1)⟩
theorem rv_notB {i j : Bool} : RV rNotBl (.bl i) (.bl j) H (.bl (!decide (i = j))) := fun H1 _ Q q => ⟨i, j, rfl, rfl, q H1 (Ex.refl H1)⟩
/-- all but the tables of code objects stays, and these tables stand -/
def NX (T : List (Addr × Str)) (H H' : Hp) : Prop := ExtN H H' ∧ Tabs T H'
theorem NX.refl (h : Tabs T H) : NX T H H := ⟨ExtN.refl H, h⟩
theorem NX.trans (a : NX T H H1) (b : NX T H1 H2) : NX T H H2 := ⟨a.1.trans b.1, b.2⟩
theorem NX.ex (a : NX T H H1) (e : Ex H1 H2) : NX T H H2 := ⟨a.1.trans (ExtN.of e), a.2.ext e⟩
theorem nx_of (h : Tabs T H) (e : Ex H H1) : NX T H H1 := (NX.refl h).ex e
theorem NX.o (n : NX T H H') (h : H a = some (.lst xs)) : H' a = some (.lst xs) := n.1 a _ h fun ps z => by cases z
theorem NX.tu (n : NX T H H') (h : H a = some (.tup xs)) : H' a = some (.tup xs) := n.1 a _ h fun ps z => by cases z
theorem nx_rdl (n : ExtN H H') (h : Rd H a (.lst xs)) : Rd H' a (.lst xs) := by
  rcases h with h | ⟨o, h⟩
  · exact .inl (n a _ h fun ps z => by cases z)
  · exact .inr ⟨o, n a _ h fun ps z => by cases z⟩
theorem nx_rdt (n : ExtN H H') (h : Rd H a (.tup xs)) : Rd H' a (.tup xs) := by
  rcases h with h | ⟨o, h⟩
  · exact .inl (n a _ h fun ps z => by cases z)
  · exact .inr ⟨o, n a _ h fun ps z => by cases z⟩
theorem NX.l (n : NX T H H') (h : SqL K H a xs) : SqL K H' a xs := by
  rcases h with h | h
  · exact .inl (nx_rdl n.1 h)
  · exact .inr h
theorem NX.tq (n : NX T H H') (h : SqT K H a xs) : SqT K H' a xs := by
  rcases h with h | h
  · exact .inl (nx_rdt n.1 h)
  · exact .inr h
theorem told_go (hT : Tabs T H) (h : ∀ H1, NX T H H1 → t (ET W Q) σ H1 Q) : tTold T W t σ H Q := ⟨hT, fun H1 n1 t1 => h H1 ⟨n1, t1⟩⟩
theorem et_go {C : Addr} {nm : Str} (w : W C nm) (h : ∀ H2, Ex H H2 → Q (.str nm) H2) : ET W Q (.ref C) none H := ⟨C, nm, rfl, rfl, w, h⟩
/-- x = told(lambda: ..) -/
theorem q_told {i : Nat} (hT : Tabs T H) (h : ∀ H1, NX T H H1 → t (ET W fun v H2 => tz D (σ.set i (some v)) H2) σ H1 fun v H2 => tz D (σ.set i (some v)) H2) : tSeq (tAsg (tTold T W t) (gName i)) tz D σ H := ⟨hT, fun H1 n1 t1 => h H1 ⟨n1, t1⟩⟩
/-- a told value: what it is, whatever comes -/
def Tl (T : List (Addr × Str)) (te : TE) (σ : L2.St) (H : Hp) (v : V) : Prop := ∀ H1, NX T H H1 → ∀ Q : VK, (∀ H2, NX T H1 H2 → Q v H2) → te σ H1 Q
theorem tl_ev (h : ∀ H1, NX T H H1 → Ev te σ H1 v) : Tl T te σ H v := fun H1 n Q q => h H1 n H1 (Ex.refl H1) Q fun H2 e => q H2 (nx_of n.2 e)
theorem tl_told (h : ∀ H1, NX T H H1 → ∀ Q : VK, (∀ H2, NX T H1 H2 → Q v H2) → t (ET W Q) σ H1 Q) : Tl T (tTold T W t) σ H v := fun H1 n Q q => ⟨n.2, fun H2 n2 t2 => h H2 (n.trans ⟨n2, t2⟩) Q fun H3 n3 => q H3 (NX.trans ⟨n2, t2⟩ n3)⟩
theorem tl_op {r : R2} (ha : Tl T ta σ H x) (hb : Tl T tb σ H y) (hr : ∀ H1, NX T H H1 → RV r x y H1 z) : Tl T (tOp r ta tb) σ H z := fun H1 n Q q => ha H1 n _ fun H2 n2 => hb H2 (n.trans n2) _ fun H3 n3 => hr H3 ((n.trans n2).trans n3) H3 (Ex.refl H3) Q fun H4 e4 => q H4 ((n2.trans n3).ex e4)
theorem tl_var {i : Nat} (h : σ[i]? = some (some v)) : Tl T (tVar i) σ H v := tl_ev fun _ _ => ev_var h
theorem tl_c : Tl T (tC v) σ H v := tl_ev fun _ _ => ev_c
theorem q_tl {i : Nat} (hT : Tabs T H) (h : Tl T te σ H v) (k : ∀ H1, NX T H H1 → tz D (σ.set i (some v)) H1) : tSeq (tAsg te (gName i)) tz D σ H := h H (NX.refl hT) _ k
/-- tests -/
def TlT (T : List (Addr × Str)) (tt : TT) (σ : L2.St) (H : Hp) (b : Bool) : Prop := ∀ H1, NX T H H1 → ∀ Q : Bool → Hp → Prop, (∀ H2, NX T H1 H2 → Q b H2) → tt σ H1 Q
theorem tlt_of {u : TT} {b : Bool} (h : ∀ H1, NX T H H1 → EvT u σ H1 b) : TlT T u σ H b := fun H1 n Q q => h H1 n H1 (Ex.refl H1) Q fun H2 e => q H2 (nx_of n.2 e)
theorem tlt_test {b : Bool} (h : Tl T te σ H (.bl b)) : TlT T (tTest te) σ H b := fun H1 n _ q => h H1 n _ fun H2 e2 => ⟨b, rfl, q H2 e2⟩
theorem tlt_not {u : TT} {b : Bool} (h : TlT T u σ H b) : TlT T (tNot u) σ H (!b) := fun H1 n _ q => h H1 n _ fun H2 e2 => q H2 e2
theorem tlt_or {u w : TT} {a b : Bool} (h1 : TlT T u σ H a) (h2 : a = false → TlT T w σ H b) : TlT T (tOr u w) σ H (a || b) := fun H1 n Q q => h1 H1 n _ fun H2 n2 => by
  cases a with
  | true => exact q H2 n2
  | false => exact h2 rfl H2 (n.trans n2) Q fun H3 n3 => q H3 (n2.trans n3)
theorem tlt_and {u w : TT} {a b : Bool} (h1 : TlT T u σ H a) (h2 : a = true → TlT T w σ H b) : TlT T (tAnd u w) σ H (a && b) := fun H1 n Q q => h1 H1 n _ fun H2 n2 => by
  cases a with
  | true => exact h2 rfl H2 (n.trans n2) Q fun H3 n3 => q H3 (n2.trans n3)
  | false => exact q H2 n2
theorem tlt_is {u : TT} {a b : Bool} (h : TlT T u σ H a) (e : a = b) : TlT T u σ H b := e ▸ h
theorem qn_when {u : TT} {tu : TS} {b : Bool} (hT : Tabs T H) (h : TlT T u σ H b) (h1 : b = true → ∀ H1, NX T H H1 → tu { D with nx := tz D } σ H1) (h2 : b = false → ∀ H1, NX T H H1 → tz D σ H1) : tSeq (tIfS u tu tNext) tz D σ H := h H (NX.refl hT) _ fun H1 n => by
  cases b with
  | true => exact h1 rfl H1 n
  | false => exact h2 rfl H1 n
theorem sn_when {u : TT} {tu : TS} {b : Bool} (hT : Tabs T H) (h : TlT T u σ H b) (h1 : b = true → ∀ H1, NX T H H1 → tu D σ H1) (h2 : b = false → ∀ H1, NX T H H1 → D.nx σ H1) : tIfS u tu tNext D σ H := h H (NX.refl hT) _ fun H1 n => by
  cases b with
  | true => exact h1 rfl H1 n
  | false => exact h2 rfl H1 n
/-! ### lists -/
theorem rep_flat (n : Nat) (x : V) : (List.replicate n [x]).flatten = List.replicate n x := by
  induction n with
  | zero => rfl
  | succ n ih => rw [List.replicate_succ, List.flatten_cons, ih]; rfl
theorem el_rep {n : Nat} (ha : EvL ta σ H [x]) (hb : Ev tb σ H (.int (n : Int))) (hn : n ≤ 100000) : EvL (tOp rRep ta tb) σ H (List.replicate n x) :=
  fun H1 ex Q q => ha H1 ex _ fun p H2 h2 e2 hp => hb H2 (ex.trans e2) _ fun H3 e3 => ⟨p, (n : Int), [x], rfl, rfl, e3 p _ hp, by omega, by omega, sz_of (by simpa using hn), fun r hr => q r _ (fresh_back (e2.trans e3) hr) ((e2.trans e3).trans (Ex.new hr)) (by
    rw [Int.toNat_natCast, rep_flat]
    exact upd_same)⟩
theorem el_catN (ha : EvL ta σ H xs) (hb : ∀ H1, Ex H H1 → EvL tb σ H1 ys) (hz : xs.length + ys.length ≤ 100000) : EvL (tOp rCat ta tb) σ H (xs ++ ys) :=
  fun H1 ex Q q => ha H1 ex _ fun l H2 _ e2 hl => hb H2 (ex.trans e2) H2 (Ex.refl H2) _ fun p H3 _ e3 h3 => ⟨l, p, xs, ys, rfl, rfl, e3 l _ hl, h3, sz_of hz, fun r hr => q r _ (fresh_back (e2.trans e3) hr) ((e2.trans e3).trans (Ex.new hr)) upd_same⟩
theorem cut_1 : cutV xs (some 1) none = xs.drop 1 := by
  unfold cutV
  have h : HT.sIx xs.length 0 (some 1) = min 1 xs.length := by
    cases h : xs.length with
    | zero => rfl
    | succ n =>
      simp [HT.sIx]
  have h2 : HT.sIx xs.length xs.length none = xs.length := rfl
  rw [h, h2, List.take_of_length_le (by simp)]
  cases xs with
  | nil => simp
  | cons a l => simp
theorem el_from1 (h : Ev te σ H (.ref a)) (hs : SqL K H a xs) : EvL (tSl (rSlL K) te (tPart (tC (.int 1))) tNoPart) σ H (xs.drop 1) := by
  rw [← cut_1]
  exact el_sl h (eo_some ev_c) eo_none hs
theorem el_ca1 {R : R1} {E : XK} (ha : Ev ta σ H x) (h : ∀ H1, Ex H H1 → ∀ Q : VK, RetL xs H1 Q → R x H1 Q E) : EvL (tCall (sp1 R) [] E (tCons ta tNil)) σ H xs :=
  fun H1 e Q q => ha H1 e _ fun H2 e2 => h H2 (e.trans e2) Q fun p H3 h3 e3 k => q p H3 (fresh_back e2 h3) (e2.trans e3) k
theorem el_ca2 {R : R2'} {E : XK} (ha : Ev ta σ H x) (hb : Ev tb σ H y) (h : ∀ H1, Ex H H1 → ∀ Q : VK, RetL xs H1 Q → R x y H1 Q E) : EvL (tCall (sp2 R) [] E (tCons ta (tCons tb tNil))) σ H xs :=
  fun H1 e Q q => ha H1 e _ fun H2 e2 => hb H2 (e.trans e2) _ fun H3 e3 => h H3 (e.trans (e2.trans e3)) Q fun p H4 h4 e4 k => q p H4 (fresh_back (e2.trans e3) h4) ((e2.trans e3).trans e4) k
/-- .. the second argument a new list -/
theorem el_ca2L {R : R2'} {E : XK} {zs : List V} (ha : Ev ta σ H x) (hb : EvL tb σ H ys) (h : ∀ q H1, Ex H H1 → H1 q = some (.lst ys) → ∀ Q : VK, RetL zs H1 Q → R x (.ref q) H1 Q E) : EvL (tCall (sp2 R) [] E (tCons ta (tCons tb tNil))) σ H zs :=
  fun H1 e Q q => ha H1 e _ fun H2 e2 => hb H2 (e.trans e2) _ fun r H3 _ e3 h3 => h r H3 (e.trans (e2.trans e3)) h3 Q fun p H4 h4 e4 k => q p H4 (fresh_back (e2.trans e3) h4) ((e2.trans e3).trans e4) k
/-- == of a new list and a kept one | of two new ones -/
theorem ev_opL0 {r : R2} (ha : EvL ta σ H xs) (hb : Ev tb σ H y) (hr : ∀ p H1, H1 p = some (.lst xs) → Ex H H1 → RV r (.ref p) y H1 z) : Ev (tOp r ta tb) σ H z := ev_opL1 ha (fun H1 e => hb.mono e) hr
/-- f(..) as a statement, its refusals let out -/
theorem q_call1 {R : R1} {E : XK} (ha : Ev ta σ H x) (h : ∀ H1, Ex H H1 → R x H1 (fun _ H2 => tz D σ H2) E) : tSeq (tDrop (tCall (sp1 R) [] E (tCons ta tNil))) tz D σ H := ha H (Ex.refl H) _ fun H1 e1 => h H1 e1
theorem el_lcR2 {ta : TA} {j : Nat} {vs : List Nat} {u : TT} {lo n : Int} (f : Nat → Bool) (v : Nat → V) (h : EvA ta σ H [.int lo, .int n]) (hn : -40000 ≤ lo ∧ lo ≤ 40000 ∧ -40000 ≤ n ∧ n ≤ 40000 ∧ n - lo ≤ 40000) (hw : ∀ x, wipe ((wipe σ vs).set j (some x)) vs = wipe σ vs)
    (ht : ∀ (i : Nat) H1, Ex H H1 → lo + (i : Int) < n → EvT u ((wipe σ vs).set j (some (.int (lo + (i : Int))))) H1 (f i)) (he : ∀ (i : Nat) H1, Ex H H1 → lo + (i : Int) < n → f i = true → Ev te ((wipe σ vs).set j (some (.int (lo + (i : Int))))) H1 (v i)) :
    EvL (tLc (iRng2 ta) (gName j) u te vs) σ H (given (n - lo).toNat f v) := fun H0 e Q q => h H0 e _ fun H1 e1 => ⟨lo, n, rfl, ⟨by omega, by omega, by omega, by omega⟩, fun Dl hD =>
  lc_range (lo := lo) (n := (n - lo).toNat) (Cw H1 f v Dl) ⟨hD, Ex.new hD, upd_same⟩ (fun i H' hi p => ⟨hw _, cw_turn p (by omega) (ht i H1 (e.trans e1) (by omega)) (fun hf => he i H1 (e.trans e1) (by omega) hf)⟩) (fun H' p => q Dl H' (fresh_back e1 p.1) (e1.trans p.2.1) p.2.2)⟩
theorem el_ca1L {R : R1} {E : XK} {zs : List V} (ha : EvL ta σ H xs) (h : ∀ q H1, Ex H H1 → H1 q = some (.lst xs) → ∀ Q : VK, RetL zs H1 Q → R (.ref q) H1 Q E) : EvL (tCall (sp1 R) [] E (tCons ta tNil)) σ H zs :=
  fun H1 e Q q => ha H1 e _ fun r H2 _ e2 h2 => h r H2 (e.trans e2) h2 Q fun p H3 h3 e3 k => q p H3 (fresh_back e2 h3) (e2.trans e3) k
theorem tabs_mut {l : Addr} {o : HO} (hl : H l = some (.lst xs)) (h : Tabs T H) : Tabs T (upd H l o) := fun p hp => by
  obtain ⟨ps, h1, h2, h3⟩ := h p hp
  have n1 : p.1 ≠ l := fun z => by
    rw [z, hl] at h1
    cases h1
  refine ⟨ps, by rw [upd_ne n1]; exact h1, h2, fun pos cv hc => ?_⟩
  obtain ⟨c, e1, e2⟩ := h3 pos cv hc
  refine ⟨c, e1, ?_⟩
  rw [upd_ne]
  · exact e2
  · intro z
    rw [z, hl] at e2
    cases e2
theorem NX.mut {l : Addr} {o : HO} (n : NX T H H1) (h0 : H l = none) (hl : H1 l = some (.lst xs)) : NX T H (upd H1 l o) := ⟨fun b u hb nt => by
  rw [upd_ne (ne_of_none hb h0)]
  exact n.1 b u hb nt, tabs_mut hl n.2⟩
/-- xs.append(told(..)) -/
theorem q_appT {l : Addr} {i : Nat} (hT : Tabs T H) (hl : H l = some (.lst xs)) (hi : σ[i]? = some (some (.ref l))) (h : Tl T te σ H v) (hz : xs.length < 100000) (k : ∀ H1, NX T H H1 → tz D σ (upd H1 l (.lst (xs ++ [v])))) :
    tSeq (tDrop (tBM K "list" rAppend (tVar i) (tCons te tNil))) tz D σ H :=
  ⟨.ref l, hi, Or.inl ⟨rfl, xs, sq_of hl⟩, h H (NX.refl hT) _ fun H2 n2 => ⟨l, xs, v, rfl, rfl, n2.o hl, sz_lt hz, k H2 n2⟩⟩
end
/-! ### one flag of many -/
theorem one_flag (C : Addr) : ∀ (cs : List Addr) (j : Nat), cs.Nodup → cs[j]? = some C →
    ((cs.map fun D => decide (C = D)).map fun b => (if b then 1 else 0 : Int)).sum = 1 ∧ (cs.map fun D => decide (C = D))[j]? = some true ∧ ∀ m, m < j → (cs.map fun D => decide (C = D))[m]? = some false
  | [], _, _, h => by simp at h
  | c :: cs, 0, nd, h => by
    have e : c = C := by simpa using h
    subst e
    have no : ∀ D ∈ cs, c ≠ D := fun D hD z => (List.nodup_cons.mp nd).1 (z ▸ hD)
    refine ⟨?_, by simp, fun m hm => by omega⟩
    have z : ∀ ds : List Addr, (∀ D ∈ ds, c ≠ D) → ((ds.map fun D => decide (c = D)).map fun b => (if b then 1 else 0 : Int)).sum = 0 := fun ds => by
      induction ds with
      | nil => intro _; rfl
      | cons d ds ih =>
        intro h
        simp only [List.map_cons, List.sum_cons]
        rw [ih fun D hD => h D (List.mem_cons_of_mem _ hD), decide_eq_false (h d List.mem_cons_self)]
        rfl
    simp only [List.map_cons, List.sum_cons]
    rw [z cs no]
    simp
  | c :: cs, j + 1, nd, h => by
    obtain ⟨h1, h2, h3⟩ := one_flag C cs j (List.nodup_cons.mp nd).2 (by simpa using h)
    have ne : C ≠ c := fun z => (List.nodup_cons.mp nd).1 (z ▸ List.mem_of_getElem? (by simpa using h))
    refine ⟨?_, by simpa using h2, fun m hm => ?_⟩
    · simp only [List.map_cons, List.sum_cons]
      rw [h1, decide_eq_false ne]
      rfl
    · cases m with
      | zero => simp [ne]
      | succ m => simpa using h3 m (by omega)
end Sv

set_option Elab.async false
set_option linter.all false
set_option maxRecDepth 100000
set_option maxHeartbeats 4000000
/-! SvAll: a list of things that are made, one of them taken; lists of words; what is told put into a list. -/
namespace Sv
open PySem PySem.Spec PyProof.Rows L2 Evl HotX L2H LamX
section
variable {K : PySem.W.Frag} {σ : L2.St} {H H' H1 H2 : Hp} {ta tb te tc : TE} {tr : TA} {x y z v : V} {a p : Addr} {xs ys : List V} {T : List (Addr × Str)} {D : Ends} {tz : TS} {W : Addr → Str → Prop} {t : XK → TE} {Q : VK} {P : V → Hp → Prop}
/-- a value that P holds of -/
def EvP (te : TE) (σ : L2.St) (H : Hp) (P : V → Hp → Prop) : Prop := ∀ H1, Ex H H1 → ∀ Q : VK, (∀ v H2, Ex H1 H2 → P v H2 → Q v H2) → te σ H1 Q
def EvAll (tr : TA) (σ : L2.St) (H : Hp) (n : Nat) (P : V → Hp → Prop) : Prop := ∀ H1, Ex H H1 → ∀ Q : List V → Hp → Prop, (∀ vs H2, Ex H1 H2 → vs.length = n → (∀ v ∈ vs, P v H2) → Q vs H2) → tr σ H1 Q
theorem ep_ev (h : Ev te σ H v) (hp : ∀ H1, Ex H H1 → P v H1) : EvP te σ H P := fun H1 e Q q => h H1 e Q fun H2 e2 => q v H2 e2 (hp H2 (e.trans e2))
theorem ep_l (h : EvL te σ H xs) (hp : ∀ p H1, Ex H H1 → H1 p = some (.lst xs) → P (.ref p) H1) : EvP te σ H P := fun H1 e Q q => h H1 e Q fun p H2 _ e2 h2 => q _ H2 e2 (hp p H2 (e.trans e2) h2)
theorem ep_u (h : EvU te σ H xs) (hp : ∀ p H1, Ex H H1 → H1 p = some (.tup xs) → P (.ref p) H1) : EvP te σ H P := fun H1 e Q q => h H1 e Q fun p H2 _ e2 h2 => q _ H2 e2 (hp p H2 (e.trans e2) h2)
theorem eall_nil : EvAll tNil σ H 0 P := fun H1 _ Q q => q [] H1 (Ex.refl H1) rfl fun _ h => (by cases h)
theorem eall_cons {n : Nat} (st : ∀ v H H', Ex H H' → P v H → P v H') (h : EvP te σ H P) (hr : EvAll tr σ H n P) : EvAll (tCons te tr) σ H (n + 1) P := fun H1 e Q q =>
  h H1 e _ fun v H2 e2 hv => hr H2 (e.trans e2) _ fun vs H3 e3 hl hvs => q (v :: vs) H3 (e2.trans e3) (by rw [List.length_cons, hl]) fun w hw => by
    rcases List.mem_cons.mp hw with rfl | hw
    · exact st _ _ _ e3 hv
    · exact hvs w hw
/-- [..][j], a thing of which P holds -/
theorem ep_ix {n : Nat} {j : Nat} (st : ∀ v H H', Ex H H' → P v H → P v H') (ha : EvAll tr σ H n P) (hb : ∀ H1, Ex H H1 → Ev tb σ H1 (.int (j : Int))) (hj : j < n) (hn : n ≤ 100000) : EvP (tOp (rIxL K) (tLst tr) tb) σ H P := fun H1 e Q q =>
  ha H1 e _ fun vs H2 e2 hl hvs => ⟨sz_of (by omega), fun r hr => hb (upd H2 r (.lst vs)) ((e.trans e2).trans (Ex.new hr)) _ (Ex.refl _) _ fun H3 e3 =>
    ⟨r, vs, (j : Int), vs[j]'(by omega), rfl, rfl, sq_of (e3 r _ upd_same), atI_nat (List.getElem?_eq_getElem _), q _ H3 (e2.trans ((Ex.new hr).trans e3)) (st _ _ _ ((Ex.new hr).trans e3) (hvs _ (List.getElem_mem _)))⟩⟩
theorem q_asgP {i : Nat} (h : EvP te σ H P) (k : ∀ v H1, Ex H H1 → P v H1 → tz D (σ.set i (some v)) H1) : tSeq (tAsg te (gName i)) tz D σ H := h H (Ex.refl H) _ fun v H1 e p => k v H1 e p
theorem call1P {R : R1} {E : XK} (ha : EvP ta σ H P) (h : ∀ v H1, Ex H H1 → P v H1 → R v H1 Q E) : tCall (sp1 R) [] E (tCons ta tNil) σ H Q := ha H (Ex.refl H) _ fun v H1 e hp => h v H1 e hp
theorem call1 {R : R1} {E : XK} (ha : Ev ta σ H x) (h : ∀ H1, Ex H H1 → R x H1 Q E) : tCall (sp1 R) [] E (tCons ta tNil) σ H Q := ha H (Ex.refl H) _ fun H1 e => h H1 e
theorem call1L {R : R1} {E : XK} (ha : EvL ta σ H xs) (h : ∀ p H1, Ex H H1 → H1 p = some (.lst xs) → R (.ref p) H1 Q E) : tCall (sp1 R) [] E (tCons ta tNil) σ H Q := ha H (Ex.refl H) _ fun p H1 _ e h1 => h p H1 e h1
theorem call2 {R : R2'} {E : XK} (ha : Ev ta σ H x) (hb : Ev tb σ H y) (h : ∀ H1, Ex H H1 → R x y H1 Q E) : tCall (sp2 R) [] E (tCons ta (tCons tb tNil)) σ H Q := ha H (Ex.refl H) _ fun H1 e => hb H1 e _ fun H2 e2 => h H2 (e.trans e2)
theorem call2L {R : R2'} {E : XK} (ha : Ev ta σ H x) (hb : EvL tb σ H ys) (h : ∀ q H1, Ex H H1 → H1 q = some (.lst ys) → R x (.ref q) H1 Q E) : tCall (sp2 R) [] E (tCons ta (tCons tb tNil)) σ H Q := ha H (Ex.refl H) _ fun H1 e => hb H1 e _ fun q H2 _ e2 h2 => h q H2 (e.trans e2) h2
theorem q_asgC1 {R : R1} {E : XK} {i : Nat} (ha : Ev ta σ H x) (h : ∀ H1, Ex H H1 → R x H1 (fun v H2 => tz D (σ.set i (some v)) H2) E) : tSeq (tAsg (tCall (sp1 R) [] E (tCons ta tNil)) (gName i)) tz D σ H := call1 (Q := fun v H2 => tz D (σ.set i (some v)) H2) ha h
theorem q_asgC2 {R : R2'} {E : XK} {i : Nat} (ha : Ev ta σ H x) (hb : Ev tb σ H y) (h : ∀ H1, Ex H H1 → R x y H1 (fun v H2 => tz D (σ.set i (some v)) H2) E) : tSeq (tAsg (tCall (sp2 R) [] E (tCons ta (tCons tb tNil))) (gName i)) tz D σ H := call2 (Q := fun v H2 => tz D (σ.set i (some v)) H2) ha hb h
theorem ev_ca1L {R : R1} {E : XK} (ha : EvL ta σ H xs) (h : ∀ p H1, Ex H H1 → H1 p = some (.lst xs) → ∀ Q : VK, (∀ H2, Ex H1 H2 → Q z H2) → R (.ref p) H1 Q E) : Ev (tCall (sp1 R) [] E (tCons ta tNil)) σ H z :=
  fun H1 e Q q => ha H1 e _ fun p H2 _ e2 h2 => h p H2 (e.trans e2) h2 Q fun H3 e3 => q H3 (e2.trans e3)
/-- for x in [..], each of which P holds of -/
theorem s_forP {n j : Nat} {tu : TS} (st : ∀ v H H', Ex H H' → P v H → P v H') (ha : EvAll tr σ H n P) (hn : n ≤ 100000) (I : L2.St → Hp → Prop) (h0 : ∀ H1, Ex H H1 → I σ H1)
    (hs : ∀ H1 x σ' H', Ex H H1 → I σ' H' → Ex H1 H' → P x H' → tu { D with nx := fun σ2 H2 => I σ2 H2 ∧ Ex H1 H2, ct := fun σ2 H2 => I σ2 H2 ∧ Ex H1 H2, bk := D.nx } (σ'.set j (some x)) H') (hd : ∀ σ' H', I σ' H' → D.nx σ' H') : tFor (iList K (tLst tr)) (gName j) tu D σ H :=
  ha H (Ex.refl H) _ fun vs H1 e1 hl hvs => ⟨sz_of (by omega), fun r hr => ⟨r, rfl, ⟨vs, sq_of upd_same⟩, by
    have e2 := e1.trans (Ex.new (o := .lst vs) hr)
    exact for_list (xs := vs) (fun _ σ' H' => I σ' H' ∧ Ex (upd H1 r (.lst vs)) H') ⟨h0 _ e2, Ex.refl _⟩ (fun i σ' H' _ p => sq_of (p.2 r _ upd_same))
      (fun i x σ' H' hi p => hs _ x σ' H' e2 p.1 p.2 (st _ _ _ p.2 (st _ _ _ (Ex.new hr) (hvs x (List.mem_of_getElem? hi))))) fun σ' H' p => hd σ' H' p.1⟩⟩
theorem q_forP {n j : Nat} {tu : TS} (st : ∀ v H H', Ex H H' → P v H → P v H') (ha : EvAll tr σ H n P) (hn : n ≤ 100000) (I : L2.St → Hp → Prop) (h0 : ∀ H1, Ex H H1 → I σ H1)
    (hs : ∀ H1 x σ' H', Ex H H1 → I σ' H' → Ex H1 H' → P x H' → tu { D with nx := fun σ2 H2 => I σ2 H2 ∧ Ex H1 H2, ct := fun σ2 H2 => I σ2 H2 ∧ Ex H1 H2, bk := tz D } (σ'.set j (some x)) H') (hd : ∀ σ' H', I σ' H' → tz D σ' H') : tSeq (tFor (iList K (tLst tr)) (gName j) tu) tz D σ H :=
  s_forP (D := { D with nx := tz D }) st ha hn I h0 hs hd
theorem q_parUU {i j : Nat} (ha : EvU ta σ H xs) (hb : EvU tb σ H ys) (k : ∀ p q H1, Ex H H1 → H1 p = some (.tup xs) → H1 q = some (.tup ys) → tz D ((σ.set i (some (.ref p))).set j (some (.ref q))) H1) : tSeq (tPar i j (tCons ta (tCons tb tNil))) tz D σ H :=
  ha H (Ex.refl H) _ fun p H1 _ e1 h1 => hb H1 e1 _ fun q H2 _ e2 h2 => ⟨.ref p, .ref q, rfl, k p q H2 (e1.trans e2) (e2 p _ h1) h2⟩
theorem s_parVU {i j : Nat} (ha : Ev ta σ H v) (hb : EvU tb σ H ys) (k : ∀ q H1, Ex H H1 → H1 q = some (.tup ys) → D.nx ((σ.set i (some v)).set j (some (.ref q))) H1) : tPar i j (tCons ta (tCons tb tNil)) D σ H :=
  ha H (Ex.refl H) _ fun H1 e1 => hb H1 e1 _ fun q H2 _ e2 h2 => ⟨v, .ref q, rfl, k q H2 (e1.trans e2) h2⟩
theorem q_parLV {i j : Nat} (ha : EvL ta σ H xs) (hb : Ev tb σ H v) (k : ∀ q H1, H q = none → Ex H H1 → H1 q = some (.lst xs) → tz D ((σ.set i (some (.ref q))).set j (some v)) H1) : tSeq (tPar i j (tCons ta (tCons tb tNil))) tz D σ H :=
  ha H (Ex.refl H) _ fun q H1 h0 e1 h1 => hb H1 e1 _ fun H2 e2 => ⟨.ref q, v, rfl, k q H2 h0 (e1.trans e2) (e2 q _ h1)⟩
/-- [e for i, x in enumerate(xs) if t] -/
theorem el_lcE {j1 j2 : Nat} {vs : List Nat} {u : TT} (f : Nat → Bool) (v : Nat → V) (h : EvA tr σ H [.ref a]) (hx : SqL K H a xs) (hz : xs.length ≤ 40000) (hw : ∀ x y, wipe (((wipe σ vs).set j1 (some x)).set j2 (some y)) vs = wipe σ vs)
    (ht : ∀ (i : Nat) (x : V) H1, Ex H H1 → xs[i]? = some x → EvT u (((wipe σ vs).set j1 (some (.int (i : Nat)))).set j2 (some x)) H1 (f i)) (he : ∀ (i : Nat) (x : V) H1, Ex H H1 → xs[i]? = some x → f i = true → Ev te (((wipe σ vs).set j1 (some (.int (i : Nat)))).set j2 (some x)) H1 (v i)) :
    EvL (tLc (iEnum K tr) (gTup K 2 (gCons (gName j1) (gCons (gName j2) gNil))) u te vs) σ H (given xs.length f v) := fun H0 e Q q => h H0 e _ fun H1 e1 => ⟨a, xs, rfl, ex_l (e.trans e1) hx, fun Dl hD => by
  refine ⟨fun i m H' => m = xs.length - i ∧ i ≤ xs.length ∧ Cw H1 f v Dl i H', ⟨xs.length, by simp, Nat.zero_le _, hD, Ex.new hD, upd_same⟩, ?_⟩
  rintro i m H' ⟨rfl, hi, p⟩
  have hq := ex_l ((e.trans e1).trans p.2.1) hx
  by_cases hlt : i < xs.length
  · refine .inr ⟨⟨xs, xs[i], hq, by simp [hlt]⟩, Cw H1 f v Dl (i + 1), fun H2 p' => ⟨xs.length - (i + 1), by omega, rfl, hlt, p'⟩, fun x H2 y => ?_⟩
    obtain ⟨T0, x0, rfl, hT, rfl, hx0⟩ := y
    have hi0 := hx0 xs hq
    have p2 : Cw H1 f v Dl i (upd H' T0 (.tup [.int (i : Nat), x0])) := ⟨p.1, p.2.1.trans (Ex.new hT), by
      rw [upd_ne (ne_of_none p.2.2 hT)]
      exact p.2.2⟩
    exact g_tup2 (st_of upd_same) ⟨hw _ _, cw_turn p2 (by omega) (ht i x0 H1 (e.trans e1) hi0) fun hf => he i x0 H1 (e.trans e1) hi0 hf⟩
  · have ei : i = xs.length := by omega
    subst ei
    exact .inl ⟨⟨xs, hq, Nat.le_refl _⟩, q Dl H' (fresh_back e1 p.1) (e1.trans p.2.1) p.2.2⟩⟩
/-- a branch, what follows told once -/
theorem q_ifM {u : TT} {tu tw : TS} {b : Bool} {M : L2.St → Hp → Prop} (hz : ∀ σ' H', M σ' H' → tz D σ' H') (h : EvT u σ H b) (h1 : b = true → ∀ H1, Ex H H1 → ∀ N : L2.St → Hp → Prop, (∀ σ' H', M σ' H' → N σ' H') → tu { D with nx := N } σ H1)
    (h2 : b = false → ∀ H1, Ex H H1 → ∀ N : L2.St → Hp → Prop, (∀ σ' H', M σ' H' → N σ' H') → tw { D with nx := N } σ H1) : tSeq (tIfS u tu tw) tz D σ H :=
  q_if h (fun hb H1 e => h1 hb H1 e _ hz) fun hb H1 e => h2 hb H1 e _ hz
/-- x = [told(..)] -/
theorem q_lstT {i : Nat} (hT : Tabs T H) (h : Tl T te σ H v) (k : ∀ l H1, NX T H H1 → H1 l = none → tz D (σ.set i (some (.ref l))) (upd H1 l (.lst [v]))) : tSeq (tAsg (tLst (tCons te tNil)) (gName i)) tz D σ H :=
  h H (NX.refl hT) _ fun H2 n2 => ⟨sz_of (by show 1 ≤ 100000; decide), fun p hp => k p H2 n2 hp⟩
/-! ### lists of ints, of words, set against each other -/
theorem rv_neI {ns ms : List Int} {q : Addr} (h1 : SqL K H p (ns.map V.int)) (h2 : SqL K H q (ms.map V.int)) : RV (rNeD K) (.ref p) (.ref q) H (.bl (!decide (ns = ms))) := by
  rw [← eqv_il]
  exact rv_neD (dp_il h1) (dp_il h2) (sh_il _) (sh_il _)
theorem rv_eqI {ns ms : List Int} {q : Addr} (h1 : SqL K H p (ns.map V.int)) (h2 : SqL K H q (ms.map V.int)) : RV (rEqD K) (.ref p) (.ref q) H (.bl (decide (ns = ms))) := by
  rw [← eqv_il]
  exact rv_eqD (dp_il h1) (dp_il h2) (sh_il _) (sh_il _)
theorem dp_strs : ∀ ns : List Str, DpAll K H (ns.map V.str) (ns.map PyData.str)
  | [] => .nil
  | n :: ns => .cons (.str n) (dp_strs ns)
theorem canL_strs : ∀ ns : List Str, ns.all PyData.strOk = true → PyData.canLayAll0 (ns.map PyData.str) = true
  | [], _ => by simp [PyData.canLayAll0]
  | n :: ns, h => by
    rw [List.all_cons, Bool.and_eq_true] at h
    simp [PyData.canLayAll0, PyData.canLay0, canL_strs ns h.2, h.1]
theorem dep_strs : ∀ ns : List Str, PyData.depthAll (ns.map PyData.str) = 0
  | [] => by simp [PyData.depthAll]
  | n :: ns => by simp [PyData.depthAll, PyData.depth, dep_strs ns]
theorem sh_sl {ns : List Str} (h : ns.all PyData.strOk = true) : SeqAt.shaped (.list (ns.map PyData.str)) = true := by
  simp [SeqAt.shaped, PyData.canLay0, PyData.depth, canL_strs ns h, dep_strs]
theorem rv_neS {ns : List Str} {q : Addr} (h : ns.all PyData.strOk = true) (h1 : SqL K H p (ns.map V.str)) (h2 : SqL K H q (ns.map V.str)) : RV (rNeD K) (.ref p) (.ref q) H (.bl false) := by
  have := rv_neD (.lst h1 (dp_strs ns)) (.lst h2 (dp_strs ns)) (sh_sl h) (sh_sl h)
  rw [SeqAt.eqv_refl _ (SeqAt.canLay_of_shaped (sh_sl h))] at this
  exact this
end
end Sv

set_option Elab.async false
set_option linter.all false
set_option maxRecDepth 100000
set_option maxHeartbeats 4000000
/-! SvDat: lists of things that are made (each told by a word of it), loops over them past what is told; values by their data. -/
namespace Sv
open PySem PySem.Spec PyProof.Rows L2 Evl HotX L2H LamX
section
variable {K : PySem.W.Frag} {σ : L2.St} {H H' H1 H2 : Hp} {ta tb te tc : TE} {tr : TA} {x y z v : V} {a p : Addr} {xs ys : List V} {T : List (Addr × Str)} {D : Ends} {tz tu : TS} {W : Addr → Str → Prop} {t : XK → TE} {Q : VK} {P : V → Hp → Prop} {n m : Nat}
/-! ### a list each of whose n items P holds of -/
def EvLP (te : TE) (σ : L2.St) (H : Hp) (n : Nat) (P : V → Hp → Prop) : Prop := ∀ H1, Ex H H1 → ∀ Q : VK, (∀ p vs H2, Ex H1 H2 → H2 p = some (.lst vs) → vs.length = n → (∀ v ∈ vs, P v H2) → Q (.ref p) H2) → te σ H1 Q
theorem elp_lst (st : ∀ v H H', Ex H H' → P v H → P v H') (h : EvAll tr σ H n P) (hn : n ≤ 100000) : EvLP (tLst tr) σ H n P := fun H1 e Q q =>
  h H1 e _ fun vs H2 e2 hl hvs => ⟨sz_of (by omega), fun r hr => q r vs _ (e2.trans (Ex.new hr)) upd_same hl fun v hv => st _ _ _ (Ex.new hr) (hvs v hv)⟩
theorem elp_var {i : Nat} {vs : List V} (st : ∀ v H H', Ex H H' → P v H → P v H') (hi : σ[i]? = some (some (.ref p))) (hp : H p = some (.lst vs)) (hl : vs.length = n) (hv : ∀ v ∈ vs, P v H) : EvLP (tVar i) σ H n P := fun H1 e Q q =>
  ⟨.ref p, hi, q p vs H1 (Ex.refl H1) (e p _ hp) hl fun v h => st _ _ _ e (hv v h)⟩
theorem elp_cat (st : ∀ v H H', Ex H H' → P v H → P v H') (ha : EvLP ta σ H n P) (hb : EvLP tb σ H m P) (hn : n + m ≤ 100000) : EvLP (tOp rCat ta tb) σ H (n + m) P := fun H1 e Q q =>
  ha H1 e _ fun l vs H2 e2 h2 hl hv => hb H2 (e.trans e2) _ fun r ws H3 e3 h3 hl3 hw => ⟨l, r, vs, ws, rfl, rfl, e3 l _ h2, h3, sz_of (by omega), fun s hs => q s _ _ ((e2.trans e3).trans (Ex.new hs)) upd_same (by rw [List.length_append, hl, hl3]) fun v h => by
    rcases List.mem_append.mp h with h | h
    · exact st _ _ _ (e3.trans (Ex.new hs)) (hv v h)
    · exact st _ _ _ (Ex.new hs) (hw v h)⟩
theorem elp_rep (st : ∀ v H H', Ex H H' → P v H → P v H') (ha : EvLP ta σ H 1 P) (hn : n ≤ 100000) : EvLP (tOp rRep ta (tC (.int (n : Int)))) σ H n P := fun H1 e Q q =>
  ha H1 e _ fun l vs H2 e2 h2 hl hv => by
    obtain ⟨w, rfl⟩ := List.length_eq_one_iff.mp hl
    refine ⟨l, (n : Int), [w], rfl, rfl, h2, by omega, by omega, sz_of (by simpa using hn), fun s hs => q s (List.replicate n w) _ (e2.trans (Ex.new hs)) ?_ (by simp) fun v h => ?_⟩
    · rw [Int.toNat_natCast, rep_flat]
      exact upd_same
    · rw [(List.mem_replicate.mp h).2]
      exact st _ _ _ (Ex.new hs) (hv w List.mem_cons_self)
theorem ep_lp {P2 : V → Hp → Prop} (h : EvLP te σ H n P) (k : ∀ p vs H1, H1 p = some (.lst vs) → vs.length = n → (∀ v ∈ vs, P v H1) → P2 (.ref p) H1) : EvP te σ H P2 := fun H1 e Q q =>
  h H1 e _ fun p vs H2 e2 h2 hl hv => q _ H2 e2 (k p vs H2 h2 hl hv)
theorem q_asgLP {i : Nat} (h : EvLP te σ H n P) (k : ∀ p vs H1, Ex H H1 → H1 p = some (.lst vs) → vs.length = n → (∀ v ∈ vs, P v H1) → tz D (σ.set i (some (.ref p))) H1) : tSeq (tAsg te (gName i)) tz D σ H := h H (Ex.refl H) _ fun p vs H1 e h1 hl hv => k p vs H1 e h1 hl hv
/-- for x in such a list, past what is told -/
theorem s_forLP {j : Nat} (st : ∀ v H H', NX T H H' → P v H → P v H') (hT : Tabs T H) (ha : EvLP te σ H n P) (I : L2.St → Hp → Prop) (h0 : ∀ H1, NX T H H1 → I σ H1)
    (hs : ∀ H1 x σ' H', NX T H H1 → I σ' H' → NX T H1 H' → P x H' → tu { D with nx := fun σ2 H2 => I σ2 H2 ∧ NX T H1 H2, ct := fun σ2 H2 => I σ2 H2 ∧ NX T H1 H2, bk := D.nx } (σ'.set j (some x)) H') (hd : ∀ σ' H', I σ' H' → D.nx σ' H') : tFor (iList K te) (gName j) tu D σ H :=
  ha H (Ex.refl H) _ fun r vs H1 e1 h1 hl hvs => ⟨r, rfl, ⟨vs, sq_of h1⟩, by
    have n1 : NX T H H1 := nx_of hT e1
    exact for_list (xs := vs) (fun _ σ' H' => I σ' H' ∧ NX T H1 H') ⟨h0 _ n1, NX.refl n1.2⟩ (fun i σ' H' _ p => sq_of (p.2.o h1))
      (fun i x σ' H' hi p => hs _ x σ' H' n1 p.1 p.2 (st _ _ _ p.2 (hvs x (List.mem_of_getElem? hi)))) fun σ' H' p => hd σ' H' p.1⟩
theorem q_forLP {j : Nat} (st : ∀ v H H', NX T H H' → P v H → P v H') (hT : Tabs T H) (ha : EvLP te σ H n P) (I : L2.St → Hp → Prop) (h0 : ∀ H1, NX T H H1 → I σ H1)
    (hs : ∀ H1 x σ' H', NX T H H1 → I σ' H' → NX T H1 H' → P x H' → tu { D with nx := fun σ2 H2 => I σ2 H2 ∧ NX T H1 H2, ct := fun σ2 H2 => I σ2 H2 ∧ NX T H1 H2, bk := tz D } (σ'.set j (some x)) H') (hd : ∀ σ' H', I σ' H' → tz D σ' H') : tSeq (tFor (iList K te) (gName j) tu) tz D σ H :=
  s_forLP (D := { D with nx := tz D }) st hT ha I h0 hs hd
/-! ### told lists -/
def TlL (T : List (Addr × Str)) (te : TE) (σ : L2.St) (H : Hp) (xs : List V) : Prop := ∀ H1, NX T H H1 → ∀ Q : VK, (∀ p H2, NX T H1 H2 → H2 p = some (.lst xs) → Q (.ref p) H2) → te σ H1 Q
theorem tl_opLL {r : R2} (ha : TlL T ta σ H xs) (hb : ∀ H1, NX T H H1 → EvL tb σ H1 ys) (hr : ∀ p q H1, H1 p = some (.lst xs) → H1 q = some (.lst ys) → RV r (.ref p) (.ref q) H1 z) : Tl T (tOp r ta tb) σ H z := fun H1 n1 Q q =>
  ha H1 n1 _ fun p H2 n2 h2 => hb H2 (n1.trans n2) H2 (Ex.refl H2) _ fun s H3 _ e3 h3 => hr p s H3 (e3 p _ h2) h3 H3 (Ex.refl H3) Q fun H4 e4 => q H4 (n2.ex (e3.trans e4))
theorem tll_cat {i : Nat} {l : Addr} (ha : TlL T ta σ H xs) (hi : σ[i]? = some (some (.ref l))) (hl : H l = some (.lst ys)) (hz : xs.length + ys.length ≤ 100000) : TlL T (tOp rCat ta (tVar i)) σ H (xs ++ ys) := fun H1 n1 Q q =>
  ha H1 n1 _ fun p H2 n2 h2 => ⟨.ref l, hi, p, l, xs, ys, rfl, rfl, h2, (n1.trans n2).o hl, sz_of hz, fun r hr => q r _ (n2.ex (Ex.new hr)) upd_same⟩
theorem tll_ca2 {R : R2'} {E : XK} (ha : ∀ H1, NX T H H1 → Ev ta σ H1 x) (hb : ∀ H1, NX T H H1 → Ev tb σ H1 y) (h : ∀ H1, NX T H H1 → ∀ Q : VK, (∀ p H2, NX T H1 H2 → H2 p = some (.lst xs) → Q (.ref p) H2) → R x y H1 Q E) : TlL T (tCall (sp2 R) [] E (tCons ta (tCons tb tNil))) σ H xs :=
  fun H1 n1 Q q => ha H1 n1 H1 (Ex.refl H1) _ fun H2 e2 => hb H2 (n1.ex e2) H2 (Ex.refl H2) _ fun H3 e3 => h H3 (n1.ex (e2.trans e3)) Q fun p H4 n4 h4 => q p H4 ((nx_of n1.2 (e2.trans e3)).trans n4) h4
theorem tlt_B {b : Bool} (h : Tl T te σ H (.bl b)) : TlT T (tB te) σ H b := fun H1 n _ q => h H1 n _ fun H2 e2 => ⟨b, rfl, q H2 e2⟩
theorem tl_ca2 {R : R2'} {E : XK} (ha : ∀ H1, NX T H H1 → Ev ta σ H1 x) (hb : ∀ H1, NX T H H1 → Ev tb σ H1 y) (h : ∀ H1, NX T H H1 → ∀ Q : VK, (∀ H2, NX T H1 H2 → Q z H2) → R x y H1 Q E) : Tl T (tCall (sp2 R) [] E (tCons ta (tCons tb tNil))) σ H z :=
  fun H1 n Q q => ha H1 n H1 (Ex.refl H1) _ fun H2 e2 => hb H2 (n.ex e2) H2 (Ex.refl H2) _ fun H3 e3 => h H3 (n.ex (e2.trans e3)) Q fun H4 n4 => q H4 ((nx_of n.2 (e2.trans e3)).trans n4)
theorem call3 {w : V} {R : R3} {E : XK} (ha : Ev ta σ H x) (hb : Ev tb σ H y) (hc : Ev tc σ H w) (h : ∀ H1, Ex H H1 → R x y w H1 Q E) : tCall (sp3 R) [] E (tCons ta (tCons tb (tCons tc tNil))) σ H Q := ha H (Ex.refl H) _ fun H1 e => hb H1 e _ fun H2 e2 => hc H2 (e.trans e2) _ fun H3 e3 => h H3 ((e.trans e2).trans e3)
/-- f(..).append(e), of a list that is new -/
theorem q_appN (ha : EvL ta σ H xs) (h : ∀ H1, Ex H H1 → Ev te σ H1 v) (hz : xs.length < 100000) (k : ∀ H1, Ex H H1 → tz D σ H1) : tSeq (tDrop (tBM K "list" rAppend ta (tCons te tNil))) tz D σ H :=
  ha H (Ex.refl H) _ fun p H1 h0 e1 h1 => ⟨Or.inl ⟨rfl, xs, sq_of h1⟩, h H1 e1 H1 (Ex.refl H1) _ fun H2 e2 => ⟨p, xs, v, rfl, rfl, e2 p _ h1, sz_lt hz, k _ (Ex.mut (e1.trans e2) h0)⟩⟩
/-! ### values by their data -/
def EvD (K : PySem.W.Frag) (te : TE) (σ : L2.St) (H : Hp) (d : PyData) : Prop := EvP te σ H fun v H => Dp K H v d
def EvDA (K : PySem.W.Frag) (tr : TA) (σ : L2.St) (H : Hp) (ds : List PyData) : Prop := ∀ H1, Ex H H1 → ∀ Q : List V → Hp → Prop, (∀ vs H2, Ex H1 H2 → DpAll K H2 vs ds → Q vs H2) → tr σ H1 Q
theorem dpAll_len : ∀ {vs : List V} {ds : List PyData}, DpAll K H vs ds → vs.length = ds.length
  | _, _, .nil => rfl
  | _, _, .cons _ h => congrArg (· + 1) (dpAll_len h)
theorem ed_ev {d : PyData} (h : Ev te σ H v) (hd : ∀ H1, Ex H H1 → Dp K H1 v d) : EvD K te σ H d := ep_ev h hd
theorem ed_i {i : Int} (h : Ev te σ H (.int i)) : EvD K te σ H (.int i) := ed_ev h fun _ _ => .int i
theorem ed_s {s : Str} (h : Ev te σ H (.str s)) : EvD K te σ H (.str s) := ed_ev h fun _ _ => .str s
theorem ed_n (h : Ev te σ H .non) : EvD K te σ H .none := ed_ev h fun _ _ => .non
theorem ed_var {i : Nat} {d : PyData} (h : σ[i]? = some (some v)) (hd : Dp K H v d) : EvD K (tVar i) σ H d := ed_ev (ev_var h) fun _ e => Dp.ex e d _ hd
theorem ed_l {ds : List PyData} (h : EvL te σ H xs) (hd : ∀ H1, DpAll K H1 xs ds) : EvD K te σ H (.list ds) := ep_l h fun p H1 _ h1 => .lst (sq_of h1) (hd H1)
theorem eda_nil : EvDA K tNil σ H [] := fun H1 _ Q q => q [] H1 (Ex.refl H1) .nil
theorem eda_cons {d : PyData} {ds : List PyData} (h : EvD K te σ H d) (hr : EvDA K tr σ H ds) : EvDA K (tCons te tr) σ H (d :: ds) := fun H1 e Q q =>
  h H1 e _ fun v H2 e2 hv => hr H2 (e.trans e2) _ fun vs H3 e3 hvs => q (v :: vs) H3 (e2.trans e3) (.cons (Dp.ex e3 d _ hv) hvs)
theorem ed_lst {ds : List PyData} (h : EvDA K tr σ H ds) (hl : ds.length ≤ 100000) : EvD K (tLst tr) σ H (.list ds) := fun H1 e Q q =>
  h H1 e _ fun vs H2 e2 hvs => ⟨sz_of (by rw [dpAll_len hvs]; exact hl), fun r hr => q _ _ (e2.trans (Ex.new hr)) (.lst (sq_of upd_same) (DpAll.ex (Ex.new hr) ds _ hvs))⟩
theorem ed_tup {ds : List PyData} (h : EvDA K tr σ H ds) (hl : ds.length ≤ 100000) : EvD K (tTup tr) σ H (.tuple ds) := fun H1 e Q q =>
  h H1 e _ fun vs H2 e2 hvs => ⟨sz_of (by rw [dpAll_len hvs]; exact hl), fun r hr => q _ _ (e2.trans (Ex.new hr)) (.tup (st_of upd_same) (DpAll.ex (Ex.new hr) ds _ hvs))⟩
theorem ev_neD {d e : PyData} (ha : EvD K ta σ H d) (hb : EvD K tb σ H e) (s1 : SeqAt.shaped d = true) (s2 : SeqAt.shaped e = true) : Ev (tOp (rNeD K) ta tb) σ H (.bl (!PyData.eqv d e)) := fun H1 ex Q q =>
  ha H1 ex _ fun v H2 e2 hv => hb H2 (ex.trans e2) _ fun w H3 e3 hw => ⟨d, e, Dp.ex e3 d _ hv, hw, s1, s2, q H3 (e2.trans e3)⟩
theorem ev_eqD {d e : PyData} (ha : EvD K ta σ H d) (hb : EvD K tb σ H e) (s1 : SeqAt.shaped d = true) (s2 : SeqAt.shaped e = true) : Ev (tOp (rEqD K) ta tb) σ H (.bl (PyData.eqv d e)) := fun H1 ex Q q =>
  ha H1 ex _ fun v H2 e2 hv => hb H2 (ex.trans e2) _ fun w H3 e3 hw => ⟨d, e, Dp.ex e3 d _ hv, hw, s1, s2, q H3 (e2.trans e3)⟩
theorem q_asgD {i : Nat} {d : PyData} (h : EvD K te σ H d) (k : ∀ v H1, Ex H H1 → Dp K H1 v d → tz D (σ.set i (some v)) H1) : tSeq (tAsg te (gName i)) tz D σ H := h H (Ex.refl H) _ fun v H1 e hv => k v H1 e hv
end
end Sv

set_option Elab.async false
set_option linter.all false
set_option maxRecDepth 100000
set_option maxHeartbeats 4000000
/-! MSum: sums by 1..n; tables put together by divisors: in either turn, of three, taken back. -/
namespace Sv
/-- the sum of f a by a = 1..n -/
def S1 : Nat → (Nat → Int) → Int
  | 0, _ => 0
  | n + 1, f => S1 n f + f (n + 1)
section
variable {n m : Nat} {f g h : Nat → Int}
theorem S1_congr : ∀ {n : Nat} {f g : Nat → Int}, (∀ a, 1 ≤ a → a ≤ n → f a = g a) → S1 n f = S1 n g
  | 0, _, _, _ => rfl
  | n + 1, f, g, h => by
    show S1 n f + f (n + 1) = S1 n g + g (n + 1)
    rw [S1_congr fun a h1 h2 => h a h1 (by omega), h (n + 1) (by omega) (by omega)]
theorem S1_add (n : Nat) (f g : Nat → Int) : S1 n (fun a => f a + g a) = S1 n f + S1 n g := by
  induction n with
  | zero => rfl
  | succ n ih =>
    simp only [S1, ih]
    omega
theorem S1_sub (n : Nat) (f g : Nat → Int) : S1 n (fun a => f a - g a) = S1 n f - S1 n g := by
  induction n with
  | zero => rfl
  | succ n ih =>
    simp only [S1, ih]
    omega
theorem S1_zero (n : Nat) : S1 n (fun _ => 0) = 0 := by
  induction n with
  | zero => rfl
  | succ n ih => simp only [S1, ih]; rfl
theorem S1_mulL (n : Nat) (c : Int) (f : Nat → Int) : S1 n (fun a => c * f a) = c * S1 n f := by
  induction n with
  | zero => simp [S1]
  | succ n ih => simp only [S1, ih, Int.mul_add]
theorem S1_mulR (n : Nat) (c : Int) (f : Nat → Int) : S1 n (fun a => f a * c) = S1 n f * c := by
  induction n with
  | zero => simp [S1]
  | succ n ih => simp only [S1, ih, Int.add_mul]
theorem S1_swap (n m : Nat) (f : Nat → Nat → Int) : S1 n (fun a => S1 m (fun b => f a b)) = S1 m (fun b => S1 n (fun a => f a b)) := by
  induction n with
  | zero => simp only [S1, S1_zero]
  | succ n ih =>
    simp only [S1, ih]
    rw [S1_add]
theorem S1_one (n k : Nat) (c : Nat → Int) : S1 n (fun a => if a = k then c a else 0) = if 1 ≤ k ∧ k ≤ n then c k else 0 := by
  induction n with
  | zero =>
    rw [if_neg (by omega)]
    rfl
  | succ n ih =>
    simp only [S1, ih]
    by_cases h1 : n + 1 = k
    · subst h1
      rw [if_neg (by omega), if_pos rfl, if_pos (by omega)]
      omega
    · rw [if_neg h1]
      by_cases h2 : 1 ≤ k ∧ k ≤ n
      · rw [if_pos h2, if_pos (by omega)]
        omega
      · rw [if_neg h2, if_neg (by omega)]
        rfl
theorem S1_cut {k : Nat} (hk : k ≤ n) (h : ∀ a, k < a → a ≤ n → f a = 0) : S1 n f = S1 k f := by
  induction n with
  | zero =>
    have : k = 0 := by omega
    subst this
    rfl
  | succ n ih =>
    by_cases e : k = n + 1
    · subst e
      rfl
    · simp only [S1]
      rw [ih (by omega) (fun a h1 h2 => h a h1 (by omega)), h (n + 1) (by omega) (by omega)]
      omega
/-! ### by divisors -/
/-- put together, at n -/
def dv (f g : Nat → Int) (n : Nat) : Int := S1 n fun a => if n % a = 0 then f a * g (n / a) else 0
/-- .. by pairs up to N -/
def dc (N : Nat) (f g : Nat → Int) (n : Nat) : Int := S1 N fun a => S1 N fun b => if a * b = n then f a * g b else 0
theorem mul_is {a b n : Nat} (ha : 1 ≤ a) : a * b = n ↔ n % a = 0 ∧ b = n / a := by
  constructor
  · intro h
    subst h
    exact ⟨Nat.mul_mod_right a b, (Nat.mul_div_cancel_left b ha).symm⟩
  · rintro ⟨h1, rfl⟩
    exact Nat.mul_div_cancel' (Nat.dvd_of_mod_eq_zero h1)
theorem pair_one {N a n : Nat} {c : Nat → Int} (ha : 1 ≤ a) (hn : 1 ≤ n) (hN : n ≤ N) : S1 N (fun b => if a * b = n then c b else 0) = if n % a = 0 then c (n / a) else 0 := by
  by_cases h : n % a = 0
  · rw [if_pos h]
    have e : S1 N (fun b => if a * b = n then c b else 0) = S1 N (fun b => if b = n / a then c b else 0) := S1_congr fun b _ _ => by
      by_cases h1 : b = n / a
      · rw [if_pos h1, if_pos ((mul_is ha).mpr ⟨h, h1⟩)]
      · rw [if_neg h1, if_neg fun z => h1 ((mul_is ha).mp z).2]
    rw [e, S1_one, if_pos]
    have : n / a * a = n := Nat.div_mul_cancel (Nat.dvd_of_mod_eq_zero h)
    constructor
    · rcases Nat.eq_zero_or_pos (n / a) with z | z
      · rw [z] at this
        omega
      · exact z
    · exact Nat.le_trans (Nat.div_le_self n a) hN
  · rw [if_neg h]
    have e : S1 N (fun b => if a * b = n then c b else 0) = S1 N (fun _ => 0) := S1_congr fun b _ _ => if_neg fun z => h ((mul_is ha).mp z).1
    rw [e, S1_zero]
theorem dc_dv {N : Nat} (hn : 1 ≤ n) (hN : n ≤ N) : dc N f g n = dv f g n := by
  unfold dc dv
  rw [S1_congr (g := fun a => if n % a = 0 then f a * g (n / a) else 0) fun a h1 _ => pair_one (c := fun b => f a * g b) h1 hn hN]
  refine S1_cut hN fun a h1 _ => if_neg ?_
  rw [Nat.mod_eq_of_lt h1]
  omega
theorem dc_comm (N n : Nat) (f g : Nat → Int) : dc N f g n = dc N g f n := by
  unfold dc
  rw [S1_swap]
  refine S1_congr fun a _ _ => S1_congr fun b _ _ => ?_
  rw [Nat.mul_comm b a, Int.mul_comm (f b)]
theorem dv_comm (hn : 1 ≤ n) : dv f g n = dv g f n := by
  rw [← dc_dv hn (Nat.le_refl n), dc_comm, dc_dv hn (Nat.le_refl n)]
theorem dv_congr {f' g' : Nat → Int} (hn : 1 ≤ n) (hf : ∀ a, 1 ≤ a → a ≤ n → f a = f' a) (hg : ∀ a, 1 ≤ a → a ≤ n → g a = g' a) : dv f g n = dv f' g' n := by
  refine S1_congr fun a h1 h2 => ?_
  by_cases h : n % a = 0
  · rw [if_pos h, if_pos h, hf a h1 h2, hg (n / a) (Nat.div_pos h2 h1) (Nat.div_le_self _ _)]
  · rw [if_neg h, if_neg h]
theorem ite_S1 {p : Prop} [Decidable p] (n : Nat) (f : Nat → Int) : (if p then S1 n f else 0) = S1 n fun a => if p then f a else 0 := by
  by_cases h : p
  · simp only [if_pos h]
  · simp only [if_neg h, S1_zero]
/-- of three, by the three -/
def d3 (N : Nat) (f g h : Nat → Int) (n : Nat) : Int := S1 N fun a => S1 N fun b => S1 N fun c => if a * b * c = n then f a * g b * h c else 0
theorem d3_left {N : Nat} (hn : 1 ≤ n) (hN : n ≤ N) : dc N (dc N f g) h n = d3 N f g h n := by
  unfold dc d3
  have e1 : ∀ m c, (if m * c = n then (S1 N fun a => S1 N fun b => if a * b = m then f a * g b else 0) * h c else 0) = S1 N fun a => S1 N fun b => if a * b = m then (if m * c = n then f a * g b * h c else 0) else 0 := fun m c => by
    rw [← S1_mulR, ite_S1]
    refine S1_congr fun a _ _ => ?_
    rw [← S1_mulR, ite_S1]
    refine S1_congr fun b _ _ => ?_
    by_cases h1 : m * c = n <;> by_cases h2 : a * b = m <;> simp [h1, h2]
  rw [S1_congr fun m _ _ => S1_congr fun c _ _ => e1 m c]
  -- m inmost
  rw [S1_congr fun m _ _ => S1_swap N N fun c a => _, S1_swap]
  refine S1_congr fun a ha _ => ?_
  rw [S1_congr fun m _ _ => S1_swap N N fun c b => _, S1_swap]
  refine S1_congr fun b hb _ => ?_
  rw [S1_swap]
  refine S1_congr fun c hc _ => ?_
  rw [S1_congr (g := fun m => if m = a * b then (if m * c = n then f a * g b * h c else 0) else 0) fun m _ _ => by
    by_cases z : a * b = m
    · rw [if_pos z, if_pos z.symm]
    · rw [if_neg z, if_neg fun y => z y.symm], S1_one]
  by_cases z : a * b * c = n
  · rw [if_pos z, if_pos]
    exact ⟨Nat.mul_pos ha hb, Nat.le_trans (Nat.le_mul_of_pos_right _ hc) (by rw [z]; exact hN)⟩
  · rw [if_neg z]
    split <;> rfl
theorem d3_right {N : Nat} (hn : 1 ≤ n) (hN : n ≤ N) : dc N f (dc N g h) n = d3 N f g h n := by
  unfold dc d3
  refine S1_congr fun a ha _ => ?_
  have e1 : ∀ m, (if a * m = n then f a * (S1 N fun b => S1 N fun c => if b * c = m then g b * h c else 0) else 0) = S1 N fun b => S1 N fun c => if b * c = m then (if a * m = n then f a * g b * h c else 0) else 0 := fun m => by
    rw [← S1_mulL, ite_S1]
    refine S1_congr fun b _ _ => ?_
    rw [← S1_mulL, ite_S1]
    refine S1_congr fun c _ _ => ?_
    by_cases h1 : a * m = n <;> by_cases h2 : b * c = m <;> simp [h1, h2, Int.mul_assoc]
  rw [S1_congr fun m _ _ => e1 m, S1_swap]
  refine S1_congr fun b hb _ => ?_
  rw [S1_swap]
  refine S1_congr fun c hc _ => ?_
  rw [S1_congr (g := fun m => if m = b * c then (if a * m = n then f a * g b * h c else 0) else 0) fun m _ _ => by
    by_cases z : b * c = m
    · rw [if_pos z, if_pos z.symm]
    · rw [if_neg z, if_neg fun y => z y.symm], S1_one, ← Nat.mul_assoc]
  by_cases z : a * b * c = n
  · rw [if_pos z, if_pos]
    refine ⟨Nat.mul_pos hb hc, Nat.le_trans ?_ hN⟩
    rw [← z, Nat.mul_assoc]
    exact Nat.le_mul_of_pos_left _ ha
  · rw [if_neg z]
    split <;> rfl
theorem dv_assoc (hn : 1 ≤ n) : dv (dv f g) h n = dv f (dv g h) n := by
  have e : ∀ {f g f' g' : Nat → Int}, (∀ a, 1 ≤ a → a ≤ n → f a = f' a) → (∀ a, 1 ≤ a → a ≤ n → g a = g' a) → dv f g n = dc n f' g' n := fun h1 h2 => by
    rw [dc_dv hn (Nat.le_refl n)]
    exact dv_congr hn h1 h2
  rw [e (f' := dc n f g) (g' := h) (fun a h1 h2 => (dc_dv h1 h2).symm) (fun _ _ _ => rfl), d3_left hn (Nat.le_refl n), ← d3_right hn (Nat.le_refl n), e (f' := f) (g' := dc n g h) (fun _ _ _ => rfl) (fun a h1 h2 => (dc_dv h1 h2).symm)]
/-- 1 at 1 alone -/
def u1 (n : Nat) : Int := if n = 1 then 1 else 0
theorem dv_unitR (hn : 1 ≤ n) : dv f u1 n = f n := by
  unfold dv
  rw [S1_congr (g := fun a => if a = n then f a else 0) fun a h1 h2 => ?_, S1_one, if_pos ⟨hn, Nat.le_refl n⟩]
  by_cases h : a = n
  · subst h
    rw [if_pos rfl, Nat.mod_self, if_pos rfl, Nat.div_self h1, u1, if_pos rfl, Int.mul_one]
  · rw [if_neg h]
    split
    · rename_i h3
      have : a * (n / a) = n := Nat.mul_div_cancel' (Nat.dvd_of_mod_eq_zero h3)
      rw [u1, if_neg, Int.mul_zero]
      intro z
      rw [z] at this
      omega
    · rfl
theorem dv_unitL (hn : 1 ≤ n) : dv u1 f n = f n := by rw [dv_comm hn, dv_unitR hn]
theorem dv_last (n : Nat) (g f : Nat → Int) : dv g f (n + 1) = S1 n (fun a => if (n + 1) % a = 0 then g a * f ((n + 1) / a) else 0) + g (n + 1) * f 1 := by
  unfold dv
  simp only [S1]
  rw [Nat.mod_self, if_pos rfl, Nat.div_self (Nat.succ_pos n)]
theorem one_sq {z : Int} (h : z = 1 ∨ z = -1) : z * z = 1 := by
  rcases h with h | h <;> subst h <;> decide
/-- taken back -/
theorem inv_ex (f : Nat → Int) (h1 : f 1 = 1 ∨ f 1 = -1) : ∀ N, ∃ g : Nat → Int, ∀ n, 1 ≤ n → n ≤ N → dv g f n = u1 n
  | 0 => ⟨f, fun n h1 h2 => by omega⟩
  | N + 1 => by
    obtain ⟨g, hg⟩ := inv_ex f h1 N
    refine ⟨fun m => if m = N + 1 then f 1 * (u1 (N + 1) - S1 N (fun a => if (N + 1) % a = 0 then g a * f ((N + 1) / a) else 0)) else g m, fun n h2 h3 => ?_⟩
    by_cases e : n = N + 1
    · subst e
      rw [dv_last, if_pos rfl]
      rw [S1_congr (g := fun a => if (N + 1) % a = 0 then g a * f ((N + 1) / a) else 0) fun a _ h5 => by rw [if_neg (show ¬ a = N + 1 by omega)]]
      rw [Int.mul_comm (f 1), Int.mul_assoc, one_sq h1, Int.mul_one]
      omega
    · rw [← hg n h2 (by omega)]
      refine dv_congr h2 (fun a _ h5 => ?_) fun _ _ _ => rfl
      rw [if_neg (by omega)]
theorem inv_uniq {N : Nat} {g' : Nat → Int} (h1 : ∀ n, 1 ≤ n → n ≤ N → dv g f n = u1 n) (h2 : ∀ n, 1 ≤ n → n ≤ N → dv g' f n = u1 n) (hn : 1 ≤ n) (hN : n ≤ N) : g n = g' n := by
  have a1 : dv (dv g f) g' n = g' n := by
    rw [dv_congr (f' := u1) (g' := g') hn (fun a h3 h4 => h1 a h3 (by omega)) (fun _ _ _ => rfl), dv_unitL hn]
  have a2 : dv g (dv f g') n = g n := by
    rw [dv_congr (f' := g) (g' := u1) hn (fun _ _ _ => rfl) (fun a h3 h4 => by rw [dv_comm h3, h2 a h3 (by omega)]), dv_unitR hn]
  rw [← a2, ← dv_assoc hn, a1]
theorem inv_at1 {N : Nat} (hN : 1 ≤ N) (h : ∀ n, 1 ≤ n → n ≤ N → dv g f n = u1 n) : g 1 * f 1 = 1 := by
  have := h 1 (Nat.le_refl 1) hN
  simp only [dv, S1, u1, Nat.mod_self, Nat.div_self Nat.one_pos, if_pos rfl] at this
  simpa using this
end
/-! ### lists as tables -/
def tab (n : Nat) (F : Nat → Int) : List Int := (List.range n).map fun i => F (i + 1)
def at1 (xs : List Int) (m : Nat) : Int := xs.getD (m - 1) 0
section
variable {n m : Nat} {F G : Nat → Int} {xs ys zs : List Int}
@[simp] theorem tab_len : (tab n F).length = n := by simp [tab]
theorem tab_at (h1 : 1 ≤ m) (h2 : m ≤ n) : at1 (tab n F) m = F m := by
  unfold at1 tab
  rw [List.getD_eq_getElem?_getD, List.getElem?_map, List.getElem?_range (by omega)]
  show F (m - 1 + 1) = F m
  rw [show m - 1 + 1 = m by omega]
theorem tab_self (xs : List Int) : tab xs.length (at1 xs) = xs := by
  apply List.ext_getElem
  · simp
  · intro i h1 h2
    simp only [tab, List.getElem_map, List.getElem_range, at1]
    rw [show i + 1 - 1 = i by omega, List.getD_eq_getElem?_getD, List.getElem?_eq_getElem h2]
    rfl
theorem tab_congr (h : ∀ m, 1 ≤ m → m ≤ n → F m = G m) : tab n F = tab n G := by
  unfold tab
  refine List.map_congr_left fun i hi => h (i + 1) (by omega) ?_
  have := List.mem_range.mp hi
  omega
theorem tab_inj (h : tab n F = tab n G) (h1 : 1 ≤ m) (h2 : m ≤ n) : F m = G m := by
  rw [← tab_at (F := F) h1 h2, h, tab_at h1 h2]
theorem tab_set {v : Int} (h1 : 1 ≤ m) : (tab n F).set (m - 1) v = tab n fun k => if k = m then v else F k := by
  apply List.ext_getElem
  · simp
  · intro i h2 h3
    rw [List.getElem_set]
    simp only [tab, List.getElem_map, List.getElem_range]
    by_cases e : m - 1 = i
    · rw [if_pos e, if_pos (by omega)]
    · rw [if_neg e, if_neg (by omega)]
theorem tab_get (h1 : 1 ≤ m) (h2 : m ≤ n) : ((tab n F).map L2.V.int)[m - 1]? = some (.int (F m)) := by
  rw [List.getElem?_map, tab, List.getElem?_map, List.getElem?_range (by omega)]
  show some (L2.V.int (F (m - 1 + 1))) = _
  rw [show m - 1 + 1 = m by omega]
theorem tab_setV {v : Int} (h1 : 1 ≤ m) : ((tab n F).map L2.V.int).set (m - 1) (.int v) = (tab n fun k => if k = m then v else F k).map L2.V.int := by
  rw [← tab_set h1, List.map_set]
theorem at1_get (h1 : 1 ≤ m) (h2 : m ≤ xs.length) : (xs.map L2.V.int)[m - 1]? = some (.int (at1 xs m)) := by
  have := tab_get (F := at1 xs) h1 h2
  rwa [tab_self] at this
/-- two tables put together -/
def conv (xs ys : List Int) : List Int := tab xs.length (dv (at1 xs) (at1 ys))
@[simp] theorem conv_len : (conv xs ys).length = xs.length := by simp [conv]
theorem conv_comm (h : xs.length = ys.length) : conv xs ys = conv ys xs := by
  unfold conv
  rw [h]
  exact tab_congr fun m h1 _ => dv_comm h1
theorem conv_assoc (h : xs.length = ys.length) : conv (conv xs ys) zs = conv xs (conv ys zs) := by
  unfold conv
  rw [tab_len, ← h]
  refine tab_congr fun m h1 h2 => ?_
  rw [dv_congr (f' := dv (at1 xs) (at1 ys)) (g' := at1 zs) h1 (fun a h3 h4 => tab_at h3 (by omega)) (fun _ _ _ => rfl), dv_assoc h1]
  exact dv_congr h1 (fun _ _ _ => rfl) fun a h3 h4 => (tab_at h3 (by omega)).symm
/-- gs leads fs back to 1 at 1 alone -/
def Back (fs gs : List Int) : Prop := gs.length = fs.length ∧ ∀ n, 1 ≤ n → n ≤ fs.length → dv (at1 gs) (at1 fs) n = u1 n
theorem back_ex (fs : List Int) (h : at1 fs 1 = 1 ∨ at1 fs 1 = -1) : ∃ gs, Back fs gs := by
  obtain ⟨g, hg⟩ := inv_ex (at1 fs) h fs.length
  refine ⟨tab fs.length g, tab_len, fun n h1 h2 => ?_⟩
  rw [← hg n h1 h2]
  exact dv_congr h1 (fun a h3 h4 => tab_at h3 (by omega)) fun _ _ _ => rfl
theorem Back.sym {fs gs : List Int} (h : Back fs gs) : Back gs fs := ⟨h.1.symm, fun n h1 h2 => by rw [dv_comm h1, h.2 n h1 (by have := h.1; omega)]⟩
theorem Back.sign {fs gs : List Int} (h : Back fs gs) (hl : 1 ≤ fs.length) (h1 : at1 fs 1 = 1 ∨ at1 fs 1 = -1) : at1 gs 1 = at1 fs 1 := by
  have := inv_at1 hl h.2
  rcases h1 with e | e <;> rw [e] at this ⊢ <;> omega
theorem Back.conv {fs gs : List Int} (h : Back fs gs) : conv fs gs = tab fs.length u1 := tab_congr fun n h1 h2 => by rw [dv_comm h1, h.2 n h1 h2]
theorem unit_tab (n : Nat) : tab (n + 1) u1 = 1 :: List.replicate n 0 := by
  apply List.ext_getElem
  · simp
  · intro i h1 h2
    simp only [tab, List.getElem_map, List.getElem_range]
    cases i with
    | zero => rfl
    | succ i =>
      rw [List.getElem_cons_succ, List.getElem_replicate, u1, if_neg (by omega)]
end
end Sv

set_option Elab.async false
set_option linter.all false
set_option maxRecDepth 100000
set_option maxHeartbeats 4000000
/-! MPow: rests of powers: they come again; orders, inverses, logs. -/
namespace Sv
theorem php : ∀ (m : Nat) (l : List Nat), l.Nodup → (∀ x ∈ l, x < m) → l.length ≤ m
  | 0, l, _, h => by
    cases l with
    | nil => exact Nat.le_refl 0
    | cons a l => exact absurd (h a List.mem_cons_self) (Nat.not_lt_zero a)
  | m + 1, l, nd, h => by
    by_cases hm : m ∈ l
    · have := php m (l.erase m) (nd.erase m) fun x hx => by
        have h1 := (nd.mem_erase_iff).mp hx
        have := h x h1.2
        have := h1.1
        omega
      rw [List.length_erase_of_mem hm] at this
      omega
    · have := php m l nd fun x hx => by
        have h1 := h x hx
        have : x ≠ m := fun z => hm (z ▸ hx)
        omega
      omega
/-- the rest of a power -/
def pwm (a m k : Nat) : Nat := a ^ k % m
section
variable {a m L L' k j : Nat}
theorem pwm_zero : pwm a m 0 = 1 % m := rfl
theorem pwm_succ (a m k : Nat) : pwm a m (k + 1) = pwm a m k * a % m := by
  unfold pwm
  rw [Nat.pow_succ, Nat.mod_mul_mod]
theorem pwm_lt (hm : 1 ≤ m) : pwm a m k < m := Nat.mod_lt _ hm
/-- the rests till one comes again -/
def Trn (a m L : Nat) : Prop := 1 ≤ L ∧ ((List.range L).map (pwm a m)).Nodup ∧ pwm a m L ∈ (List.range L).map (pwm a m)
theorem Trn.ne (h : Trn a m L) (hj : j < L) (hk : k < L) (e : pwm a m j = pwm a m k) : j = k := by
  have n := List.pairwise_iff_getElem.mp h.2.1
  have l : ((List.range L).map (pwm a m)).length = L := by simp
  rcases Nat.lt_trichotomy j k with z | z | z
  · exact absurd (by rw [List.getElem_map, List.getElem_map, List.getElem_range, List.getElem_range]; exact e) (n j k (by omega) (by omega) z)
  · exact z
  · exact absurd (by rw [List.getElem_map, List.getElem_map, List.getElem_range, List.getElem_range]; exact e.symm) (n k j (by omega) (by omega) z)
theorem Trn.le (h : Trn a m L) (hm : 1 ≤ m) : L ≤ m := by
  have := php m _ h.2.1 fun x hx => by
    obtain ⟨k, _, rfl⟩ := List.mem_map.mp hx
    exact pwm_lt hm
  simpa using this
theorem Trn.all (h : Trn a m L) : ∀ k, ∃ j, j < L ∧ pwm a m j = pwm a m k
  | 0 => ⟨0, h.1, rfl⟩
  | k + 1 => by
    obtain ⟨j, hj, e⟩ := h.all k
    by_cases z : j + 1 < L
    · exact ⟨j + 1, z, by rw [pwm_succ, pwm_succ, e]⟩
    · have e2 : j + 1 = L := by omega
      obtain ⟨i, hi, ei⟩ := List.mem_map.mp h.2.2
      exact ⟨i, List.mem_range.mp hi, by rw [ei, ← e2, pwm_succ, pwm_succ, e]⟩
/-- the order -/
def Ord (a m L : Nat) : Prop := 1 ≤ L ∧ pwm a m L = 1 % m ∧ ∀ k, 1 ≤ k → k < L → pwm a m k ≠ 1 % m
theorem Ord.uniq (h : Ord a m L) (h' : Ord a m L') : L = L' := by
  rcases Nat.lt_trichotomy L L' with z | z | z
  · exact absurd h.2.1 (h'.2.2 L h.1 z)
  · exact z
  · exact absurd h'.2.1 (h.2.2 L' h'.1 z)
theorem mod_eq_dvd {x y m : Nat} (h : x % m = y % m) (hxy : x ≤ y) : m ∣ y - x := Nat.dvd_of_mod_eq_zero (Nat.sub_mod_eq_zero_of_mod_eq h.symm)
theorem cancel {x y : Nat} (co : Nat.gcd a m = 1) (hx : x < m) (hy : y < m) (h : x * a % m = y * a % m) : x = y := by
  have main : ∀ {x y : Nat}, x ≤ y → y < m → x * a % m = y * a % m → x = y := fun {x y} hxy hy h => by
    have d := mod_eq_dvd h (Nat.mul_le_mul_right a hxy)
    rw [← Nat.sub_mul] at d
    have c : Nat.Coprime m a := by
      rw [Nat.coprime_comm]
      exact co
    have d2 := c.dvd_of_dvd_mul_right d
    have := Nat.eq_zero_of_dvd_of_lt d2 (by omega)
    omega
  rcases Nat.le_total x y with z | z
  · exact main z hy h
  · exact (main z hx h.symm).symm
theorem cancel_pow (co : Nat.gcd a m = 1) (hm : 1 ≤ m) : ∀ j k, pwm a m (j + k) = pwm a m j → pwm a m k = 1 % m
  | 0, k, h => by
    rw [Nat.zero_add] at h
    exact h
  | j + 1, k, h => by
    refine cancel_pow co hm j k ?_
    rw [show j + 1 + k = j + k + 1 by omega, pwm_succ, pwm_succ] at h
    exact cancel co (pwm_lt hm) (pwm_lt hm) h
theorem Trn.ord (h : Trn a m L) (hm : 1 ≤ m) (co : Nat.gcd a m = 1) : Ord a m L := by
  obtain ⟨i, hi, ei⟩ := List.mem_map.mp h.2.2
  have hi := List.mem_range.mp hi
  have e : pwm a m (L - i) = 1 % m := cancel_pow co hm i (L - i) (by rw [show i + (L - i) = L by omega]; exact ei.symm)
  have i0 : i = 0 := by
    rcases Nat.eq_zero_or_pos i with z | z
    · exact z
    · have := h.ne (j := 0) (k := L - i) (by omega) (by omega) e.symm
      omega
  subst i0
  refine ⟨h.1, e, fun k k1 kl z => ?_⟩
  have := h.ne (j := 0) (k := k) h.1 kl z.symm
  omega
/-- the rests come again: there is such a list -/
theorem trn_ex (hm : 1 ≤ m) : ∃ L, Trn a m L := by
  have step : ∀ n k, k + n = m + 1 → 1 ≤ k → ((List.range k).map (pwm a m)).Nodup → ∃ L, Trn a m L := by
    intro n
    induction n with
    | zero =>
      intro k hk k1 nd
      have := php m _ nd fun x hx => by
        obtain ⟨k, _, rfl⟩ := List.mem_map.mp hx
        exact pwm_lt hm
      simp at this
      omega
    | succ n ih =>
      intro k hk k1 nd
      by_cases z : pwm a m k ∈ (List.range k).map (pwm a m)
      · exact ⟨k, k1, nd, z⟩
      · refine ih (k + 1) (by omega) (by omega) ?_
        rw [List.range_succ, List.map_append, List.nodup_append]
        refine ⟨nd, by simp, fun x hx y hy e => ?_⟩
        have : y = pwm a m k := by simpa using hy
        exact z (by rw [← this, ← e]; exact hx)
  exact step m 1 (by omega) (Nat.le_refl 1) (by simp)
theorem ord_ex (hm : 1 ≤ m) (co : Nat.gcd a m = 1) : ∃ L, Ord a m L := by
  obtain ⟨L, h⟩ := trn_ex (a := a) hm
  exact ⟨L, h.ord hm co⟩
/-- the inverse -/
theorem inv_mod (hm : 1 ≤ m) (co : Nat.gcd a m = 1) : ∃ r, r < m ∧ r * a % m = 1 % m := by
  obtain ⟨L, h⟩ := ord_ex hm co
  refine ⟨pwm a m (L - 1), pwm_lt hm, ?_⟩
  rw [← pwm_succ, show L - 1 + 1 = L by have := h.1; omega, h.2.1]
theorem inv_mod_uniq {r r' : Nat} (co : Nat.gcd a m = 1) (h1 : r < m) (h2 : r' < m) (e1 : r * a % m = 1 % m) (e2 : r' * a % m = 1 % m) : r = r' := cancel co h1 h2 (by rw [e1, e2])
/-- the log -/
def Log (b g m : Nat) (v : Option Nat) : Prop := (∃ k, k ≤ m ∧ pwm b m k = g % m ∧ (∀ j, j < k → pwm b m j ≠ g % m) ∧ v = some k) ∨ ((∀ k, k ≤ m → pwm b m k ≠ g % m) ∧ v = none)
theorem log_trn {b g : Nat} (h : Trn b m L) (hm : 1 ≤ m) : (∃ k, k < L ∧ pwm b m k = g % m ∧ Log b g m (some k)) ∨ ((∀ k, k < L → pwm b m k ≠ g % m) ∧ Log b g m none) := by
  have lm := h.le hm
  by_cases z : ∃ k, k < L ∧ pwm b m k = g % m
  · obtain ⟨k, hk, e⟩ := z
    refine .inl ⟨k, hk, e, .inl ⟨k, by omega, e, fun j hj ej => ?_, rfl⟩⟩
    have := h.ne (j := j) (k := k) (by omega) hk (by rw [ej, e])
    omega
  · refine .inr ⟨fun k hk e => z ⟨k, hk, e⟩, .inr ⟨fun k _ e => ?_, rfl⟩⟩
    obtain ⟨j, hj, ej⟩ := h.all k
    exact z ⟨j, hj, by rw [ej, e]⟩
theorem Log.uniq {b g : Nat} {v v' : Option Nat} (h : Log b g m v) (h' : Log b g m v') : v = v' := by
  rcases h with ⟨k, a1, a2, a3, rfl⟩ | ⟨a1, rfl⟩ <;> rcases h' with ⟨k', b1, b2, b3, rfl⟩ | ⟨b1, rfl⟩
  · rcases Nat.lt_trichotomy k k' with z | z | z
    · exact absurd a2 (b3 k z)
    · rw [z]
    · exact absurd b2 (a3 k' z)
  · exact absurd a2 (b1 k a1)
  · exact absurd b2 (a1 k' b1)
  · rfl
end
/-- the units -/
def units (m : Nat) : List Nat := (List.range m).filter fun u => decide (Nat.gcd u m = 1)
/-- a common divisor above 1 -/
theorem divides_iff (a m : Nat) (hm : 1 ≤ m) : (∃ d, 2 ≤ d ∧ d ≤ m ∧ m % d = 0 ∧ a % d = 0) ↔ Nat.gcd a m ≠ 1 := by
  constructor
  · rintro ⟨d, d2, _, h1, h2⟩ e
    have := Nat.dvd_gcd (Nat.dvd_of_mod_eq_zero h2) (Nat.dvd_of_mod_eq_zero h1)
    rw [e] at this
    have := Nat.le_of_dvd (by decide) this
    omega
  · intro h
    have gp : 0 < Nat.gcd a m := Nat.gcd_pos_of_pos_right _ hm
    exact ⟨Nat.gcd a m, by omega, Nat.gcd_le_right _ hm, Nat.mod_eq_zero_of_dvd (Nat.gcd_dvd_right a m), Nat.mod_eq_zero_of_dvd (Nat.gcd_dvd_left a m)⟩
end Sv

set_option linter.all false
/-! MCrt: plain Lean: rests by several moduli. -/
namespace Sv
theorem bez : ∀ a b : Nat, ∃ u v : Int, u * (a : Int) + v * (b : Int) = ((Nat.gcd a b : Nat) : Int) := by
  intro a b
  induction a, b using Nat.gcd.induction with
  | H0 n => exact ⟨0, 1, by simp⟩
  | H1 m n hm ih =>
    obtain ⟨u, v, h⟩ := ih
    rw [Nat.gcd_rec m n]
    refine ⟨v - u * ((n / m : Nat) : Int), u, ?_⟩
    have e : (n : Int) = ((n % m : Nat) : Int) + (m : Int) * ((n / m : Nat) : Int) := by
      rw [← Int.natCast_mul, ← Int.natCast_add]
      congr 1
      exact (Nat.mod_add_div n m).symm
    rw [← h]
    generalize ((n / m : Nat) : Int) = k at e ⊢
    generalize ((n % m : Nat) : Int) = l at e ⊢
    rw [e, Int.sub_mul, Int.mul_add]
    have : u * ((m : Int) * k) = u * k * (m : Int) := by
      rw [Int.mul_assoc, Int.mul_comm k]
    omega
theorem gcd_lcm_dvd {a b m x : Nat} (h1 : Nat.gcd a m ∣ x) (h2 : Nat.gcd b m ∣ x) : Nat.gcd (Nat.lcm a b) m ∣ x := by
  have hd1 : Nat.gcd (Nat.lcm a b) m ∣ Nat.lcm a b := Nat.gcd_dvd_left _ _
  have hd2 : Nat.gcd (Nat.lcm a b) m ∣ m := Nat.gcd_dvd_right _ _
  generalize Nat.gcd (Nat.lcm a b) m = d at hd1 hd2 ⊢
  by_cases d0 : d = 0
  · subst d0
    have : m = 0 := Nat.eq_zero_of_zero_dvd hd2
    subst this
    rw [Nat.gcd_zero_right] at h1 h2
    exact Nat.dvd_trans hd1 (Nat.lcm_dvd h1 h2)
  · have hd : 0 < d := Nat.pos_of_ne_zero d0
    have k1 : Nat.gcd a d ∣ x := Nat.dvd_trans (Nat.dvd_gcd (Nat.gcd_dvd_left _ _) (Nat.dvd_trans (Nat.gcd_dvd_right _ _) hd2)) h1
    have k2 : Nat.gcd b d ∣ x := Nat.dvd_trans (Nat.dvd_gcd (Nat.gcd_dvd_left _ _) (Nat.dvd_trans (Nat.gcd_dvd_right _ _) hd2)) h2
    have e1 : Nat.gcd (Nat.gcd a d) (Nat.gcd b d) ∣ Nat.gcd a d := Nat.gcd_dvd_left _ _
    have e2 : Nat.gcd (Nat.gcd a d) (Nat.gcd b d) ∣ Nat.gcd b d := Nat.gcd_dvd_right _ _
    have ep : 0 < Nat.gcd (Nat.gcd a d) (Nat.gcd b d) := Nat.gcd_pos_of_pos_left _ (Nat.gcd_pos_of_pos_right _ hd)
    have key : d * Nat.gcd (Nat.gcd a d) (Nat.gcd b d) ∣ Nat.gcd a d * Nat.gcd b d := by
      generalize Nat.gcd (Nat.gcd a d) (Nat.gcd b d) = e at e1 e2
      rw [← Nat.gcd_mul_right]
      refine Nat.dvd_gcd ?_ (Nat.mul_dvd_mul_left d e2)
      rw [← Nat.gcd_mul_left]
      refine Nat.dvd_gcd ?_ ?_
      · rw [← Nat.gcd_mul_lcm a b, Nat.mul_comm]
        exact Nat.mul_dvd_mul (Nat.dvd_gcd (Nat.dvd_trans e1 (Nat.gcd_dvd_left _ _)) (Nat.dvd_trans e2 (Nat.gcd_dvd_left _ _))) hd1
      · rw [Nat.mul_comm]
        exact Nat.mul_dvd_mul (Nat.dvd_trans e1 (Nat.gcd_dvd_left _ _)) (Nat.dvd_refl d)
    rw [← Nat.gcd_mul_lcm (Nat.gcd a d) (Nat.gcd b d), Nat.mul_comm d] at key
    exact Nat.dvd_trans (Nat.dvd_of_mul_dvd_mul_left ep key) (Nat.lcm_dvd k1 k2)
def lcmL : List (Nat × Nat) → Nat
  | [] => 1
  | p :: ps => Nat.lcm p.2 (lcmL ps)
theorem lcmL_dvd {x : Nat} : ∀ {ps : List (Nat × Nat)}, lcmL ps ∣ x ↔ ∀ p ∈ ps, p.2 ∣ x
  | [] => by simp [lcmL]
  | p :: ps => by
    unfold lcmL
    constructor
    · intro h q hq
      rcases List.mem_cons.mp hq with e | e
      · rw [e]
        exact Nat.dvd_trans (Nat.dvd_lcm_left _ _) h
      · exact (lcmL_dvd (ps := ps)).mp (Nat.dvd_trans (Nat.dvd_lcm_right _ _) h) q e
    · intro h
      exact Nat.lcm_dvd (h p List.mem_cons_self) ((lcmL_dvd (ps := ps)).mpr fun q hq => h q (List.mem_cons_of_mem _ hq))
theorem lcmL_mem {ps : List (Nat × Nat)} {p : Nat × Nat} (h : p ∈ ps) : p.2 ∣ lcmL ps := lcmL_dvd.mp (Nat.dvd_refl _) p h
theorem lcmL_pos : ∀ {ps : List (Nat × Nat)}, (∀ p ∈ ps, 0 < p.2) → 0 < lcmL ps
  | [], _ => Nat.one_pos
  | p :: ps, h => Nat.lcm_pos (h p List.mem_cons_self) (lcmL_pos fun q hq => h q (List.mem_cons_of_mem _ hq))
theorem lcmL_snoc (ps : List (Nat × Nat)) (p : Nat × Nat) : lcmL (ps ++ [p]) = Nat.lcm (lcmL ps) p.2 := by
  refine Nat.dvd_antisymm ?_ ?_
  · refine lcmL_dvd.mpr fun q hq => ?_
    rcases List.mem_append.mp hq with e | e
    · exact Nat.dvd_trans (lcmL_mem e) (Nat.dvd_lcm_left _ _)
    · rw [List.mem_singleton.mp e]
      exact Nat.dvd_lcm_right _ _
  · exact Nat.lcm_dvd (lcmL_dvd.mpr fun q hq => lcmL_mem (List.mem_append_left _ hq)) (lcmL_mem (List.mem_append_right _ (List.mem_singleton.mpr rfl)))
theorem lcmL_rev (ps : List (Nat × Nat)) : lcmL ps.reverse = lcmL ps :=
  Nat.dvd_antisymm (lcmL_dvd.mpr fun q hq => lcmL_mem (List.mem_reverse.mp hq)) (lcmL_dvd.mpr fun q hq => lcmL_mem (List.mem_reverse.mpr hq))
theorem lcm_by (M m : Nat) : M / Nat.gcd M m * m = Nat.lcm M m := by
  unfold Nat.lcm
  obtain ⟨k, hk⟩ := Nat.gcd_dvd_left M m
  by_cases g0 : Nat.gcd M m = 0
  · rw [g0, Nat.div_zero, Nat.div_zero, Nat.zero_mul]
  · have gp := Nat.pos_of_ne_zero g0
    have e1 : M / Nat.gcd M m = k := by
      conv => lhs; lhs; rw [hk]
      exact Nat.mul_div_cancel_left k gp
    have e2 : M * m / Nat.gcd M m = k * m := by
      conv => lhs; lhs; rw [hk, Nat.mul_assoc]
      exact Nat.mul_div_cancel_left _ gp
    rw [e1, e2]
def Sol (ps : List (Nat × Nat)) (z : Nat) : Prop := ∀ p ∈ ps, z % p.2 = p.1
theorem mod_dvd {z r m : Nat} (h : z % m = r) : (m : Int) ∣ (z : Int) - (r : Int) := by
  refine ⟨((z / m : Nat) : Int), ?_⟩
  have := Nat.mod_add_div z m
  rw [h] at this
  rw [← Int.natCast_mul]
  omega
theorem mod_of_dvd {z r m : Nat} (h : (m : Int) ∣ (z : Int) - (r : Int)) (hr : r < m) : z % m = r := by
  have h1 : (z : Int) % (m : Int) = (r : Int) % (m : Int) := Int.emod_eq_emod_iff_emod_sub_eq_zero.mpr (Int.emod_eq_zero_of_dvd h)
  rw [← Int.natCast_emod, ← Int.natCast_emod, Nat.mod_eq_of_lt hr] at h1
  exact Int.ofNat.inj h1
theorem sol_dvd {ps : List (Nat × Nat)} {z z' : Nat} (h : Sol ps z) (h' : Sol ps z') : (lcmL ps : Int) ∣ (z : Int) - (z' : Int) := by
  refine Int.ofNat_dvd_left.mpr (lcmL_dvd.mpr fun p hp => Int.ofNat_dvd_left.mp ?_)
  have a := mod_dvd (h p hp)
  have b := mod_dvd (h' p hp)
  have e : (z : Int) - (z' : Int) = ((z : Int) - (p.1 : Int)) - ((z' : Int) - (p.1 : Int)) := by omega
  rw [e]
  exact Int.dvd_sub a b
theorem sol_uniq {ps : List (Nat × Nat)} {z z' : Nat} (h : Sol ps z) (h' : Sol ps z') (hz : z < lcmL ps) (hz' : z' < lcmL ps) : z = z' := by
  have d := sol_dvd h h'
  have h1 : (z : Int) % (lcmL ps : Int) = (z' : Int) % (lcmL ps : Int) := Int.emod_eq_emod_iff_emod_sub_eq_zero.mpr (Int.emod_eq_zero_of_dvd d)
  rw [← Int.natCast_emod, ← Int.natCast_emod, Nat.mod_eq_of_lt hz, Nat.mod_eq_of_lt hz'] at h1
  exact Int.ofNat.inj h1
theorem sol_sub {ps qs : List (Nat × Nat)} {z : Nat} (h : Sol ps z) (hs : ∀ p ∈ qs, p ∈ ps) : Sol qs z := fun p hp => h p (hs p hp)
theorem sol_rev {ps : List (Nat × Nat)} {z : Nat} : Sol ps.reverse z ↔ Sol ps z :=
  ⟨fun h => sol_sub h fun _ hp => List.mem_reverse.mpr hp, fun h => sol_sub h fun _ hp => List.mem_reverse.mp hp⟩
/-- all numbers leave the two: the rests go together -/
theorem sol_gcd {z R r M m : Nat} (h1 : (M : Int) ∣ (z : Int) - (R : Int)) (h2 : z % m = r) : ((Nat.gcd M m : Nat) : Int) ∣ (r : Int) - (R : Int) := by
  have a : ((Nat.gcd M m : Nat) : Int) ∣ (z : Int) - (R : Int) := Int.dvd_trans (Int.natCast_dvd_natCast.mpr (Nat.gcd_dvd_left M m)) h1
  have b : ((Nat.gcd M m : Nat) : Int) ∣ (z : Int) - (r : Int) := Int.dvd_trans (Int.natCast_dvd_natCast.mpr (Nat.gcd_dvd_right M m)) (mod_dvd h2)
  have e : (r : Int) - (R : Int) = ((z : Int) - (R : Int)) - ((z : Int) - (r : Int)) := by omega
  rw [e]
  exact Int.dvd_sub a b
/-- a step that meets the next rest -/
theorem step_some {R r M m : Nat} (hm : 0 < m) (h : ((Nat.gcd M m : Nat) : Int) ∣ (r : Int) - (R : Int)) : ∃ s : Nat, s < m / Nat.gcd M m ∧ (m : Int) ∣ ((R : Int) + (s : Int) * (M : Int)) - (r : Int) := by
  obtain ⟨u, v, e⟩ := bez M m
  obtain ⟨t, ht⟩ := h
  obtain ⟨M', hM⟩ := Nat.gcd_dvd_left M m
  obtain ⟨m', hm'⟩ := Nat.gcd_dvd_right M m
  generalize hg : Nat.gcd M m = g at *
  have gp : 0 < g := by
    rcases Nat.eq_zero_or_pos g with z | z
    · rw [z, Nat.zero_mul] at hm'
      omega
    · exact z
  have mp : 0 < m' := by
    rcases Nat.eq_zero_or_pos m' with z | z
    · rw [z, Nat.mul_zero] at hm'
      omega
    · exact z
  have e1 : m / g = m' := by
    rw [hm']
    exact Nat.mul_div_cancel_left m' gp
  rw [e1]
  have mp' : (0 : Int) < (m' : Int) := Int.natCast_pos.mpr mp
  have n0 := Int.emod_nonneg (t * u) (Int.ne_of_gt mp')
  have n1 := Int.emod_lt_of_pos (t * u) mp'
  refine ⟨((t * u) % (m' : Int)).toNat, by omega, ?_⟩
  rw [Int.toNat_of_nonneg n0]
  have e2 := Int.emod_add_mul_ediv (t * u) (m' : Int)
  generalize (t * u) % (m' : Int) = s at *
  generalize (t * u) / (m' : Int) = k at *
  -- s = t u - m' k ; r - R = g t ; u M + v m = g
  refine ⟨-(t * v) - k * (M' : Int), ?_⟩
  have hMi : (M : Int) = (g : Int) * (M' : Int) := by rw [hM, Int.natCast_mul]
  have hmi : (m : Int) = (g : Int) * (m' : Int) := by rw [hm', Int.natCast_mul]
  have hs : s = t * u - (m' : Int) * k := by omega
  have hr : (r : Int) = (R : Int) + (g : Int) * t := by omega
  have e3 : (g : Int) * t = t * u * (M : Int) + t * v * (m : Int) := by
    rw [← e, Int.add_mul]
    have a1 : u * (M : Int) * t = t * u * (M : Int) := by rw [Int.mul_comm, ← Int.mul_assoc]
    have a2 : v * (m : Int) * t = t * v * (m : Int) := by rw [Int.mul_comm, ← Int.mul_assoc]
    rw [a1, a2]
  have e4 : (m' : Int) * k * (M : Int) = (m : Int) * (k * (M' : Int)) := by
    rw [hMi, hmi, Int.mul_assoc, Int.mul_assoc, Int.mul_left_comm k, Int.mul_left_comm (m' : Int)]
  rw [hs, hr, e3, Int.sub_mul, e4, Int.mul_sub, Int.mul_neg, Int.mul_comm (m : Int) (t * v)]
  omega
theorem sol_next {ps : List (Nat × Nat)} {R r m s : Nat} (h : Sol ps R) (hr : r < m) (hd : (m : Int) ∣ ((R : Int) + (s : Int) * ((lcmL ps : Nat) : Int)) - (r : Int)) : Sol (ps ++ [(r, m)]) (R + s * lcmL ps) := by
  intro p hp
  rcases List.mem_append.mp hp with e | e
  · obtain ⟨k, hk⟩ := lcmL_mem e
    rw [hk, ← Nat.mul_assoc, Nat.mul_comm s p.2, Nat.mul_assoc, Nat.add_mul_mod_self_left]
    exact h p e
  · rw [List.mem_singleton.mp e]
    refine mod_of_dvd ?_ hr
    rw [Int.natCast_add, Int.natCast_mul]
    exact hd
/-- each two go together: all do -/
theorem gcd_lcmL {m x : Nat} : ∀ {ps : List (Nat × Nat)}, (∀ p ∈ ps, Nat.gcd p.2 m ∣ x) → Nat.gcd (lcmL ps) m ∣ x
  | [], _ => by
    show Nat.gcd 1 m ∣ x
    rw [Nat.gcd_one_left]
    exact Nat.one_dvd x
  | p :: ps, h => gcd_lcm_dvd (h p List.mem_cons_self) (gcd_lcmL fun q hq => h q (List.mem_cons_of_mem _ hq))
def Pairw (ps : List (Nat × Nat)) : Prop := ∀ p ∈ ps, ∀ q ∈ ps, ((Nat.gcd p.2 q.2 : Nat) : Int) ∣ (p.1 : Int) - (q.1 : Int)
theorem pairw_sol : ∀ {ps : List (Nat × Nat)}, (∀ p ∈ ps, p.1 < p.2) → Pairw ps → ∃ z, Sol ps z
  | [], _, _ => ⟨0, fun _ h => by cases h⟩
  | p :: ps, hv, hp => by
    obtain ⟨z, hz⟩ := pairw_sol (ps := ps) (fun q hq => hv q (List.mem_cons_of_mem _ hq)) fun a ha b hb => hp a (List.mem_cons_of_mem _ ha) b (List.mem_cons_of_mem _ hb)
    have hpm : p.1 < p.2 := hv p List.mem_cons_self
    have d : ((Nat.gcd (lcmL ps) p.2 : Nat) : Int) ∣ (p.1 : Int) - (z : Int) := by
      refine Int.ofNat_dvd_left.mpr (gcd_lcmL fun q hq => Int.ofNat_dvd_left.mp ?_)
      have a := hp p List.mem_cons_self q (List.mem_cons_of_mem _ hq)
      have b := mod_dvd (hz q hq)
      have c : ((Nat.gcd q.2 p.2 : Nat) : Int) ∣ (z : Int) - (q.1 : Int) := Int.dvd_trans (Int.natCast_dvd_natCast.mpr (Nat.gcd_dvd_left q.2 p.2)) b
      rw [Nat.gcd_comm] at a
      have e : (p.1 : Int) - (z : Int) = ((p.1 : Int) - (q.1 : Int)) - ((z : Int) - (q.1 : Int)) := by omega
      rw [e]
      exact Int.dvd_sub a c
    obtain ⟨s, _, hs⟩ := step_some (by omega) d
    have n := sol_next hz hpm hs
    exact ⟨_, fun q hq => n q (by
      rcases List.mem_cons.mp hq with e | e
      · exact List.mem_append_right _ (by rw [e]; exact List.mem_singleton.mpr rfl)
      · exact List.mem_append_left _ e)⟩
theorem sol_pairw {ps : List (Nat × Nat)} {z : Nat} (h : Sol ps z) : Pairw ps := by
  intro p hp q hq
  have a : ((Nat.gcd p.2 q.2 : Nat) : Int) ∣ (z : Int) - (p.1 : Int) := Int.dvd_trans (Int.natCast_dvd_natCast.mpr (Nat.gcd_dvd_left _ _)) (mod_dvd (h p hp))
  have b : ((Nat.gcd p.2 q.2 : Nat) : Int) ∣ (z : Int) - (q.1 : Int) := Int.dvd_trans (Int.natCast_dvd_natCast.mpr (Nat.gcd_dvd_right _ _)) (mod_dvd (h q hq))
  have e : (p.1 : Int) - (q.1 : Int) = ((z : Int) - (q.1 : Int)) - ((z : Int) - (p.1 : Int)) := by omega
  rw [e]
  exact Int.dvd_sub b a
end Sv

set_option Elab.async false
set_option linter.all false
set_option maxRecDepth 100000
set_option maxHeartbeats 4000000
namespace Sv
open PySem PySem.Spec PyProof.Rows L2 Evl
local macro_rules | `(tactic| walk_at "ev") => `(tactic| (repeat' (first | exact ev_var rfl | exact ev_c | exact rv_I0 | exact ea_nil | exact ru_neg | exact rv_eq rfl | exact rv_ne rfl | apply ev_op | apply rv_I | apply ev_un | apply et_test | apply et_B | apply et_not | apply ea_cons | apply ev_maxI | apply ev_minI)))
/-! ### a cell of the script, a drawn number -/
def cellS (ns : List Int) (k : Nat) : Int := if ns = [] then (k : Int) * 7919 else ns.getD (k % ns.length) 0 + ((k / ns.length : Nat) : Int) * 104729
def dP1 : Int := 340282366920938463463374607431768211507
def drawn (c k : Int) : Int :=
  let m1 := (c * 6364136223846793005 + (k + 1) * 1442695040888963407) % 340282366920938463463374607431768211507
  let m2 := m1 * m1 % 340282366920938463463374607431768211297
  let m3 := (m2 % 18446744073709551557 + 1) * (m2 / 18446744073709551557 + 1) * m2
  m3 % 340282366920938463463374607431768211507
theorem drawn_nn (c k : Int) : 0 ≤ drawn c k := Int.emod_nonneg _ (by decide)
theorem drawn_lt (c k : Int) : drawn c k < 340282366920938463463374607431768211507 := Int.emod_lt_of_pos _ (by decide)
def R__law_cell (G : Pm) : R2' := fun x y H Q _ => ∃ (a : Addr) (ns : List Int) (k : Nat), x = .ref a ∧ y = .int (k : Int) ∧ SqL G.K H a (ns.map V.int) ∧ ns.length ≤ 63 ∧ k ≤ 1000 ∧ RetV (.int (cellS ns k)) H Q
def R__law_drawn (G : Pm) : R2' := fun x y H Q _ => ∃ c k : Int, x = .int c ∧ y = .int k ∧ 0 ≤ k ∧ k ≤ 1000000 ∧ RetV (.int (drawn c k)) H Q
abbrev n__law_cell : List Str := ["_law_script", "_law_k"]
abbrev p__law_cell : List Str := ["_law_script", "_law_k"]
def sp__law_cell (G : Pm) : Sp := sp2 (R__law_cell G)
def t__law_cell (G : Pm) (E : XK) : TS :=
  (tSeq (tIfS (tTest (tOp (rEqD G.K) (tVar 0) (tLst tNil)))
  (tRet (tOp oMul (tVar 1) (tC (.int 7919))))
  tNext)
  (tRet (tOp oAdd (tOp (rIxL G.K) (tVar 0) (tOp oMod (tVar 1) (tCB (bLenQ G.K) (tCons (tVar 0) tNil)))) (tOp oMul (tOp oDiv (tVar 1) (tCB (bLenQ G.K) (tCons (tVar 0) tNil))) (tC (.int 104729))))))
def P__law_cell (G : Pm) : Prop := ∀ x0 x1 H Q E, R__law_cell G x0 x1 H Q E → t__law_cell G E (dn Q) (start n__law_cell [x0, x1]) H
abbrev n__law_drawn : List Str := ["_law_cell_here", "_law_k", "_law_more"]
abbrev p__law_drawn : List Str := ["_law_cell_here", "_law_k"]
def sp__law_drawn (G : Pm) : Sp := sp2 (R__law_drawn G)
def t__law_drawn (G : Pm) (E : XK) : TS :=
  (tSeq (tAsg (tOp oMod (tOp oAdd (tOp oMul (tVar 0) (tC (.int 6364136223846793005))) (tOp oMul (tOp oAdd (tVar 1) (tC (.int 1))) (tC (.int 1442695040888963407)))) (tC (.int 340282366920938463463374607431768211507))) (gName 2))
  (tSeq (tAsg (tOp oMod (tOp oMul (tVar 2) (tVar 2)) (tC (.int 340282366920938463463374607431768211297))) (gName 2))
  (tSeq (tAsg (tOp oMul (tOp oMul (tOp oAdd (tOp oMod (tVar 2) (tC (.int 18446744073709551557))) (tC (.int 1))) (tOp oAdd (tOp oDiv (tVar 2) (tC (.int 18446744073709551557))) (tC (.int 1)))) (tVar 2)) (gName 2))
  (tRet (tOp oMod (tVar 2) (tC (.int 340282366920938463463374607431768211507)))))))
def P__law_drawn (G : Pm) : Prop := ∀ x0 x1 H Q E, R__law_drawn G x0 x1 H Q E → t__law_drawn G E (dn Q) (start n__law_drawn [x0, x1]) H
theorem cm_r {i j : Int} (h1 : -(2 ^ 64) < j) (h2 : j < 2 ^ 64) : CM i j := .inl (.inr ⟨h1, h2⟩)
theorem cm_l {i j : Int} (h1 : -(2 ^ 64) < i) (h2 : i < 2 ^ 64) : CM i j := .inl (.inl ⟨h1, h2⟩)
theorem cdiv_w {i j : Int} (h : 0 < j) (h2 : j < 2 ^ 62) : CDivW i j := wide_div (b := 62) h (by omega) (by decide) (by decide)
theorem pure__law_cell (G : Pm) : P__law_cell G := by
  intro x0 x1 H Q E h
  obtain ⟨a, ns, k, rfl, rfl, hS, hl, hk, q⟩ := h
  refine q_when (b := decide (ns = [])) ?_ (fun hb H1 e1 => ?_) (fun hb H1 e1 => ?_)
  · refine et_test (ev_is (ev_opL (ev_var rfl) (el_lst ea_nil (Nat.zero_le _)) fun p H1 h1 e1 => rv_eqD (dp_il (ex_l e1 hS)) (dp_il (ns := []) (sq_of h1)) (sh_il _) (sh_il _)) ?_)
    rw [eqv_il]
  · have e0 : ns = [] := of_decide_eq_true hb
    refine s_ret (v := .int ((k : Int) * 7919)) ?_ fun H2 e2 => ?_
    · walk_at "ev"
      exact cm_r (by decide) (by decide)
    · have := q.go (e1.trans e2)
      unfold cellS at this
      rw [if_pos e0] at this
      exact this
  · have e0 : ns ≠ [] := of_decide_eq_false hb
    have lp : 0 < ns.length := List.length_pos_iff.mpr e0
    have lq : (0 : Int) < ((ns.map V.int).length : Int) := by
      rw [List.length_map]
      omega
    have hS1 := ex_l e1 hS
    have hm : k % ns.length < ns.length := Nat.mod_lt _ lp
    refine s_ret (v := .int (cellS ns k)) ?_ fun H2 e2 => q.go (e1.trans e2)
    refine ev_is (ev_op (ev_op (ev_var rfl) (ev_op (ev_var rfl) (ev_lenL (ev_var rfl) hS1) (rv_I lq)) (rv_ixL hS1 (v := .int (ns.getD (k % ns.length) 0)) ?_)) (ev_op (ev_op (ev_var rfl) (ev_lenL (ev_var rfl) hS1) (rv_I (cdiv_w lq ?_))) ev_c (rv_I (cm_r (by decide) (by decide)))) rv_I0) ?_
    · rw [List.length_map, ← Int.natCast_emod]
      refine atI_nat ?_
      rw [List.getElem?_map, List.getElem?_eq_getElem hm, List.getD_eq_getElem?_getD, List.getElem?_eq_getElem hm]
      rfl
    · rw [List.length_map]
      omega
    · rw [List.length_map, ← Int.natCast_ediv]
      unfold cellS
      rw [if_neg e0]
theorem two_128 : (340282366920938463463374607431768211507 : Int) < 2 ^ 129 := by decide
theorem na_lt {i : Int} {n : Nat} (h0 : 0 ≤ i) (h : i < 2 ^ n) : i.natAbs < 2 ^ n := by
  have e : ((2 ^ n : Nat) : Int) = (2 : Int) ^ n := by
    rw [Int.natCast_pow]
    rfl
  omega
theorem pure__law_drawn (G : Pm) : P__law_drawn G := by
  intro x0 x1 H Q E h
  obtain ⟨c, k, rfl, rfl, k0, k1, q⟩ := h
  have a0 : 0 ≤ (c * 6364136223846793005 + (k + 1) * 1442695040888963407) % 340282366920938463463374607431768211507 := Int.emod_nonneg _ (by decide)
  have a1 : (c * 6364136223846793005 + (k + 1) * 1442695040888963407) % 340282366920938463463374607431768211507 < 2 ^ 129 := Int.lt_trans (Int.emod_lt_of_pos _ (by decide)) two_128
  refine q_asg (v := .int ((c * 6364136223846793005 + (k + 1) * 1442695040888963407) % 340282366920938463463374607431768211507)) ?_ fun H1 e1 => ?_
  · walk_at "ev"
    · exact cm_r (by decide) (by decide)
    · exact cm_r (by decide) (by decide)
    · decide
  generalize hm1 : (c * 6364136223846793005 + (k + 1) * 1442695040888963407) % 340282366920938463463374607431768211507 = m1 at *
  have b0 : 0 ≤ m1 * m1 % 340282366920938463463374607431768211297 := Int.emod_nonneg _ (by decide)
  have b1 : m1 * m1 % 340282366920938463463374607431768211297 < 340282366920938463463374607431768211297 := Int.emod_lt_of_pos _ (by decide)
  refine q_asg (v := .int (m1 * m1 % 340282366920938463463374607431768211297)) ?_ fun H2 e2 => ?_
  · walk_at "ev"
    · exact .inr (wide_mul (a := 129) (b := 129) (na_lt a0 a1) (na_lt a0 a1) (by decide) (by decide) (by decide))
    · decide
  generalize hm2 : m1 * m1 % 340282366920938463463374607431768211297 = m2 at *
  refine q_asg (v := .int ((m2 % 18446744073709551557 + 1) * (m2 / 18446744073709551557 + 1) * m2)) ?_ fun H3 e3 => ?_
  · have d0 : 0 ≤ m2 % 18446744073709551557 := Int.emod_nonneg _ (by decide)
    have d1 : m2 % 18446744073709551557 < 18446744073709551557 := Int.emod_lt_of_pos _ (by decide)
    have f0 : 0 ≤ m2 / 18446744073709551557 := by omega
    have f1 : m2 / 18446744073709551557 < 2 ^ 65 := by omega
    walk_at "ev"
    · decide
    · exact wide_div (b := 64) (by decide) (by decide) (by decide) (by decide)
    · exact cm_l (by omega) (by omega)
    · refine .inr (wide_mul (a := 200) (b := 129) (Nat.lt_of_lt_of_le (wide_lt (a := 65) (b := 66) (na_lt (by omega) (by omega)) (na_lt (by omega) (by omega))) (by decide)) (na_lt b0 (by omega)) (by decide) (by decide) (by decide))
  refine s_ret (v := .int (drawn c k)) ?_ fun H4 e4 => q.go (((e1.trans e2).trans e3).trans e4)
  refine ev_is (v := .int ((m2 % 18446744073709551557 + 1) * (m2 / 18446744073709551557 + 1) * m2 % 340282366920938463463374607431768211507)) ?_ ?_
  · walk_at "ev"
    decide
  · unfold drawn
    rw [hm1]
    dsimp only
    rw [hm2]
end Sv

set_option Elab.async false
set_option linter.all false
set_option maxRecDepth 100000
set_option maxHeartbeats 4000000
namespace Sv
open PySem PySem.Spec PyProof.Rows L2 Evl HotX L2H LamX
local macro_rules | `(tactic| walk_at "ev") => `(tactic| (repeat' (first | exact ev_var rfl | exact ev_c | exact rv_I0 | exact ea_nil | exact ru_neg | exact rv_eq rfl | exact rv_ne rfl | apply ev_op | apply rv_I | apply ev_un | apply et_test | apply et_B | apply et_not | apply ea_cons | apply ev_maxI | apply ev_minI)))
/-- a refusal -/
def No (C : Addr) (H : Hp) (E : XK) : Prop := ∀ H', Ex H H' → E (.ref C) none H'
theorem No.ex {C : Addr} {H H' : Hp} {E : XK} (e : Ex H H') (h : No C H E) : No C H' E := fun H1 e1 => h H1 (e.trans e1)
theorem RetV.ex {v : V} {H H' : Hp} {Q : VK} (e : Ex H H') (h : RetV v H Q) : RetV v H' Q := fun H1 e1 => h H1 (e.trans e1)
theorem RetL.ex {xs : List V} {H H' : Hp} {Q : VK} (e : Ex H H') (h : RetL xs H Q) : RetL xs H' Q := fun p H1 hp e1 h1 => h p H1 (fresh_back e hp) (e.trans e1) h1
/-! ### numbers and what is none -/
def NumBad (x : V) (lo hi : Int) : Prop := x = .non ∨ (∃ b, x = .bl b) ∨ (∃ s, x = .str s) ∨ ∃ i : Int, x = .int i ∧ ¬ (lo ≤ i ∧ i ≤ hi)
def R_need_number (G : Pm) : R3 := fun x y z H Q E => ∃ lo hi : Int, y = .int lo ∧ z = .int hi ∧ ((∃ i : Int, x = .int i ∧ lo ≤ i ∧ i ≤ hi ∧ RetV .non H Q) ∨ (NumBad x lo hi ∧ No G.BadNumber H E))
/-! ### residues: the specs -/
def R_common (_ : Pm) : R2' := fun x y H Q _ => ∃ a b : Nat, x = .int (a : Int) ∧ y = .int (b : Int) ∧ RetV (.int ((Nat.gcd a b : Nat) : Int)) H Q
abbrev isA (x : V) (a : Nat) : Prop := x = .int (a : Int) ∧ a ≤ 1000000000
abbrev isM (y : V) (m : Nat) : Prop := y = .int (m : Int) ∧ 1 ≤ m ∧ m ≤ 2000
def LookBad (x y : V) : Prop := NumBad x 0 1000000000 ∨ ((∃ a, isA x a) ∧ NumBad y 1 2000)
def R_look (G : Pm) : R2' := fun x y H Q E => ((∃ a m, isA x a ∧ isM y m) ∧ RetV .non H Q) ∨ (LookBad x y ∧ No G.BadNumber H E)
def R_need_apart (G : Pm) : R2' := fun x y H Q E => ∃ a m : Nat, x = .int (a : Int) ∧ y = .int (m : Int) ∧ ((Nat.gcd a m = 1 ∧ RetV .non H Q) ∨ (Nat.gcd a m ≠ 1 ∧ No G.NoWay H E))
def R_inverse (G : Pm) : R2' := fun x y H Q E => (∃ a m, isA x a ∧ isM y m ∧ ((Nat.gcd a m = 1 ∧ ∃ r : Nat, r < m ∧ r * a % m = 1 % m ∧ RetV (.int ((r : Nat) : Int)) H Q) ∨ (Nat.gcd a m ≠ 1 ∧ No G.NoWay H E))) ∨ (LookBad x y ∧ No G.BadNumber H E)
def R_turns_of (_ : Pm) : R2' := fun x y H Q _ => ∃ a m L : Nat, isA x a ∧ isM y m ∧ Ord a m L ∧ RetV (.int (L : Int)) H Q
def R_order_of (G : Pm) : R2' := fun x y H Q E => (∃ a m, isA x a ∧ isM y m ∧ ((Nat.gcd a m = 1 ∧ ∃ L : Nat, Ord a m L ∧ RetV (.int ((L : Nat) : Int)) H Q) ∨ (Nat.gcd a m ≠ 1 ∧ No G.NoWay H E))) ∨ (LookBad x y ∧ No G.BadNumber H E)
def natV (l : List Nat) : List V := l.map fun u : Nat => V.int (u : Int)
def R_units_of (_ : Pm) : R1 := fun x H Q _ => ∃ m, isM x m ∧ RetL (natV (units m)) H Q
def R_coprimes (G : Pm) : R1 := fun x H Q E => (∃ m, isM x m ∧ RetL (natV (units m)) H Q) ∨ (NumBad x 1 2000 ∧ No G.BadNumber H E)
def onV : Option Nat → V
  | none => .non
  | some k => .int (k : Int)
/-- the least root -/
def Root (m : Nat) (v : Option Nat) : Prop := (∃ i u : Nat, (units m)[i]? = some u ∧ Ord u m (units m).length ∧ (∀ j w : Nat, j < i → (units m)[j]? = some w → ¬ Ord w m (units m).length) ∧ v = some u) ∨ ((∀ (j w : Nat), (units m)[j]? = some w → ¬ Ord w m (units m).length) ∧ v = none)
def R_least_root (G : Pm) : R1 := fun x H Q E => (∃ m v, isM x m ∧ Root m v ∧ RetV (onV v) H Q) ∨ (NumBad x 1 2000 ∧ No G.BadNumber H E)
def rootB (a m r : Nat) : Bool := decide (V.int (((r : Int) * (r : Int) - (a : Int)) % (m : Int)) = V.int 0)
def R_roots (G : Pm) : R2' := fun x y H Q E => (∃ a m, isA x a ∧ isM y m ∧ RetL (natV ((List.range m).filter (rootB a m))) H Q) ∨ (LookBad x y ∧ No G.BadNumber H E)
def R_log_of (G : Pm) : R3 := fun x y z H Q E => (∃ b a m v, isA x b ∧ isA y a ∧ isM z m ∧ Log b a m v ∧ RetV (onV v) H Q) ∨ ((NumBad x 0 1000000000 ∨ ((∃ b, isA x b) ∧ LookBad y z)) ∧ No G.BadNumber H E)
abbrev n_need_number : List Str := ["number", "least", "most"]
abbrev p_need_number : List Str := ["number", "least", "most"]
def sp_need_number (G : Pm) : Sp := sp3 (R_need_number G)
def t_need_number (G : Pm) (E : XK) : TS :=
  (tIfS (tOr (tNot (tB (tCB (rIsi G.K) (tCons (tVar 0) (tCons (tC (.ty "int")) tNil))))) (tOr (tB (tCB (rIsi G.K) (tCons (tVar 0) (tCons (tC (.ty "bool")) tNil)))) (tNot (tTest (tChain cLe cLe (tVar 1) (tVar 0) (tVar 2))))))
  (tRaise G.BadNumber E)
  tNext)
def P_need_number (G : Pm) : Prop := ∀ x0 x1 x2 H Q E, R_need_number G x0 x1 x2 H Q E → t_need_number G E (dn Q) (start n_need_number [x0, x1, x2]) H
abbrev n_common : List Str := ["one", "other"]
abbrev p_common : List Str := ["one", "other"]
def sp_common (G : Pm) : Sp := sp2 (R_common G)
def t_common (G : Pm) (E : XK) : TS :=
  (tSeq (tWhile (tTest (tOp cGt (tVar 1) (tC (.int 0))))
  (tPar 0 1 (tCons (tVar 1) (tCons (tOp oMod (tVar 0) (tVar 1)) tNil))))
  (tRet (tVar 0)))
def P_common (G : Pm) : Prop := ∀ x0 x1 H Q E, R_common G x0 x1 H Q E → t_common G E (dn Q) (start n_common [x0, x1]) H
abbrev n_look : List Str := ["number", "modulus"]
abbrev p_look : List Str := ["number", "modulus"]
def sp_look (G : Pm) : Sp := sp2 (R_look G)
def t_look (G : Pm) (E : XK) : TS :=
  (tSeq (tDrop (tCall (sp_need_number G) [] E (tCons (tVar 0) (tCons (tC (.int 0)) (tCons (tC (.int 1000000000)) tNil)))))
  (tDrop (tCall (sp_need_number G) [] E (tCons (tVar 1) (tCons (tC (.int 1)) (tCons (tC (.int 2000)) tNil))))))
def P_look (G : Pm) : Prop := ∀ x0 x1 H Q E, R_look G x0 x1 H Q E → t_look G E (dn Q) (start n_look [x0, x1]) H
abbrev n_need_apart : List Str := ["number", "modulus"]
abbrev p_need_apart : List Str := ["number", "modulus"]
def sp_need_apart (G : Pm) : Sp := sp2 (R_need_apart G)
def t_need_apart (G : Pm) (E : XK) : TS :=
  (tIfS (tTest (tOp rNe (tCall (sp_common G) [] E (tCons (tVar 0) (tCons (tVar 1) tNil))) (tC (.int 1))))
  (tRaise G.NoWay E)
  tNext)
def P_need_apart (G : Pm) : Prop := ∀ x0 x1 H Q E, R_need_apart G x0 x1 H Q E → t_need_apart G E (dn Q) (start n_need_apart [x0, x1]) H
abbrev n_inverse : List Str := ["number", "modulus", "one", "other", "many"]
abbrev p_inverse : List Str := ["number", "modulus"]
def sp_inverse (G : Pm) : Sp := sp2 (R_inverse G)
def t_inverse (G : Pm) (E : XK) : TS :=
  (tSeq (tDrop (tCall (sp_look G) [] E (tCons (tVar 0) (tCons (tVar 1) tNil))))
  (tSeq (tDrop (tCall (sp_need_apart G) [] E (tCons (tVar 0) (tCons (tVar 1) tNil))))
  (tSeq (tPar 2 3 (tCons (tTup (tCons (tVar 1) (tCons (tC (.int 0)) tNil))) (tCons (tTup (tCons (tOp oMod (tVar 0) (tVar 1)) (tCons (tC (.int 1)) tNil))) tNil)))
  (tSeq (tWhile (tTest (tOp rNe (tOp (rIxT G.K) (tVar 3) (tC (.int 0))) (tC (.int 0))))
  (tSeq (tAsg (tOp oDiv (tOp (rIxT G.K) (tVar 2) (tC (.int 0))) (tOp (rIxT G.K) (tVar 3) (tC (.int 0)))) (gName 4))
  (tPar 2 3 (tCons (tVar 3) (tCons (tTup (tCons (tOp oSub (tOp (rIxT G.K) (tVar 2) (tC (.int 0))) (tOp oMul (tVar 4) (tOp (rIxT G.K) (tVar 3) (tC (.int 0))))) (tCons (tOp oSub (tOp (rIxT G.K) (tVar 2) (tC (.int 1))) (tOp oMul (tVar 4) (tOp (rIxT G.K) (tVar 3) (tC (.int 1))))) tNil))) tNil)))))
  (tRet (tOp oMod (tOp (rIxT G.K) (tVar 2) (tC (.int 1))) (tVar 1)))))))
def P_inverse (G : Pm) : Prop := ∀ x0 x1 H Q E, R_inverse G x0 x1 H Q E → t_inverse G E (dn Q) (start n_inverse [x0, x1]) H
abbrev n_turns_of : List Str := ["number", "modulus", "found", "here"]
abbrev p_turns_of : List Str := ["number", "modulus"]
def sp_turns_of (G : Pm) : Sp := sp2 (R_turns_of G)
def t_turns_of (G : Pm) (E : XK) : TS :=
  (tSeq (tPar 2 3 (tCons (tC (.int 1)) (tCons (tOp oMod (tVar 0) (tVar 1)) tNil)))
  (tSeq (tWhile (tTest (tOp rNe (tVar 3) (tOp oMod (tC (.int 1)) (tVar 1))))
  (tSeq (tAsg (tOp oMod (tOp oMul (tVar 3) (tVar 0)) (tVar 1)) (gName 3))
  (tAsg (tOp oAdd (tVar 2) (tC (.int 1))) (gName 2))))
  (tRet (tVar 2))))
def P_turns_of (G : Pm) : Prop := ∀ x0 x1 H Q E, R_turns_of G x0 x1 H Q E → t_turns_of G E (dn Q) (start n_turns_of [x0, x1]) H
abbrev n_order_of : List Str := ["number", "modulus"]
abbrev p_order_of : List Str := ["number", "modulus"]
def sp_order_of (G : Pm) : Sp := sp2 (R_order_of G)
def t_order_of (G : Pm) (E : XK) : TS :=
  (tSeq (tDrop (tCall (sp_look G) [] E (tCons (tVar 0) (tCons (tVar 1) tNil))))
  (tSeq (tDrop (tCall (sp_need_apart G) [] E (tCons (tVar 0) (tCons (tVar 1) tNil))))
  (tRet (tCall (sp_turns_of G) [] E (tCons (tVar 0) (tCons (tVar 1) tNil))))))
def P_order_of (G : Pm) : Prop := ∀ x0 x1 H Q E, R_order_of G x0 x1 H Q E → t_order_of G E (dn Q) (start n_order_of [x0, x1]) H
abbrev n_units_of : List Str := ["modulus", "number"]
abbrev p_units_of : List Str := ["modulus"]
def sp_units_of (G : Pm) : Sp := sp1 (R_units_of G)
def t_units_of (G : Pm) (E : XK) : TS :=
  (tRet (tLc (iRng1 (tCons (tVar 0) tNil)) (gName 1) (tTest (tOp rEq (tCall (sp_common G) [] E0 (tCons (tVar 1) (tCons (tVar 0) tNil))) (tC (.int 1)))) (tVar 1) [1]))
def P_units_of (G : Pm) : Prop := ∀ x0 H Q E, R_units_of G x0 H Q E → t_units_of G E (dn Q) (start n_units_of [x0]) H
abbrev n_coprimes : List Str := ["modulus"]
abbrev p_coprimes : List Str := ["modulus"]
def sp_coprimes (G : Pm) : Sp := sp1 (R_coprimes G)
def t_coprimes (G : Pm) (E : XK) : TS :=
  (tSeq (tDrop (tCall (sp_need_number G) [] E (tCons (tVar 0) (tCons (tC (.int 1)) (tCons (tC (.int 2000)) tNil)))))
  (tRet (tCall (sp_units_of G) [] E (tCons (tVar 0) tNil))))
def P_coprimes (G : Pm) : Prop := ∀ x0 H Q E, R_coprimes G x0 H Q E → t_coprimes G E (dn Q) (start n_coprimes [x0]) H
abbrev n_least_root : List Str := ["modulus", "some", "number"]
abbrev p_least_root : List Str := ["modulus"]
def sp_least_root (G : Pm) : Sp := sp1 (R_least_root G)
def t_least_root (G : Pm) (E : XK) : TS :=
  (tSeq (tDrop (tCall (sp_need_number G) [] E (tCons (tVar 0) (tCons (tC (.int 1)) (tCons (tC (.int 2000)) tNil)))))
  (tSeq (tAsg (tCall (sp_units_of G) [] E (tCons (tVar 0) tNil)) (gName 1))
  (tSeq (tFor (iList G.K (tVar 1)) (gName 2)
  (tIfS (tTest (tOp rEq (tCall (sp_turns_of G) [] E (tCons (tVar 2) (tCons (tVar 0) tNil))) (tCB (bLenQ G.K) (tCons (tVar 1) tNil))))
  (tRet (tVar 2))
  tNext))
  (tRet (tC .non)))))
def P_least_root (G : Pm) : Prop := ∀ x0 H Q E, R_least_root G x0 H Q E → t_least_root G E (dn Q) (start n_least_root [x0]) H
abbrev n_roots : List Str := ["number", "modulus", "one"]
abbrev p_roots : List Str := ["number", "modulus"]
def sp_roots (G : Pm) : Sp := sp2 (R_roots G)
def t_roots (G : Pm) (E : XK) : TS :=
  (tSeq (tDrop (tCall (sp_look G) [] E (tCons (tVar 0) (tCons (tVar 1) tNil))))
  (tRet (tLc (iRng1 (tCons (tVar 1) tNil)) (gName 2) (tTest (tOp rEq (tOp oMod (tOp oSub (tOp oMul (tVar 2) (tVar 2)) (tVar 0)) (tVar 1)) (tC (.int 0)))) (tVar 2) [2])))
def P_roots (G : Pm) : Prop := ∀ x0 x1 H Q E, R_roots G x0 x1 H Q E → t_roots G E (dn Q) (start n_roots [x0, x1]) H
abbrev n_log_of : List Str := ["base", "number", "modulus", "here", "power"]
abbrev p_log_of : List Str := ["base", "number", "modulus"]
def sp_log_of (G : Pm) : Sp := sp3 (R_log_of G)
def t_log_of (G : Pm) (E : XK) : TS :=
  (tSeq (tDrop (tCall (sp_need_number G) [] E (tCons (tVar 0) (tCons (tC (.int 0)) (tCons (tC (.int 1000000000)) tNil)))))
  (tSeq (tDrop (tCall (sp_look G) [] E (tCons (tVar 1) (tCons (tVar 2) tNil))))
  (tSeq (tAsg (tOp oMod (tC (.int 1)) (tVar 2)) (gName 3))
  (tSeq (tFor (iRng1 (tCons (tOp oAdd (tVar 2) (tC (.int 1))) tNil)) (gName 4)
  (tSeq (tIfS (tTest (tOp rEq (tVar 3) (tOp oMod (tVar 1) (tVar 2))))
  (tRet (tVar 4))
  tNext)
  (tAsg (tOp oMod (tOp oMul (tVar 3) (tVar 0)) (tVar 2)) (gName 3))))
  (tRet (tC .non))))))
def P_log_of (G : Pm) : Prop := ∀ x0 x1 x2 H Q E, R_log_of G x0 x1 x2 H Q E → t_log_of G E (dn Q) (start n_log_of [x0, x1, x2]) H
theorem pure_need_number (G : Pm) : P_need_number G := by
  intro x0 x1 x2 H Q E h
  obtain ⟨lo, hi, rfl, rfl, h⟩ := h
  have num : ∀ i : Int, x0 = .int i → ∀ b, b = (!(decide (lo ≤ i) && decide (i ≤ hi))) → (b = true → No G.BadNumber H E) → (b = false → RetV .non H Q) → t_need_number G E (dn Q) (start n_need_number [x0, .int lo, .int hi]) H := by
    rintro i rfl b rfl h1 h2
    refine s_when (b := !true || (false || !(decide (lo ≤ i) && decide (i ≤ hi)))) (et_or (et_not (et_B (ev_isi (ev_var rfl) (fun _ _ => .base (.int i)) (by decide +kernel)))) fun _ => et_or (et_B (ev_isi (ev_var rfl) (fun _ _ => .base (.int i)) (by decide +kernel))) fun _ => et_not (et_chain (ev_chain (ev_var rfl) (ev_var rfl) rv_I0 (fun _ => ev_var rfl) fun _ => rv_I0))) (fun hb H1 e1 => h1 (by simpa using hb) H1 e1) fun hb H1 e1 => h2 (by simpa using hb) H1 e1
  have odd : ∀ (n m : Bool) (t : String), (∀ H1, Ex H H1 → TyX G.K H1 x0 (.type t)) → kitB t "int" = some n → kitB t "bool" = some m → (!n || (m || true)) = true → (n = true → m = true) → No G.BadNumber H E → t_need_number G E (dn Q) (start n_need_number [x0, .int lo, .int hi]) H := by
    intro n m t ht k1 k2 _ hnm no
    refine s_when (b := !n || (m || true)) (et_or (et_not (et_B (ev_isi (ev_var rfl) ht k1))) fun z => et_or (et_B (ev_isi (ev_var rfl) ht k2)) fun y => ?_) (fun _ H1 e1 => no H1 e1) fun hb => ?_
    · have : n = true := by simpa using z
      have := hnm this
      rw [y] at this
      cases this
    · cases n <;> cases m <;> cases hb
  rcases h with ⟨i, rfl, l1, l2, q⟩ | ⟨hb, no⟩
  · refine num i rfl _ rfl (fun z => ?_) fun _ => q
    rw [decide_eq_true l1, decide_eq_true l2] at z
    cases z
  · rcases hb with rfl | ⟨b, rfl⟩ | ⟨s, rfl⟩ | ⟨i, rfl, hi'⟩
    · exact odd false false "NoneType" (fun _ _ => .base .non) (by decide +kernel) (by decide +kernel) rfl (fun z => (by cases z)) no
    · exact odd true true "bool" (fun _ _ => .base (.bl b)) (by decide +kernel) (by decide +kernel) rfl (fun _ => rfl) no
    · exact odd false false "str" (fun _ _ => .base (.str s)) (by decide +kernel) (by decide +kernel) rfl (fun z => (by cases z)) no
    · refine num i rfl _ rfl (fun _ => no) fun z => ?_
      have : lo ≤ i ∧ i ≤ hi := by simpa using z
      exact (hi' this).elim
/-- need_number(..) as a statement -/
theorem q_num {G : Pm} {σ : L2.St} {H : Hp} {ta tb tc : TE} {E : XK} {D : Ends} {tz : TS} {x : V} {lo hi : Int} (ha : Ev ta σ H x) (hb : Ev tb σ H (.int lo)) (hc : Ev tc σ H (.int hi))
    (h : ((∃ i : Int, x = .int i ∧ lo ≤ i ∧ i ≤ hi) ∧ ∀ H1, Ex H H1 → tz D σ H1) ∨ (NumBad x lo hi ∧ No G.BadNumber H E)) : tSeq (tDrop (tCall (sp_need_number G) [] E (tCons ta (tCons tb (tCons tc tNil))))) tz D σ H :=
  ha H (Ex.refl H) _ fun H1 e1 => hb H1 e1 _ fun H2 e2 => hc H2 (e1.trans e2) _ fun H3 e3 => by
    have e := (e1.trans e2).trans e3
    refine ⟨lo, hi, rfl, rfl, ?_⟩
    rcases h with ⟨⟨i, h1, h2, h3⟩, k⟩ | ⟨h1, no⟩
    · exact .inl ⟨i, h1, h2, h3, fun H4 e4 => k H4 (e.trans e4)⟩
    · exact .inr ⟨h1, no.ex e⟩
theorem s_num {G : Pm} {σ : L2.St} {H : Hp} {ta tb tc : TE} {E : XK} {D : Ends} {x : V} {lo hi : Int} (ha : Ev ta σ H x) (hb : Ev tb σ H (.int lo)) (hc : Ev tc σ H (.int hi))
    (h : ((∃ i : Int, x = .int i ∧ lo ≤ i ∧ i ≤ hi) ∧ ∀ H1, Ex H H1 → D.nx σ H1) ∨ (NumBad x lo hi ∧ No G.BadNumber H E)) : tDrop (tCall (sp_need_number G) [] E (tCons ta (tCons tb (tCons tc tNil)))) D σ H :=
  ha H (Ex.refl H) _ fun H1 e1 => hb H1 e1 _ fun H2 e2 => hc H2 (e1.trans e2) _ fun H3 e3 => by
    have e := (e1.trans e2).trans e3
    refine ⟨lo, hi, rfl, rfl, ?_⟩
    rcases h with ⟨⟨i, h1, h2, h3⟩, k⟩ | ⟨h1, no⟩
    · exact .inl ⟨i, h1, h2, h3, fun H4 e4 => k H4 (e.trans e4)⟩
    · exact .inr ⟨h1, no.ex e⟩
theorem gcd_loop {tz : TS} {D : Ends} {H : Hp} (a b : Nat) (k : ∀ H1, Ex H H1 → ∀ y : Nat, tz D [some (.int ((Nat.gcd a b : Nat) : Int)), some (.int (y : Int))] H1) :
    tSeq (tWhile (tTest (tOp cGt (tVar 1) (tC (.int 0)))) (tPar 0 1 (tCons (tVar 1) (tCons (tOp oMod (tVar 0) (tVar 1)) tNil)))) tz D [some (.int (a : Int)), some (.int (b : Int))] H := by
  refine q_whl (fun m σ' H' => ∃ a' b' : Nat, σ' = [some (.int (a' : Int)), some (.int (b' : Int))] ∧ m = b' ∧ Nat.gcd a' b' = Nat.gcd a b ∧ Ex H H') b ⟨a, b, rfl, rfl, rfl, Ex.refl H⟩ ?_
  rintro m σ' H' ⟨a', b', rfl, rfl, hg, e⟩
  refine ⟨decide ((0 : Int) < (m : Int)), ?_, fun hb H1 e1 => ?_, fun hb H1 e1 => ?_⟩
  · walk_at "ev"
  · have hp : 0 < m := by
      have := of_decide_eq_true hb
      omega
    refine s_par (v := .int (m : Int)) (w := .int ((a' % m : Nat) : Int)) (ev_var rfl) ?_ fun H2 e2 => ?_
    · rw [Int.natCast_emod]
      walk_at "ev"
      omega
    · refine ⟨a' % m, Nat.mod_lt _ hp, m, a' % m, rfl, rfl, ?_, (e.trans e1).trans e2⟩
      rw [← hg, Nat.gcd_comm a' m, Nat.gcd_rec m a', Nat.gcd_comm]
  · have h0 : m = 0 := by
      have := of_decide_eq_false hb
      omega
    subst h0
    rw [Nat.gcd_zero_right] at hg
    have := k H1 (e.trans e1) 0
    rw [← hg] at this
    exact this
theorem pure_common (G : Pm) : P_common G := by
  intro x0 x1 H Q E h
  obtain ⟨a, b, rfl, rfl, q⟩ := h
  exact gcd_loop a b fun H1 e1 y => s_ret (ev_var rfl) fun H2 e2 => q.go (e1.trans e2)
/-! ### look, need_apart -/
theorem pure_look (G : Pm) : P_look G := by
  intro x0 x1 H Q E h
  rcases h with ⟨⟨a, m, ⟨rfl, ha⟩, rfl, m1, m2⟩, q⟩ | ⟨hb | ⟨⟨a, rfl, ha⟩, hb⟩, no⟩
  · exact q_num (ev_var rfl) ev_c ev_c (.inl ⟨⟨_, rfl, by omega, by omega⟩, fun H1 e1 => s_num (ev_var rfl) ev_c ev_c (.inl ⟨⟨_, rfl, by omega, by omega⟩, fun H2 e2 => q H2 (e1.trans e2)⟩)⟩)
  · exact q_num (ev_var rfl) ev_c ev_c (.inr ⟨hb, no⟩)
  · exact q_num (ev_var rfl) ev_c ev_c (.inl ⟨⟨_, rfl, by omega, by omega⟩, fun H1 e1 => s_num (ev_var rfl) ev_c ev_c (.inr ⟨hb, no.ex e1⟩)⟩)
theorem nat_dec (a b : Nat) : decide (V.int (a : Int) = V.int (b : Int)) = decide (a = b) := by
  by_cases z : a = b
  · rw [z]
    simp
  · rw [decide_eq_false z, decide_eq_false]
    intro y
    have := V.int.inj y
    omega
theorem pure_need_apart (G : Pm) : P_need_apart G := by
  intro x0 x1 H Q E h
  obtain ⟨a, m, rfl, rfl, h⟩ := h
  refine s_when (b := !decide (Nat.gcd a m = 1)) (et_is (et_test (ev_op (ev_ca2 (ev_var rfl) (ev_var rfl) fun H1 e1 Q' q' => ⟨a, m, rfl, rfl, q'⟩) ev_c (rv_ne rfl))) (by rw [← nat_dec]; rfl)) (fun hb H1 e1 => ?_) fun hb H1 e1 => ?_
  · rcases h with ⟨g, _⟩ | ⟨_, no⟩
    · rw [decide_eq_true g] at hb
      cases hb
    · exact no H1 e1
  · rcases h with ⟨_, q⟩ | ⟨g, _⟩
    · exact q H1 e1
    · rw [decide_eq_false g] at hb
      cases hb
section
variable {G : Pm} {σ : L2.St} {H : Hp} {E : XK} {D : Ends} {tz : TS} {i j : Nat} {x y : V}
/-- look, need_apart at a body's head -/
theorem q_look (hx : σ[i]? = some (some x)) (hy : σ[j]? = some (some y)) (h : ((∃ a m, isA x a ∧ isM y m) ∧ ∀ H1, Ex H H1 → tz D σ H1) ∨ (LookBad x y ∧ No G.BadNumber H E)) : tSeq (tDrop (tCall (sp_look G) [] E (tCons (tVar i) (tCons (tVar j) tNil)))) tz D σ H :=
  call2 (Q := fun _ H2 => tz D σ H2) (ev_var hx) (ev_var hy) fun H1 e1 => by
    rcases h with ⟨h1, k⟩ | ⟨h1, no⟩
    · exact .inl ⟨h1, fun H2 e2 => k H2 (e1.trans e2)⟩
    · exact .inr ⟨h1, no.ex e1⟩
theorem q_apart {a m : Nat} (hx : σ[i]? = some (some (.int (a : Int)))) (hy : σ[j]? = some (some (.int (m : Int)))) (h : (Nat.gcd a m = 1 ∧ ∀ H1, Ex H H1 → tz D σ H1) ∨ (Nat.gcd a m ≠ 1 ∧ No G.NoWay H E)) : tSeq (tDrop (tCall (sp_need_apart G) [] E (tCons (tVar i) (tCons (tVar j) tNil)))) tz D σ H :=
  call2 (Q := fun _ H2 => tz D σ H2) (ev_var hx) (ev_var hy) fun H1 e1 => ⟨a, m, rfl, rfl, by
    rcases h with ⟨h1, k⟩ | ⟨h1, no⟩
    · exact .inl ⟨h1, fun H2 e2 => k H2 (e1.trans e2)⟩
    · exact .inr ⟨h1, no.ex e1⟩⟩
end
/-! ### inverse -/
theorem pure_inverse (G : Pm) : P_inverse G := by
  intro x0 x1 H Q E h
  rcases h with ⟨a, m, ⟨rfl, ha⟩, ⟨rfl, m1, m2⟩, h⟩ | ⟨hb, no⟩
  · refine q_look rfl rfl (.inl ⟨⟨a, m, ⟨rfl, ha⟩, rfl, m1, m2⟩, fun H1 e1 => ?_⟩)
    rcases h with ⟨co, r, hr, er, q⟩ | ⟨nco, no⟩
    · refine q_apart rfl rfl (.inl ⟨co, fun H2 e2 => ?_⟩)
      have mo : (a : Int) % (m : Int) = ((a % m : Nat) : Int) := (Int.natCast_emod a m).symm
      refine q_parUU (eu_tup (ea_cons (ev_var rfl) (ea_cons ev_c ea_nil)) (by show 2 ≤ 100000; decide)) (eu_tup (ea_cons (ev_is (ev_op (ev_var rfl) (ev_var rfl) (rv_I (by omega))) (by rw [mo])) (ea_cons ev_c ea_nil)) (by show 2 ≤ 100000; decide)) fun p1 p2 H3 e3 h1 h2 => ?_
      refine q_whl (fun k σ' H' => ∃ (q1 q2 : Addr) (r0 r1 : Nat) (s0 s1 : Int) (y4 : Option V), σ' = [some (.int (a : Int)), some (.int (m : Int)), some (.ref q1), some (.ref q2), y4] ∧ k = r1 ∧ H' q1 = some (.tup [.int (r0 : Int), .int s0]) ∧ H' q2 = some (.tup [.int (r1 : Int), .int s1]) ∧ Ex H2 H' ∧
        Nat.gcd r0 r1 = 1 ∧ (m : Int) ∣ (s0 * a - r0) ∧ (m : Int) ∣ (s1 * a - r1) ∧ r0 ≤ 2000 ∧ r1 ≤ 2000) (a % m) ⟨p1, p2, m, a % m, 0, 1, _, rfl, rfl, h1, h2, e3, ?_, ?_, ?_, m2, ?_⟩ ?_
      · rw [Nat.gcd_comm, ← Nat.gcd_rec, Nat.gcd_comm]
        exact co
      · rw [Int.zero_mul, Int.zero_sub]
        exact Int.dvd_neg.mpr (Int.dvd_refl _)
      · rw [Int.one_mul, Int.natCast_emod]
        exact Int.dvd_self_sub_emod
      · have := Nat.mod_lt a (show m > 0 by omega)
        omega
      · rintro k σ' H4 ⟨q1, q2, r0, r1, s0, s1, y4, rfl, rfl, g1, g2, e4, hg, d0, d1, b0, b1⟩
        refine ⟨!decide (k = 0), ?_, fun hb H5 e5 => ?_, fun hb H5 e5 => ?_⟩
        · refine et_is (et_test (ev_op (ev_op (ev_var rfl) ev_c (rv_ixT (st_of g2) (v := .int (k : Int)) rfl)) ev_c (rv_ne rfl))) ?_
          rw [← nat_dec k 0]
          rfl
        · have k0 : 0 < k := by
            have : k ≠ 0 := by simpa using hb
            omega
          have i0 : ∀ (j : Addr) (H6 : Hp) (r : Nat) (s : Int) (σ : L2.St) (n : Nat), H6 j = some (.tup [.int (r : Int), .int s]) → σ[n]? = some (some (.ref j)) → Ev (tOp (rIxT G.K) (tVar n) (tC (.int 0))) σ H6 (.int (r : Int)) := fun j H6 r s σ n h hs => ev_op (ev_var hs) ev_c (rv_ixT (st_of h) rfl)
          have i1 : ∀ (j : Addr) (H6 : Hp) (r : Nat) (s : Int) (σ : L2.St) (n : Nat), H6 j = some (.tup [.int (r : Int), .int s]) → σ[n]? = some (some (.ref j)) → Ev (tOp (rIxT G.K) (tVar n) (tC (.int 1))) σ H6 (.int s) := fun j H6 r s σ n h hs => ev_op (ev_var hs) ev_c (rv_ixT (st_of h) rfl)
          have g1' := e5 _ _ g1
          have g2' := e5 _ _ g2
          have dq : (r0 : Int) / (k : Int) = ((r0 / k : Nat) : Int) := (Int.natCast_ediv r0 k).symm
          have qb : r0 / k ≤ r0 := Nat.div_le_self _ _
          have q0 := Int.natCast_nonneg (r0 / k)
          have qm := Nat.div_add_mod r0 k
          have rl := Nat.mod_lt r0 k0
          have gs : Nat.gcd k (r0 % k) = 1 := by
            rw [Nat.gcd_comm, ← Nat.gcd_rec, Nat.gcd_comm]
            exact hg
          refine q_asg (v := .int ((r0 / k : Nat) : Int)) (ev_is (ev_op (i0 _ _ _ _ _ 2 g1' rfl) (i0 _ _ _ _ _ 3 g2' rfl) (rv_I (cdiv_w (by omega) (by omega)))) (by rw [dq])) fun H6 e6 => ?_
          have g1'' := e6 _ _ g1'
          have g2'' := e6 _ _ g2'
          have rem : (r0 : Int) - ((r0 / k : Nat) : Int) * (k : Int) = ((r0 % k : Nat) : Int) := by
            have : (((k * (r0 / k) + r0 % k : Nat)) : Int) = (r0 : Int) := by rw [qm]
            rw [Int.natCast_add, Int.natCast_mul, Int.mul_comm] at this
            omega
          refine s_parVU (ev_var rfl) (eu_tup (vs := [.int ((r0 % k : Nat) : Int), .int (s0 - ((r0 / k : Nat) : Int) * s1)]) (ea_cons (ev_is (ev_op (i0 _ _ _ _ _ 2 g1'' rfl) (ev_op (ev_var rfl) (i0 _ _ _ _ _ 3 g2'' rfl) (rv_I (cm_l (by omega) (by omega)))) rv_I0) (by rw [rem])) (ea_cons (ev_op (i1 _ _ _ _ _ 2 g1'' rfl) (ev_op (ev_var rfl) (i1 _ _ _ _ _ 3 g2'' rfl) (rv_I (cm_l (by omega) (by omega)))) rv_I0) ea_nil)) (by show 2 ≤ 100000; decide)) fun q3 H7 e7 h7 => ?_
          refine ⟨r0 % k, rl, q2, q3, k, r0 % k, s1, _, _, rfl, rfl, e7 _ _ g2'', h7, (e4.trans e5).trans (e6.trans e7), gs, d1, ?_, b1, by omega⟩
          have := Int.dvd_sub d0 (Int.dvd_trans d1 (Int.dvd_mul_left ((r0 / k : Nat) : Int) _))
          have eqq : (s0 - ((r0 / k : Nat) : Int) * s1) * (a : Int) - ((r0 % k : Nat) : Int) = (s0 * a - r0) - ((r0 / k : Nat) : Int) * (s1 * a - k) := by
            rw [← rem, Int.sub_mul, Int.mul_sub, Int.mul_assoc]
            omega
          rw [eqq]
          exact this
        · have k0 : k = 0 := by simpa using hb
          subst k0
          rw [Nat.gcd_zero_right] at hg
          subst hg
          have m0 : (0 : Int) < (m : Int) := by omega
          have z0 := Int.emod_nonneg s0 (show (m : Int) ≠ 0 by omega)
          have z1 := Int.emod_lt_of_pos s0 m0
          obtain ⟨w, hw⟩ := nat_of z0
          have ew : w = r := by
            refine inv_mod_uniq co (by omega) hr ?_ er
            have h1 : ((w * a % m : Nat) : Int) = ((1 % m : Nat) : Int) := by
              rw [Int.natCast_emod, Int.natCast_emod, Int.natCast_mul, ← hw]
              refine Int.emod_eq_emod_iff_emod_sub_eq_zero.mpr (Int.emod_eq_zero_of_dvd ?_)
              have := Int.dvd_sub d0 (Int.dvd_trans (Int.dvd_self_sub_emod (x := s0) (m := (m : Int))) (Int.dvd_mul_right _ (a : Int)))
              have eqq : s0 % (m : Int) * (a : Int) - ((1 : Nat) : Int) = (s0 * a - ((1 : Nat) : Int)) - (s0 - s0 % (m : Int)) * a := by
                rw [Int.sub_mul]
                omega
              rw [eqq]
              exact this
            exact Int.ofNat.inj h1
          subst ew
          refine s_ret (ev_is (ev_op (ev_op (ev_var rfl) ev_c (rv_ixT (st_of (e5 _ _ g1)) (v := .int s0) rfl)) (ev_var rfl) (rv_I (by omega))) (by rw [hw])) fun H6 e6 => q H6 (((e1.trans e2).trans (e4.trans e5)).trans e6)
    · exact q_apart rfl rfl (.inr ⟨nco, no.ex e1⟩)
  · exact q_look rfl rfl (.inr ⟨hb, no⟩)
/-! ### orders -/
theorem mulmod_cast (a b m : Nat) : (a : Int) * (b : Int) % (m : Int) = ((a * b % m : Nat) : Int) := by rw [Int.natCast_emod, Int.natCast_mul]
theorem one_mod_cast (m : Nat) : (1 : Int) % (m : Int) = ((1 % m : Nat) : Int) := by rw [Int.natCast_emod]; rfl
theorem pure_turns_of (G : Pm) : P_turns_of G := by
  intro x0 x1 H Q E h
  obtain ⟨a, m, L, ⟨rfl, ha⟩, ⟨rfl, m1, m2⟩, hO, q⟩ := h
  have p1 : a % m = pwm a m 1 := by
    unfold pwm
    rw [Nat.pow_one]
  refine q_par (v := .int ((1 : Nat) : Int)) (w := .int ((pwm a m 1 : Nat) : Int)) ev_c (ev_is (ev_op (ev_var rfl) (ev_var rfl) (rv_I (by omega))) (by rw [← p1, Int.natCast_emod])) fun H1 e1 => ?_
  refine q_whl (fun k σ' H' => ∃ c : Nat, σ' = [some (.int (a : Int)), some (.int (m : Int)), some (.int (c : Int)), some (.int ((pwm a m c : Nat) : Int))] ∧ 1 ≤ c ∧ c ≤ L ∧ k = L - c ∧ Ex H H') (L - 1) ⟨1, rfl, Nat.le_refl 1, hO.1, rfl, e1⟩ ?_
  rintro k σ' H' ⟨c, rfl, c1, cL, rfl, e⟩
  have pl := pwm_lt (a := a) (k := c) m1
  refine ⟨!decide (pwm a m c = 1 % m), et_is (et_test (ev_op (ev_var rfl) (ev_is (ev_op ev_c (ev_var rfl) (rv_I (by omega))) (by rw [one_mod_cast])) (rv_ne rfl))) (by rw [nat_dec]), fun hb H2 e2 => ?_, fun hb H2 e2 => ?_⟩
  · have ne : pwm a m c ≠ 1 % m := by simpa using hb
    have lt : c < L := by
      rcases Nat.lt_or_ge c L with z | z
      · exact z
      · have : c = L := by omega
        rw [this] at ne
        exact (ne hO.2.1).elim
    refine q_asg (v := .int ((pwm a m (c + 1) : Nat) : Int)) (ev_is (ev_op (ev_op (ev_var rfl) (ev_var rfl) (rv_I (cm_l (by omega) (by omega)))) (ev_var rfl) (rv_I (by omega))) (by rw [mulmod_cast, ← pwm_succ])) fun H3 e3 => ?_
    exact s_asg (v := .int ((c + 1 : Nat) : Int)) (ev_op (ev_var rfl) ev_c rv_I0) fun H4 e4 => ⟨L - (c + 1), by omega, c + 1, rfl, by omega, by omega, rfl, (e.trans e2).trans (e3.trans e4)⟩
  · have e1m : pwm a m c = 1 % m := by simpa using hb
    have cL' : c = L := by
      rcases Nat.lt_or_ge c L with z | z
      · exact (hO.2.2 c c1 z e1m).elim
      · omega
    subst cL'
    exact s_ret (ev_var rfl) fun H3 e3 => q H3 ((e.trans e2).trans e3)
theorem pure_order_of (G : Pm) : P_order_of G := by
  intro x0 x1 H Q E h
  rcases h with ⟨a, m, ⟨rfl, ha⟩, ⟨rfl, m1, m2⟩, h⟩ | ⟨hb, no⟩
  · refine q_look rfl rfl (.inl ⟨⟨a, m, ⟨rfl, ha⟩, rfl, m1, m2⟩, fun H1 e1 => ?_⟩)
    rcases h with ⟨co, L, hO, q⟩ | ⟨nco, no⟩
    · refine q_apart rfl rfl (.inl ⟨co, fun H2 e2 => ?_⟩)
      exact s_ret (v := .int (L : Int)) (ev_ca2 (ev_var rfl) (ev_var rfl) fun H3 e3 Q' q' => ⟨a, m, L, ⟨rfl, ha⟩, ⟨rfl, m1, m2⟩, hO, q'⟩) fun H3 e3 => q H3 ((e1.trans e2).trans e3)
    · exact q_apart rfl rfl (.inr ⟨nco, no.ex e1⟩)
  · exact q_look rfl rfl (.inr ⟨hb, no⟩)
theorem natV_given (n : Nat) (f : Nat → Bool) : given n f (fun i => V.int (i : Int)) = natV ((List.range n).filter f) := rfl
theorem pure_units_of (G : Pm) : P_units_of G := by
  intro x0 H Q E h
  obtain ⟨m, ⟨rfl, m1, m2⟩, q⟩ := h
  refine s_retL (xs := natV (units m)) ?_ fun p H1 h1 e1 hp => q p H1 h1 e1 hp
  unfold units
  rw [← natV_given]
  exact el_lcR1 (n := (m : Int)) _ (fun i => V.int (i : Int)) (ea_cons (ev_var rfl) ea_nil) (by omega) (fun x => rfl) (fun i H1 e1 hi => et_is (et_test (ev_op (ev_ca2 (ev_var rfl) (ev_var rfl) fun H2 e2 Q' q' => ⟨i, m, rfl, rfl, q'⟩) ev_c (rv_eq rfl))) (nat_dec (Nat.gcd i m) 1)) fun i H1 e1 hi _ => ev_var rfl
theorem pure_coprimes (G : Pm) : P_coprimes G := by
  intro x0 H Q E h
  rcases h with ⟨m, ⟨rfl, m1, m2⟩, q⟩ | ⟨hb, no⟩
  · refine q_num (ev_var rfl) ev_c ev_c (.inl ⟨⟨_, rfl, by omega, by omega⟩, fun H1 e1 => ?_⟩)
    exact s_retL (el_ca1 (ev_var rfl) fun H2 e2 Q' q' => ⟨m, ⟨rfl, m1, m2⟩, q'⟩) fun p H2 h2 e2 hp => q p H2 (fresh_back e1 h2) (e1.trans e2) hp
  · exact q_num (ev_var rfl) ev_c ev_c (.inr ⟨hb, no⟩)
theorem units_mem {m u : Nat} (h : u ∈ units m) : u < m ∧ Nat.gcd u m = 1 := by
  have := List.mem_filter.mp h
  exact ⟨List.mem_range.mp this.1, of_decide_eq_true this.2⟩
theorem natV_at {l : List Nat} {i : Nat} {x : V} (h : (natV l)[i]? = some x) : ∃ u : Nat, l[i]? = some u ∧ x = .int (u : Int) := by
  unfold natV at h
  rw [List.getElem?_map] at h
  cases hl : l[i]? with
  | none =>
    rw [hl] at h
    cases h
  | some u =>
    rw [hl] at h
    exact ⟨u, rfl, (Option.some.inj h).symm⟩
theorem natV_len (l : List Nat) : (natV l).length = l.length := List.length_map ..
theorem units_len (m : Nat) : (units m).length ≤ m := by
  have := List.length_filter_le (fun u => decide (Nat.gcd u m = 1)) (List.range m)
  rwa [List.length_range] at this
theorem pure_least_root (G : Pm) : P_least_root G := by
  intro x0 H Q E h
  rcases h with ⟨m, v, ⟨rfl, m1, m2⟩, hv, q⟩ | ⟨hb, no⟩
  · refine q_num (ev_var rfl) ev_c ev_c (.inl ⟨⟨_, rfl, by omega, by omega⟩, fun H1 e1 => ?_⟩)
    refine q_asgL (el_ca1 (ev_var rfl) fun H2 e2 Q' q' => ⟨m, ⟨rfl, m1, m2⟩, q'⟩) fun l H2 _ e2 h2 => ?_
    have ul := units_len m
    refine q_forL (ev_var rfl) (sq_of h2) (fun i σ' H' => ∃ y2 : Option V, σ' = [some (.int (m : Int)), some (.ref l), y2] ∧ Ex H2 H' ∧ ∀ j w : Nat, j < i → (units m)[j]? = some w → ¬ Ord w m (units m).length)
      (fun H3 e3 => ⟨_, rfl, e3, fun j w hj => by omega⟩) (fun i σ' H' _ ⟨_, _, e, _⟩ => sq_of (e l _ h2)) ?_ ?_
    · rintro i x σ' H3 hi ⟨y2, rfl, e3, inv⟩
      obtain ⟨u, hu, rfl⟩ := natV_at hi
      obtain ⟨um, co⟩ := units_mem (List.mem_of_getElem? hu)
      obtain ⟨L, hO⟩ := ord_ex m1 co
      have e13 := (e1.trans e2).trans e3
      refine s_when (b := decide (L = (units m).length)) (et_is (et_test (ev_op (ev_ca2 (z := .int (L : Int)) (ev_var rfl) (ev_var rfl) fun H4 e4 Q' q' => ⟨u, m, L, ⟨rfl, by omega⟩, ⟨rfl, m1, m2⟩, hO, q'⟩) (ev_lenL (ev_var rfl) (sq_of (e3 l _ h2))) (rv_eq rfl))) (by rw [natV_len, nat_dec])) (fun hb H4 e4 => ?_) fun hb H4 e4 => ?_
      · have eL : L = (units m).length := of_decide_eq_true hb
        rw [eL] at hO
        have ev : v = some u := by
          rcases hv with ⟨i', u', a1, a2, a3, rfl⟩ | ⟨a1, rfl⟩
          · rcases Nat.lt_trichotomy i i' with z | z | z
            · exact (a3 i u z hu hO).elim
            · subst z
              rw [hu] at a1
              rw [Option.some.inj a1]
            · exact (inv i' u' z a1 a2).elim
          · exact (a1 i u hu hO).elim
        subst ev
        exact s_ret (ev_var rfl) fun H5 e5 => q H5 (e13.trans (e4.trans e5))
      · have nL := of_decide_eq_false hb
        refine ⟨_, rfl, e3.trans e4, fun j w hj hw => ?_⟩
        by_cases z : j = i
        · subst z
          rw [hu] at hw
          cases hw
          exact fun y => nL (hO.uniq y)
        · exact inv j w (by omega) hw
    · rintro σ' H3 ⟨y2, rfl, e3, inv⟩
      have ev : v = none := by
        rcases hv with ⟨i', u', a1, a2, a3, rfl⟩ | ⟨a1, rfl⟩
        · have := (List.getElem?_eq_some_iff.mp a1).1
          exact (inv i' u' (by rw [natV_len]; exact this) a1 a2).elim
        · rfl
      subst ev
      exact s_ret (v := onV none) ev_c fun H4 e4 => q H4 (((e1.trans e2).trans e3).trans e4)
  · exact q_num (ev_var rfl) ev_c ev_c (.inr ⟨hb, no⟩)
theorem pure_roots (G : Pm) : P_roots G := by
  intro x0 x1 H Q E h
  rcases h with ⟨a, m, ⟨rfl, ha⟩, ⟨rfl, m1, m2⟩, q⟩ | ⟨hb, no⟩
  · refine q_look rfl rfl (.inl ⟨⟨a, m, ⟨rfl, ha⟩, rfl, m1, m2⟩, fun H1 e1 => ?_⟩)
    refine s_retL (xs := natV ((List.range m).filter (rootB a m))) ?_ fun p H2 h2 e2 hp => q p H2 (fresh_back e1 h2) (e1.trans e2) hp
    rw [← natV_given]
    exact el_lcR1 (n := (m : Int)) _ (fun i => V.int (i : Int)) (ea_cons (ev_var rfl) ea_nil) (by omega) (fun x => rfl) (fun i H1 e1 hi => et_test (ev_op (ev_op (ev_op (ev_op (ev_var rfl) (ev_var rfl) (rv_I (cm_l (by omega) (by omega)))) (ev_var rfl) rv_I0) (ev_var rfl) (rv_I (by omega))) ev_c (rv_eq rfl))) fun i H1 e1 hi _ => ev_var rfl
  · exact q_look rfl rfl (.inr ⟨hb, no⟩)
theorem pure_log_of (G : Pm) : P_log_of G := by
  intro x0 x1 x2 H Q E h
  rcases h with ⟨b, a, m, v, ⟨rfl, hb⟩, ⟨rfl, ha⟩, ⟨rfl, m1, m2⟩, hv, q⟩ | ⟨hb | ⟨⟨b, rfl, hb⟩, hb2⟩, no⟩
  · refine q_num (ev_var rfl) ev_c ev_c (.inl ⟨⟨_, rfl, by omega, by omega⟩, fun H1 e1 => ?_⟩)
    refine q_look rfl rfl (.inl ⟨⟨a, m, ⟨rfl, ha⟩, rfl, m1, m2⟩, fun H2 e2 => ?_⟩)
    refine q_asg (v := .int ((pwm b m 0 : Nat) : Int)) (ev_is (ev_op ev_c (ev_var rfl) (rv_I (by omega))) (by rw [one_mod_cast]; rfl)) fun H3 e3 => ?_
    refine q_forR1 (n := (m : Int) + 1) (ea_cons (ev_op (ev_var rfl) ev_c rv_I0) ea_nil) (by omega)
      (fun i σ' H' => ∃ y4 : Option V, σ' = [some (.int (b : Int)), some (.int (a : Int)), some (.int (m : Int)), some (.int ((pwm b m i : Nat) : Int)), y4] ∧ Ex H H' ∧ ∀ j, j < i → pwm b m j ≠ a % m)
      (fun H4 e4 => ⟨_, rfl, ((e1.trans e2).trans e3).trans e4, fun j hj => by omega⟩) ?_ ?_
    · rintro i σ' H4 hi ⟨y4, rfl, e4, inv⟩
      have pl := pwm_lt (a := b) (k := i) m1
      refine q_when (b := decide (pwm b m i = a % m)) (et_is (et_test (ev_op (ev_var rfl) (ev_is (ev_op (ev_var rfl) (ev_var rfl) (rv_I (by omega))) (by rw [← Int.natCast_emod])) (rv_eq rfl))) (by rw [nat_dec])) (fun hb H5 e5 => ?_) fun hb H5 e5 => ?_
      · have ei : pwm b m i = a % m := of_decide_eq_true hb
        have : v = some i := hv.uniq (.inl ⟨i, by omega, ei, inv, rfl⟩)
        subst this
        exact s_ret (ev_var rfl) fun H6 e6 => q H6 (e4.trans (e5.trans e6))
      · refine s_asg (v := .int ((pwm b m (i + 1) : Nat) : Int)) (ev_is (ev_op (ev_op (ev_var rfl) (ev_var rfl) (rv_I (cm_l (by omega) (by omega)))) (ev_var rfl) (rv_I (by omega))) (by rw [mulmod_cast, ← pwm_succ])) fun H6 e6 => ⟨_, rfl, e4.trans (e5.trans e6), fun j hj => ?_⟩
        by_cases z : j = i
        · rw [z]
          exact of_decide_eq_false hb
        · exact inv j (by omega)
    · rintro σ' H4 ⟨y4, rfl, e4, inv⟩
      have : v = none := hv.uniq (.inr ⟨fun k hk => inv k (by omega), rfl⟩)
      subst this
      exact s_ret (v := onV none) ev_c fun H5 e5 => q H5 (e4.trans e5)
  · exact q_num (ev_var rfl) ev_c ev_c (.inr ⟨hb, no⟩)
  · exact q_num (ev_var rfl) ev_c ev_c (.inl ⟨⟨_, rfl, by omega, by omega⟩, fun H1 e1 => q_look rfl rfl (.inr ⟨hb2, no.ex e1⟩)⟩)
end Sv

set_option Elab.async false
set_option linter.all false
set_option maxRecDepth 100000
set_option maxHeartbeats 4000000
namespace Sv
open PySem PySem.Spec PyProof.Rows L2 Evl HotX L2H LamX
local macro_rules | `(tactic| walk_at "ev") => `(tactic| (repeat' (first | exact ev_var rfl | exact ev_c | exact rv_I0 | exact ea_nil | exact ru_neg | exact rv_eq rfl | exact rv_ne rfl | apply ev_op | apply rv_I | apply ev_un | apply et_test | apply et_B | apply et_not | apply ea_cons | apply ev_maxI | apply ev_minI)))
def errsL (G : Pm) : List (Addr × Str) := [(G.BadTable, "BadTable"), (G.Unlike, "Unlike"), (G.NoWay, "NoWay"), (G.BadName, "BadName"), (G.BadNumber, "BadNumber"), (G.BadSums, "BadSums"), (G.BadRule, "BadRule"), (G.Full, "Full"), (G.Used, "Used"), (G.Nothing, "Nothing"), (G.BadText, "BadText")]
def WE (G : Pm) (C : Addr) (nm : Str) : Prop := (C, nm) ∈ errsL G
/-! ### rests: the specs -/
inductive Rows (K : PySem.W.Frag) (H : Hp) : List V → List (Nat × Nat) → Prop
  | nil : Rows K H [] []
  | cons {t : Addr} {p : Nat × Nat} {xs : List V} {ps : List (Nat × Nat)} : SqT K H t [.int (p.1 : Int), .int (p.2 : Int)] → Rows K H xs ps → Rows K H (.ref t :: xs) (p :: ps)
theorem Rows.ex {K : PySem.W.Frag} {H H' : Hp} (e : Ex H H') : ∀ {xs : List V} {ps : List (Nat × Nat)}, Rows K H xs ps → Rows K H' xs ps
  | _, _, .nil => .nil
  | _, _, .cons h r => .cons (ex_t e h) (r.ex e)
theorem Rows.len {K : PySem.W.Frag} {H : Hp} : ∀ {xs : List V} {ps : List (Nat × Nat)}, Rows K H xs ps → xs.length = ps.length
  | _, _, .nil => rfl
  | _, _, .cons _ r => congrArg (· + 1) r.len
theorem Rows.app {K : PySem.W.Frag} {H : Hp} : ∀ {xs ys : List V} {ps qs : List (Nat × Nat)}, Rows K H xs ps → Rows K H ys qs → Rows K H (xs ++ ys) (ps ++ qs)
  | _, _, _, _, .nil, s => s
  | _, _, _, _, .cons h r, s => .cons h (r.app s)
theorem Rows.rev {K : PySem.W.Frag} {H : Hp} : ∀ {xs : List V} {ps : List (Nat × Nat)}, Rows K H xs ps → Rows K H xs.reverse ps.reverse
  | _, _, .nil => .nil
  | _, _, .cons h r => by
    rw [List.reverse_cons, List.reverse_cons]
    exact r.rev.app (.cons h .nil)
theorem Rows.at {K : PySem.W.Frag} {H : Hp} : ∀ {xs : List V} {ps : List (Nat × Nat)} {i : Nat} {x : V}, Rows K H xs ps → xs[i]? = some x → ∃ t p, x = .ref t ∧ ps[i]? = some p ∧ SqT K H t [.int (p.1 : Int), .int (p.2 : Int)]
  | _, _, _, _, .nil, h => by simp at h
  | _, _, 0, x, .cons (t := t) (p := p) h r, e => by
    simp at e
    exact ⟨t, p, e.symm, rfl, h⟩
  | _, _, i + 1, x, .cons h r, e => r.at (by simpa using e)
def pd (p : Nat × Nat) : PyData := .tuple [.int (p.1 : Int), .int (p.2 : Int)]
theorem Rows.dp {K : PySem.W.Frag} {H : Hp} : ∀ {xs : List V} {ps : List (Nat × Nat)}, Rows K H xs ps → DpAll K H xs (ps.map pd)
  | _, _, .nil => .nil
  | _, _, .cons h r => .cons (.tup h (.cons (.int _) (.cons (.int _) .nil))) r.dp
theorem can_pd : ∀ ps : List (Nat × Nat), PyData.canLayAll0 (ps.map pd) = true
  | [] => by simp [PyData.canLayAll0]
  | p :: ps => by simp [PyData.canLayAll0, PyData.canLay0, pd, can_pd ps]
theorem dep_pd : ∀ ps : List (Nat × Nat), PyData.depthAll (ps.map pd) ≤ 1
  | [] => by simp [PyData.depthAll]
  | p :: ps => by
    have := dep_pd ps
    simp [PyData.depthAll, PyData.depth, pd] at *
    omega
theorem sh_rows (ps : List (Nat × Nat)) : SeqAt.shaped (.list (ps.map pd)) = true := by
  have := dep_pd ps
  simp [SeqAt.shaped, PyData.canLay0, PyData.depth, can_pd]
  omega
def RowsAt (K : PySem.W.Frag) (H : Hp) (a : Addr) (ps : List (Nat × Nat)) : Prop := ∃ xs, SqL K H a xs ∧ Rows K H xs ps
theorem RowsAt.ex {K : PySem.W.Frag} {H H' : Hp} {a : Addr} {ps : List (Nat × Nat)} (e : Ex H H') (h : RowsAt K H a ps) : RowsAt K H' a ps := by
  obtain ⟨xs, h1, h2⟩ := h
  exact ⟨xs, ex_l e h1, h2.ex e⟩
/-- what met tells of ps -/
def Told (K : PySem.W.Frag) (H : Hp) (v : V) (ps : List (Nat × Nat)) : Prop :=
  ((¬ ∃ z, Sol ps z) ∧ v = .non) ∨ ∃ (R : Nat) (t : Addr), Sol ps R ∧ R < lcmL ps ∧ v = .ref t ∧ SqT K H t [.int (R : Int), .int (lcmL ps : Int)]
theorem Told.ex {K : PySem.W.Frag} {H H' : Hp} {v : V} {ps : List (Nat × Nat)} (e : Ex H H') (h : Told K H v ps) : Told K H' v ps := by
  rcases h with h | ⟨R, t, h1, h2, h3, h4⟩
  · exact .inl h
  · exact .inr ⟨R, t, h1, h2, h3, ex_t e h4⟩
def Good (ps : List (Nat × Nat)) : Prop := ∀ p ∈ ps, p.1 < p.2 ∧ p.2 ≤ 2000
def pairB : V → V → Bool
  | .int r, .int m => (decide (1 ≤ m) && decide (m ≤ 2000)) && (decide (0 ≤ r) && decide (r < m))
  | _, _ => false
/-- what is_pair says of a thing -/
def Thing (K : PySem.W.Frag) (H : Hp) (x : V) (b : Bool) : Prop := (x = .non ∧ b = false) ∨ (∃ p xs, x = .ref p ∧ SqL K H p xs ∧ b = false) ∨ (∃ p xs, x = .ref p ∧ SqT K H p xs ∧ xs.length ≠ 2 ∧ b = false) ∨
  ∃ p v w, x = .ref p ∧ SqT K H p [v, w] ∧ flatV v = true ∧ flatV w = true ∧ b = pairB v w
inductive Things (K : PySem.W.Frag) (H : Hp) : List V → List Bool → Prop
  | nil : Things K H [] []
  | cons {x : V} {b : Bool} {xs : List V} {bs : List Bool} : Thing K H x b → Things K H xs bs → Things K H (x :: xs) (b :: bs)
section
variable {K : PySem.W.Frag} {H H' : Hp} {T : List (Addr × Str)}
theorem Thing.ex (e : Ex H H') {x : V} {b : Bool} (h : Thing K H x b) : Thing K H' x b := by
  rcases h with h | ⟨p, xs, h1, h2, h3⟩ | ⟨p, xs, h1, h2, h3⟩ | ⟨p, v, w, h1, h2, h3⟩
  · exact .inl h
  · exact .inr (.inl ⟨p, xs, h1, ex_l e h2, h3⟩)
  · exact .inr (.inr (.inl ⟨p, xs, h1, ex_t e h2, h3⟩))
  · exact .inr (.inr (.inr ⟨p, v, w, h1, ex_t e h2, h3⟩))
theorem Thing.nx (n : NX T H H') {x : V} {b : Bool} (h : Thing K H x b) : Thing K H' x b := by
  rcases h with h | ⟨p, xs, h1, h2, h3⟩ | ⟨p, xs, h1, h2, h3⟩ | ⟨p, v, w, h1, h2, h3⟩
  · exact .inl h
  · exact .inr (.inl ⟨p, xs, h1, n.l h2, h3⟩)
  · exact .inr (.inr (.inl ⟨p, xs, h1, n.tq h2, h3⟩))
  · exact .inr (.inr (.inr ⟨p, v, w, h1, n.tq h2, h3⟩))
theorem Things.ex (e : Ex H H') : ∀ {xs : List V} {bs : List Bool}, Things K H xs bs → Things K H' xs bs
  | _, _, .nil => .nil
  | _, _, .cons h r => .cons (h.ex e) (r.ex e)
theorem Things.nx (n : NX T H H') : ∀ {xs : List V} {bs : List Bool}, Things K H xs bs → Things K H' xs bs
  | _, _, .nil => .nil
  | _, _, .cons h r => .cons (h.nx n) (r.nx n)
theorem Things.len : ∀ {xs : List V} {bs : List Bool}, Things K H xs bs → xs.length = bs.length
  | _, _, .nil => rfl
  | _, _, .cons _ r => congrArg (· + 1) r.len
theorem Things.at : ∀ {xs : List V} {bs : List Bool} {i : Nat} {x : V} {b : Bool}, Things K H xs bs → xs[i]? = some x → bs[i]? = some b → Thing K H x b
  | _, _, _, _, _, .nil, h, _ => by simp at h
  | _, _, 0, x, b, .cons h r, e, f => by
    simp at e f
    subst e f
    exact h
  | _, _, i + 1, x, b, .cons h r, e, f => r.at (by simpa using e) (by simpa using f)
/-- what met refuses -/
def MetBad (K : PySem.W.Frag) (H : Hp) (v : V) : Prop := v = .non ∨ (∃ p xs, v = .ref p ∧ SqT K H p xs) ∨ (∃ p xs, v = .ref p ∧ SqL K H p xs ∧ 6 < xs.length) ∨ ∃ p xs bs, v = .ref p ∧ SqL K H p xs ∧ xs.length ≤ 6 ∧ Things K H xs bs ∧ bs.all id = false
theorem MetBad.ex (e : Ex H H') {v : V} (h : MetBad K H v) : MetBad K H' v := by
  rcases h with h | ⟨p, xs, h1, h2⟩ | ⟨p, xs, h1, h2, h3⟩ | ⟨p, xs, bs, h1, h2, h3, h4, h5⟩
  · exact .inl h
  · exact .inr (.inl ⟨p, xs, h1, ex_t e h2⟩)
  · exact .inr (.inr (.inl ⟨p, xs, h1, ex_l e h2, h3⟩))
  · exact .inr (.inr (.inr ⟨p, xs, bs, h1, ex_l e h2, h3, h4.ex e, h5⟩))
theorem MetBad.nx (n : NX T H H') {v : V} (h : MetBad K H v) : MetBad K H' v := by
  rcases h with h | ⟨p, xs, h1, h2⟩ | ⟨p, xs, h1, h2, h3⟩ | ⟨p, xs, bs, h1, h2, h3, h4, h5⟩
  · exact .inl h
  · exact .inr (.inl ⟨p, xs, h1, n.tq h2⟩)
  · exact .inr (.inr (.inl ⟨p, xs, h1, n.l h2, h3⟩))
  · exact .inr (.inr (.inr ⟨p, xs, bs, h1, n.l h2, h3, h4.nx n, h5⟩))
end
def R_is_pair (G : Pm) : R1 := fun x H Q _ => ∃ b, Thing G.K H x b ∧ RetV (.bl b) H Q
def R_met (G : Pm) : R1 := fun x H Q E => (∃ (a : Addr) (ps : List (Nat × Nat)), x = .ref a ∧ RowsAt G.K H a ps ∧ ps.length ≤ 6 ∧ Good ps ∧ ∀ v H2, Ex H H2 → Told G.K H2 v ps → Q v H2) ∨ (MetBad G.K H x ∧ No G.BadNumber H E)
def R__law_all (G : Pm) (T : List (Addr × Str)) : R2' := fun x y H Q _ => LookBad x y ∧ Tabs T H ∧ ∀ p H', NX T H H' → H' p = some (.lst (List.replicate 5 (V.str "BadNumber"))) → Q (.ref p) H'
abbrev n_is_pair : List Str := ["thing", "rest", "modulus", "one"]
abbrev p_is_pair : List Str := ["thing"]
def sp_is_pair (G : Pm) : Sp := sp1 (R_is_pair G)
def t_is_pair (G : Pm) (E : XK) : TS :=
  (tSeq (tIfS (tOr (tNot (tB (tCB (rIsi G.K) (tCons (tVar 0) (tCons (tC (.ty "tuple")) tNil))))) (tTest (tOp rNe (tCB (bLenQ G.K) (tCons (tVar 0) tNil)) (tC (.int 2)))))
  (tRet (tC (.bl false)))
  tNext)
  (tSeq (tAsg (tVar 0) (gTup G.K 2 (gCons (gName 1) (gCons (gName 2) gNil))))
  (tSeq (tIfS (tB (tCB (rAny G.K) (tCons (tLc (iTup G.K (tVar 0)) (gName 3) tYes (tOrV (tNotV (tCB (rIsi G.K) (tCons (tVar 3) (tCons (tC (.ty "int")) tNil)))) (tCB (rIsi G.K) (tCons (tVar 3) (tCons (tC (.ty "bool")) tNil)))) [3]) tNil)))
  (tRet (tC (.bl false)))
  tNext)
  (tRet (tAndV (tChain cLe cLe (tC (.int 1)) (tVar 2) (tC (.int 2000))) (tChain cLe cLt (tC (.int 0)) (tVar 1) (tVar 2)))))))
def P_is_pair (G : Pm) : Prop := ∀ x0 H Q E, R_is_pair G x0 H Q E → t_is_pair G E (dn Q) (start n_is_pair [x0]) H
abbrev n_met : List Str := ["pairs", "rest", "modulus", "own", "other", "by", "step", "pair"]
abbrev p_met : List Str := ["pairs"]
def sp_met (G : Pm) : Sp := sp1 (R_met G)
def t_met (G : Pm) (E : XK) : TS :=
  (tSeq (tIfS (tOr (tNot (tB (tCB (rIsi G.K) (tCons (tVar 0) (tCons (tC (.ty "list")) tNil))))) (tOr (tTest (tOp cGt (tCB (bLenQ G.K) (tCons (tVar 0) tNil)) (tC (.int 6)))) (tNot (tB (tCB (rAll G.K) (tCons (tLc (iList G.K (tVar 0)) (gName 7) tYes (tCall (sp_is_pair G) [] E0 (tCons (tVar 7) tNil)) [7]) tNil))))))
  (tRaise G.BadNumber E)
  tNext)
  (tSeq (tAsg (tTup (tCons (tC (.int 0)) (tCons (tC (.int 1)) tNil))) (gTup G.K 2 (gCons (gName 1) (gCons (gName 2) gNil))))
  (tSeq (tFor (iList G.K (tVar 0)) (gTup G.K 2 (gCons (gName 3) (gCons (gName 4) gNil)))
  (tSeq (tAsg (tCall (sp_common G) [] E (tCons (tVar 2) (tCons (tVar 4) tNil))) (gName 5))
  (tSeq (tIfS (tTest (tOp rNe (tOp oMod (tOp oSub (tVar 3) (tVar 1)) (tVar 5)) (tC (.int 0))))
  (tRet (tC .non))
  tNext)
  (tSeq (tAsg (tC (.int 0)) (gName 6))
  (tSeq (tWhile (tTest (tOp rNe (tOp oMod (tOp oSub (tOp oAdd (tVar 1) (tOp oMul (tVar 6) (tVar 2))) (tVar 3)) (tVar 4)) (tC (.int 0))))
  (tAsg (tOp oAdd (tVar 6) (tC (.int 1))) (gName 6)))
  (tSeq (tAsg (tOp oAdd (tVar 1) (tOp oMul (tVar 6) (tVar 2))) (gName 1))
  (tAsg (tOp oMul (tOp oDiv (tVar 2) (tVar 5)) (tVar 4)) (gName 2))))))))
  (tRet (tTup (tCons (tVar 1) (tCons (tVar 2) tNil)))))))
def P_met (G : Pm) : Prop := ∀ x0 H Q E, R_met G x0 H Q E → t_met G E (dn Q) (start n_met [x0]) H
abbrev n__law_word : List Str := ["_law_e", "_law_flags", "_law_words", "_law_flag"]
abbrev p__law_word : List Str := ["_law_e"]
def t__law_word (G : Pm) (e C : Addr) : TS :=
  (tSeq (tAsg (tLst (tCons (tCB (rIsE G.K C e) (tCons (tVar 0) (tCons (tC (.ref G.BadTable)) tNil))) (tCons (tCB (rIsE G.K C e) (tCons (tVar 0) (tCons (tC (.ref G.Unlike)) tNil))) (tCons (tCB (rIsE G.K C e) (tCons (tVar 0) (tCons (tC (.ref G.NoWay)) tNil))) (tCons (tCB (rIsE G.K C e) (tCons (tVar 0) (tCons (tC (.ref G.BadName)) tNil))) tNil))))) (gName 1))
  (tSeq (tAsg (tOp rCat (tVar 1) (tLst (tCons (tCB (rIsE G.K C e) (tCons (tVar 0) (tCons (tC (.ref G.BadNumber)) tNil))) (tCons (tCB (rIsE G.K C e) (tCons (tVar 0) (tCons (tC (.ref G.BadSums)) tNil))) (tCons (tCB (rIsE G.K C e) (tCons (tVar 0) (tCons (tC (.ref G.BadRule)) tNil))) (tCons (tCB (rIsE G.K C e) (tCons (tVar 0) (tCons (tC (.ref G.Full)) tNil))) tNil)))))) (gName 1))
  (tSeq (tAsg (tOp rCat (tVar 1) (tLst (tCons (tCB (rIsE G.K C e) (tCons (tVar 0) (tCons (tC (.ref G.Used)) tNil))) (tCons (tCB (rIsE G.K C e) (tCons (tVar 0) (tCons (tC (.ref G.Nothing)) tNil))) (tCons (tCB (rIsE G.K C e) (tCons (tVar 0) (tCons (tC (.ref G.BadText)) tNil))) tNil))))) (gName 1))
  (tSeq (tIfS (tOr (tTest (tOp rNe (tCB (rSum G.K) (tCons (tIntsH G.K (tVar 1)) tNil)) (tC (.int 1)))) (tNot (tB (tCB (rIsE G.K C e) (tCons (tVar 0) (tCons (tC (.ty "ValueError")) tNil))))))
  (tRet (tC (.str "other")))
  tNext)
  (tSeq (tAsg (tLst (tCons (tC (.str "BadTable")) (tCons (tC (.str "Unlike")) (tCons (tC (.str "NoWay")) (tCons (tC (.str "BadName")) (tCons (tC (.str "BadNumber")) (tCons (tC (.str "BadSums")) (tCons (tC (.str "BadRule")) (tCons (tC (.str "Full")) (tCons (tC (.str "Used")) (tCons (tC (.str "Nothing")) tNil))))))))))) (gName 2))
  (tRet (tOp (rIxL G.K) (tOp rCat (tVar 2) (tLst (tCons (tC (.str "BadText")) tNil))) (tBM G.K "list" (rIndex G.K) (tVar 1) (tCons (tC (.bl true)) tNil)))))))))
def P__law_word (G : Pm) : Prop := ∀ (e C : Addr) (nm : Str) (H : Hp) (Q : VK), WE G C nm → (∀ H', Ex H H' → Q (.str nm) H') → t__law_word G e C (dn Q) (start n__law_word [.ref e]) H
abbrev n__law_all : List Str := ["_law_number", "_law_modulus", "_law_told_here"]
abbrev p__law_all : List Str := ["_law_number", "_law_modulus"]
def sp__law_all (G : Pm) (T : List (Addr × Str)) : Sp := sp2 (R__law_all G T)
def t__law_all (G : Pm) (T : List (Addr × Str)) (E : XK) : TS :=
  (tSeq (tAsg (tLst (tCons (tTold T (WE G) fun E => (tCall (sp_inverse G) [] E (tCons (tVar 0) (tCons (tVar 1) tNil)))) tNil)) (gName 2))
  (tSeq (tDrop (tBM G.K "list" rAppend (tVar 2) (tCons (tTold T (WE G) fun E => (tCall (sp_order_of G) [] E (tCons (tVar 0) (tCons (tVar 1) tNil)))) tNil)))
  (tSeq (tDrop (tBM G.K "list" rAppend (tVar 2) (tCons (tTold T (WE G) fun E => (tCall (sp_roots G) [] E (tCons (tVar 0) (tCons (tVar 1) tNil)))) tNil)))
  (tSeq (tDrop (tBM G.K "list" rAppend (tVar 2) (tCons (tTold T (WE G) fun E => (tCall (sp_log_of G) [] E (tCons (tVar 0) (tCons (tC (.int 5)) (tCons (tVar 1) tNil))))) tNil)))
  (tSeq (tDrop (tBM G.K "list" rAppend (tVar 2) (tCons (tTold T (WE G) fun E => (tCall (sp_log_of G) [] E (tCons (tC (.int 5)) (tCons (tVar 0) (tCons (tVar 1) tNil))))) tNil)))
  (tRet (tVar 2)))))))
def P__law_all (G : Pm) : Prop := ∀ T x0 x1 H Q E, R__law_all G T x0 x1 H Q E → t__law_all G T E (dn Q) (start n__law_all [x0, x1]) H
theorem pure__law_word (G : Pm) (h : ErrsOk G.K G.SieveError ((errsL G).map (·.1))) : P__law_word G := by
  intro e C nm H Q hw q
  obtain ⟨j, hj⟩ := List.getElem?_of_mem hw
  have hC : ((errsL G).map (·.1))[j]? = some C := by
    rw [List.getElem?_map, hj]
    rfl
  have mC := List.mem_of_getElem? hC
  obtain ⟨f1, f2, f3⟩ := one_flag C _ j h.nd hC
  have kk := fun D (hD : D ∈ (errsL G).map (·.1)) => h.two C mC D hD
  refine q_asgL (xs := [V.bl (decide (C = G.BadTable)), V.bl (decide (C = G.Unlike)), V.bl (decide (C = G.NoWay)), V.bl (decide (C = G.BadName))]) (el_lst (ea_cons (ev_isE rfl (kk _ (by simp [errsL]))) (ea_cons (ev_isE rfl (kk _ (by simp [errsL]))) (ea_cons (ev_isE rfl (kk _ (by simp [errsL]))) (ea_cons (ev_isE rfl (kk _ (by simp [errsL]))) (ea_nil))))) (by show 4 ≤ 100000; decide)) fun l0 H0 _ e0 h0 => ?_
  refine q_asgL (xs := [V.bl (decide (C = G.BadTable)), V.bl (decide (C = G.Unlike)), V.bl (decide (C = G.NoWay)), V.bl (decide (C = G.BadName)), V.bl (decide (C = G.BadNumber)), V.bl (decide (C = G.BadSums)), V.bl (decide (C = G.BadRule)), V.bl (decide (C = G.Full))]) (el_cat (ev_var rfl) h0 (el_lst (ea_cons (ev_isE rfl (kk _ (by simp [errsL]))) (ea_cons (ev_isE rfl (kk _ (by simp [errsL]))) (ea_cons (ev_isE rfl (kk _ (by simp [errsL]))) (ea_cons (ev_isE rfl (kk _ (by simp [errsL]))) (ea_nil))))) (by show 4 ≤ 100000; decide)) (by simp)) fun l1 H1 _ e1 h1 => ?_
  refine q_asgL (xs := [V.bl (decide (C = G.BadTable)), V.bl (decide (C = G.Unlike)), V.bl (decide (C = G.NoWay)), V.bl (decide (C = G.BadName)), V.bl (decide (C = G.BadNumber)), V.bl (decide (C = G.BadSums)), V.bl (decide (C = G.BadRule)), V.bl (decide (C = G.Full)), V.bl (decide (C = G.Used)), V.bl (decide (C = G.Nothing)), V.bl (decide (C = G.BadText))]) (el_cat (ev_var rfl) h1 (el_lst (ea_cons (ev_isE rfl (kk _ (by simp [errsL]))) (ea_cons (ev_isE rfl (kk _ (by simp [errsL]))) (ea_cons (ev_isE rfl (kk _ (by simp [errsL]))) (ea_nil)))) (by show 3 ≤ 100000; decide)) (by simp)) fun l2 H2 _ e2 h2 => ?_
  have hf : SqL G.K H2 l2 (((((errsL G).map (·.1)).map fun D => decide (C = D))).map V.bl) := sq_of h2
  refine q_when (b := !decide (V.int 1 = V.int 1) || !true) (et_or (et_test (ev_op (ev_is (ev_sumB (el_intsH (ev_var rfl) hf)) (by rw [f1])) ev_c (rv_ne rfl))) fun _ => et_not (et_B (ev_isET rfl (h.one C mC).ve))) (fun hb => by cases hb) fun _ Hn en => ?_
  have hj2 : ([V.str "BadTable", V.str "Unlike", V.str "NoWay", V.str "BadName", V.str "BadNumber", V.str "BadSums", V.str "BadRule", V.str "Full", V.str "Used", V.str "Nothing", V.str "BadText"])[j]? = some (.str nm) := by
    have z : ((errsL G).map fun p => V.str p.2)[j]? = some (.str nm) := by
      rw [List.getElem?_map, hj]
      rfl
    exact z
  refine q_asgL (xs := [V.str "BadTable", V.str "Unlike", V.str "NoWay", V.str "BadName", V.str "BadNumber", V.str "BadSums", V.str "BadRule", V.str "Full", V.str "Used", V.str "Nothing"]) (el_lst (ea_cons ev_c (ea_cons ev_c (ea_cons ev_c (ea_cons ev_c (ea_cons ev_c (ea_cons ev_c (ea_cons ev_c (ea_cons ev_c (ea_cons ev_c (ea_cons ev_c (ea_nil))))))))))) (by show 10 ≤ 100000; decide)) fun w Hw _ ew hw1 => ?_
  refine s_ret (v := .str nm) (ev_opL1 (xs := [V.str "BadTable", V.str "Unlike", V.str "NoWay", V.str "BadName", V.str "BadNumber", V.str "BadSums", V.str "BadRule", V.str "Full", V.str "Used", V.str "Nothing", V.str "BadText"]) (el_cat (xs := [V.str "BadTable", V.str "Unlike", V.str "NoWay", V.str "BadName", V.str "BadNumber", V.str "BadSums", V.str "BadRule", V.str "Full", V.str "Used", V.str "Nothing"]) (ys := [V.str "BadText"]) (ev_var rfl) hw1 (el_lst (ea_cons ev_c (ea_nil)) (by show 1 ≤ 100000; decide)) (by simp)) (fun H1 e1 => ev_idx (ev_var rfl) (ex_l (en.trans (ew.trans e1)) hf) f2 f3) fun p H1 h1 _ => rv_ixL (sq_of h1) (atI_nat hj2)) fun Hz ez => q Hz (((e0.trans e1).trans e2).trans (en.trans (ew.trans ez)))
/-! ### is_pair -/
def isIV : V → Bool
  | .int _ => true
  | _ => false
theorem ev_notI {K : PySem.W.Frag} {σ : L2.St} {H : Hp} {ta : TE} {x : V} (h : Ev ta σ H x) (hf : flatV x = true) :
    Ev (tOrV (tNotV (tCB (rIsi K) (tCons ta (tCons (tC (.ty "int")) tNil)))) (tCB (rIsi K) (tCons ta (tCons (tC (.ty "bool")) tNil)))) σ H (.bl (!isIV x)) := by
  cases x with
  | int n => exact ev_orV (a := !true) (b := false) (ev_notV (ev_isi h (fun _ _ => .base (.int n)) (by decide +kernel))) fun _ => ev_isi h (fun _ _ => .base (.int n)) (by decide +kernel)
  | bl b => exact ev_orV (a := !true) (b := true) (ev_notV (ev_isi h (fun _ _ => .base (.bl b)) (by decide +kernel))) fun _ => ev_isi h (fun _ _ => .base (.bl b)) (by decide +kernel)
  | str s => exact ev_orV (a := !false) (b := false) (ev_notV (ev_isi h (fun _ _ => .base (.str s)) (by decide +kernel))) fun z => (by cases z)
  | non => exact ev_orV (a := !false) (b := false) (ev_notV (ev_isi h (fun _ _ => .base .non) (by decide +kernel))) fun z => (by cases z)
  | _ => cases hf
theorem pure_is_pair (G : Pm) : P_is_pair G := by
  intro x0 H Q E h
  obtain ⟨b, hT, q⟩ := h
  rcases hT with ⟨rfl, rfl⟩ | ⟨p, xs, rfl, hS, rfl⟩ | ⟨p, xs, rfl, hS, h2, rfl⟩ | ⟨p, v, w, rfl, hS, hv, hw, rfl⟩
  · refine q_when (b := !false || true) (et_or (et_not (et_B (ev_isi (ev_var rfl) (fun H1 e => .base .non) (by decide +kernel)))) fun z => (by cases z)) (fun hb H1 e1 => s_ret ev_c fun H2 e2 => q H2 (e1.trans e2)) fun hb => (by cases hb)
  · refine q_when (b := !false || true) (et_or (et_not (et_B (ev_isi (ev_var rfl) (fun H1 e => ty_l (ex_l e hS)) (by decide +kernel)))) fun z => (by cases z)) (fun hb H1 e1 => s_ret ev_c fun H2 e2 => q H2 (e1.trans e2)) fun hb => (by cases hb)
  · refine q_when (b := !true || !decide (V.int (xs.length : Int) = V.int 2)) (et_or (et_not (et_B (ev_isi (ev_var rfl) (fun H1 e => ty_t (ex_t e hS)) (by decide +kernel)))) fun _ => et_test (ev_op (ev_lenT (ev_var rfl) hS) ev_c (rv_ne rfl))) (fun hb H1 e1 => s_ret ev_c fun H2 e2 => q H2 (e1.trans e2)) fun hb => ?_
    have : ¬ (xs.length : Int) = 2 := by omega
    simp [this] at hb
  · refine q_when (b := !true || !decide (V.int (([v, w]).length : Int) = V.int 2)) ?_ (fun hb H1 e1 => by simp at hb) fun hb H1 e1 => ?_
    · exact et_or (et_not (et_B (ev_isi (ev_var rfl) (fun H1 e => ty_t (ex_t e hS)) (by decide +kernel)))) fun _ => et_test (ev_op (ev_lenT (ev_var rfl) hS) ev_c (rv_ne rfl))
    refine q_tup2 (ev_var rfl) (ex_t e1 hS) fun H2 e2 => ?_
    have hS2 := ex_t (e1.trans e2) hS
    refine q_when (b := [!isIV v, !isIV w].any id) ?_ (fun hb H3 e3 => ?_) fun hb H3 e3 => ?_
    · refine et_B (ev_anyN (el_mapT [.bl (!isIV v), .bl (!isIV w)] (ev_var rfl) hS2 rfl (by show 2 ≤ 40000; decide) (fun x => rfl) ?_))
      intro i x y H3 e hi hy
      match i, hi, hy with
      | 0, hi, hy =>
        cases hi
        cases hy
        exact ev_notI (ev_var rfl) hv
      | 1, hi, hy =>
        cases hi
        cases hy
        exact ev_notI (ev_var rfl) hw
    · refine s_ret ev_c fun H4 e4 => ?_
      have : pairB v w = false := by
        cases v <;> cases w <;> first | rfl | (simp [isIV] at hb)
      rw [this] at q
      exact q H4 (((e1.trans e2).trans e3).trans e4)
    · have : ∃ r m : Int, v = .int r ∧ w = .int m := by
        cases v <;> cases w <;> first | exact ⟨_, _, rfl, rfl⟩ | (simp [isIV] at hb)
      obtain ⟨r, m, rfl, rfl⟩ := this
      exact s_ret (v := .bl (pairB (.int r) (.int m))) (ev_andV (ev_chain ev_c (ev_var rfl) rv_I0 (fun _ => ev_c) fun _ => rv_I0) fun _ => ev_chain ev_c (ev_var rfl) rv_I0 (fun _ => ev_var rfl) fun _ => rv_I0) fun H4 e4 => q H4 (((e1.trans e2).trans e3).trans e4)
/-! ### met -/
theorem bl_rep (n : Nat) : (List.replicate n true).map V.bl = List.replicate n (.bl true) := List.map_replicate
theorem rep_at {n i : Nat} {x y : V} (h : (List.replicate n x)[i]? = some y) : y = x := (List.mem_replicate.mp (List.mem_of_getElem? h)).2
theorem good_take {ps : List (Nat × Nat)} (h : Good ps) (i : Nat) : ∀ p ∈ ps.take i, 0 < p.2 := fun p hp => by
  have := (h p (List.mem_of_mem_take hp)).1
  omega
theorem lcm_le : ∀ qs : List (Nat × Nat), (∀ p ∈ qs, p.1 < p.2 ∧ p.2 ≤ 2000) → lcmL qs ≤ 2000 ^ qs.length
  | [], _ => Nat.le_refl _
  | p :: qs, h => by
    have h1 := (h p List.mem_cons_self).2
    have h2 := lcm_le qs fun q hq => h q (List.mem_cons_of_mem _ hq)
    have h3 : lcmL (p :: qs) ≤ p.2 * lcmL qs := Nat.div_le_self _ _
    refine Nat.le_trans h3 (Nat.le_trans (Nat.mul_le_mul h1 h2) ?_)
    rw [List.length_cons, Nat.pow_succ, Nat.mul_comm]
    exact Nat.le_refl _
theorem lcm_lt {ps : List (Nat × Nat)} (h : Good ps) (hl : ps.length ≤ 6) : lcmL ps ≤ 2000 ^ 6 := Nat.le_trans (lcm_le ps h) (Nat.pow_le_pow_right (by decide) hl)
theorem dvd_dec {g : Nat} {z : Int} (hg : 0 < g) : (!decide (V.int (z % (g : Int)) = V.int 0)) = false ↔ (g : Int) ∣ z := by
  rw [Bool.not_eq_false', decide_eq_true_iff]
  constructor
  · intro h
    exact Int.dvd_of_emod_eq_zero (V.int.inj h)
  · intro h
    rw [Int.emod_eq_zero_of_dvd h]
theorem pure_met (G : Pm) : P_met G := by
  intro x0 H Q E h
  rcases h with ⟨a, ps, rfl, ⟨xs, hS, hR⟩, hl, hG, q⟩ | ⟨hb, no⟩
  rotate_left
  · rcases hb with rfl | ⟨p, xs, rfl, hS⟩ | ⟨p, xs, rfl, hS, h6⟩ | ⟨p, xs, bs, rfl, hS, h6, hT, hb⟩
    · refine q_when (b := !false || true) ?_ (fun hb H1 e1 => no H1 e1) fun hb => (by cases hb)
      exact et_or (et_not (et_B (ev_isi (ev_var rfl) (fun H1 e => .base .non) (by decide +kernel)))) fun z => (by cases z)
    · refine q_when (b := !false || true) ?_ (fun hb H1 e1 => no H1 e1) fun hb => (by cases hb)
      exact et_or (et_not (et_B (ev_isi (ev_var rfl) (fun H1 e => ty_t (ex_t e hS)) (by decide +kernel)))) fun z => (by cases z)
    · refine q_when (b := !true || (decide ((6 : Int) < (xs.length : Int)) || true)) ?_ (fun hb H1 e1 => no H1 e1) fun hb => (by simp at hb)
      refine et_or (et_not (et_B (ev_isi (ev_var rfl) (fun H1 e => ty_l (ex_l e hS)) (by decide +kernel)))) fun _ => et_or (et_test (ev_op (ev_lenL (ev_var rfl) hS) ev_c rv_I0)) fun z => ?_
      have := of_decide_eq_false z
      omega
    · refine q_when (b := !true || (decide ((6 : Int) < (xs.length : Int)) || !(bs.all id))) ?_ (fun _ H1 e1 => no H1 e1) fun z => ?_
      · refine et_or (et_not (et_B (ev_isi (ev_var rfl) (fun H1 e => ty_l (ex_l e hS)) (by decide +kernel)))) fun _ => et_or (et_test (ev_op (ev_lenL (ev_var rfl) hS) ev_c rv_I0)) fun _ => et_not (et_B (ev_allN ?_))
        refine el_mapL _ (ev_var rfl) hS (by rw [List.length_map, hT.len]) (by omega) (fun x => rfl) fun i x y H1 e hi hy => ?_
        rw [List.getElem?_map] at hy
        cases hbi : bs[i]? with
        | none =>
          rw [hbi] at hy
          cases hy
        | some b =>
          rw [hbi] at hy
          cases hy
          exact ev_ca1 (ev_var rfl) fun H2 e2 Q' q' => ⟨b, (hT.at hi hbi).ex (e.trans e2), q'⟩
      · rw [hb] at z
        simp at z
  have hlen : xs.length = ps.length := hR.len
  have h6 : xs.length ≤ 6 := by omega
  refine q_when (b := !true || (decide ((6 : Int) < (xs.length : Int)) || !(List.replicate xs.length true).all id)) ?_ (fun hb H1 e1 => ?_) fun hb H1 e1 => ?_
  · refine et_or (et_not (et_B (ev_isi (ev_var rfl) (fun H1 e => ty_l (ex_l e hS)) (by decide +kernel)))) fun _ => et_or (et_test (ev_op (ev_lenL (ev_var rfl) hS) ev_c rv_I0)) fun _ => et_not (et_B (ev_allN ?_))
    rw [bl_rep]
    refine el_mapL _ (ev_var rfl) hS (List.length_replicate ..) (by omega) (fun x => rfl) fun i x y H1 e hi hy => ?_
    rw [rep_at hy]
    obtain ⟨t, p, rfl, hp, hT⟩ := hR.at hi
    have := hG p (List.mem_of_getElem? hp)
    refine ev_ca1 (ev_var rfl) fun H2 e2 Q' q' => ⟨true, .inr (.inr (.inr ⟨t, _, _, rfl, ex_t (e.trans e2) hT, rfl, rfl, ?_⟩)), q'⟩
    have b1 : (1 : Int) ≤ (p.2 : Int) := by omega
    have b2 : (p.2 : Int) ≤ 2000 := by omega
    have b3 : (0 : Int) ≤ (p.1 : Int) := by omega
    have b4 : (p.1 : Int) < (p.2 : Int) := by omega
    simp [pairB, b1, b2, b3, b4]
  · have : ¬ ((6 : Int) < (xs.length : Int)) := by omega
    simp [this] at hb
  refine q_tup2N (eu_tup (ea_cons ev_c (ea_cons ev_c ea_nil)) (by show 2 ≤ 100000; decide)) fun H2 e2 => ?_
  have E2 := e1.trans e2
  refine q_forL (ev_var rfl) (ex_l E2 hS) (fun i σ' H' => ∃ (R : Nat) (y3 y4 y5 y6 y7 : Option V), σ' = [some (.ref a), some (.int (R : Int)), some (.int (lcmL (ps.take i) : Int)), y3, y4, y5, y6, y7] ∧ Sol (ps.take i) R ∧ R < lcmL (ps.take i) ∧ Ex H H')
    (fun H3 e3 => ⟨0, _, _, _, _, _, rfl, fun _ h => by simp at h, by simp [lcmL], E2.trans e3⟩) (fun i σ' H' _ ⟨R, _, _, _, _, _, _, _, _, e⟩ => ex_l e hS) ?_ ?_
  · rintro i x σ' H' hi ⟨R, y3, y4, y5, y6, y7, rfl, hR1, hR2, e⟩
    obtain ⟨t, ⟨r, m⟩, rfl, hp, hT⟩ := hR.at hi
    have hpm := hG _ (List.mem_of_getElem? hp)
    dsimp only at hpm hT
    have hm : 0 < m := by omega
    have hM : 0 < lcmL (ps.take i) := lcmL_pos (good_take hG i)
    have hMb : lcmL (ps.take i) ≤ 2000 ^ 6 := lcm_lt (fun p hp => hG p (List.mem_of_mem_take hp)) (Nat.le_trans (List.length_take_le' _ _) hl)
    have htk : ps.take (i + 1) = ps.take i ++ [(r, m)] := by
      rw [List.take_add_one, hp]
      rfl
    generalize hMe : lcmL (ps.take i) = M at *
    have hg : 0 < Nat.gcd M m := Nat.gcd_pos_of_pos_left _ hM
    refine g_tup2 (ex_t e hT) ?_
    refine q_asg (v := .int ((Nat.gcd M m : Nat) : Int)) (ev_ca2 (ev_var rfl) (ev_var rfl) fun H3 e3 Q' q' => ⟨M, m, rfl, rfl, q'⟩) fun H3 e3 => ?_
    refine q_when (b := !decide (V.int (((r : Int) - (R : Int)) % ((Nat.gcd M m : Nat) : Int)) = V.int 0)) ?_ (fun hb H4 e4 => ?_) fun hb H4 e4 => ?_
    · walk_at "ev"
      omega
    · refine s_ret (v := .non) ev_c fun H5 e5 => q _ _ (((e.trans e3).trans e4).trans e5) (.inl ⟨?_, rfl⟩)
      rintro ⟨z, hz⟩
      have d1 : (M : Int) ∣ (z : Int) - (R : Int) := by
        rw [← hMe]
        exact sol_dvd (sol_sub hz fun p hp => List.mem_of_mem_take hp) hR1
      have d2 := sol_gcd (r := r) (m := m) d1 (hz (r, m) (List.mem_of_getElem? hp))
      rw [(dvd_dec hg).mpr d2] at hb
      cases hb
    · have d := (dvd_dec hg).mp hb
      obtain ⟨s0, hs0, hd0⟩ := step_some hm d
      refine q_asg (v := .int 0) ev_c fun H5 e5 => ?_
      refine q_whl (fun k σ' H' => ∃ s : Nat, σ' = [some (.ref a), some (.int (R : Int)), some (.int (M : Int)), some (.int (r : Int)), some (.int (m : Int)), some (.int ((Nat.gcd M m : Nat) : Int)), some (.int (s : Int)), y7] ∧ s + k = s0 ∧ Ex H H') s0 ⟨0, rfl, by omega, ((e.trans e3).trans e4).trans e5⟩ ?_
      rintro k σ' H' ⟨s, rfl, hk, e'⟩
      have hsb : (s : Int) < 2 ^ 62 := by
        have : m / Nat.gcd M m ≤ m := Nat.div_le_self _ _
        omega
      refine ⟨!decide (V.int (((R : Int) + (s : Int) * (M : Int) - (r : Int)) % (m : Int)) = V.int 0), ?_, fun hb H6 e6 => ?_, fun hb H6 e6 => ?_⟩
      · walk_at "ev"
        · exact cm_l (by omega) (by omega)
        · omega
      · have hne : s ≠ s0 := by
          rintro rfl
          rw [(dvd_dec hm).mpr hd0] at hb
          cases hb
        refine s_asg (v := .int ((s + 1 : Nat) : Int)) ?_ fun H7 e7 => ⟨k - 1, by omega, s + 1, rfl, by omega, (e'.trans e6).trans e7⟩
        rw [Int.natCast_add]
        walk_at "ev"
      · have hd := (dvd_dec hm).mp hb
        have hR3 : Sol (ps.take (i + 1)) (R + s * M) := by
          rw [htk]
          have := sol_next (ps := ps.take i) (R := R) (r := r) (m := m) (s := s) hR1 hpm.1 (by rw [hMe]; exact hd)
          rw [hMe] at this
          exact this
        have hlc : lcmL (ps.take (i + 1)) = M / Nat.gcd M m * m := by
          rw [htk, lcmL_snoc, hMe, lcm_by]
        have hlt : R + s * M < lcmL (ps.take (i + 1)) := by
          rw [hlc, Nat.div_mul_right_comm (Nat.gcd_dvd_left M m), Nat.mul_div_assoc _ (Nat.gcd_dvd_right M m)]
          have h1 : s + 1 ≤ m / Nat.gcd M m := by omega
          have h2 := Nat.mul_le_mul_left M h1
          rw [Nat.mul_add, Nat.mul_comm M s] at h2
          omega
        refine q_asg (v := .int ((R + s * M : Nat) : Int)) ?_ fun H7 e7 => ?_
        · rw [Int.natCast_add, Int.natCast_mul]
          walk_at "ev"
          exact cm_l (by omega) (by omega)
        refine s_asg (v := .int (lcmL (ps.take (i + 1)) : Int)) ?_ fun H8 e8 => ⟨R + s * M, _, _, _, _, _, rfl, hR3, hlt, ((e'.trans e6).trans e7).trans e8⟩
        rw [hlc, Int.natCast_mul, Int.natCast_ediv]
        have hgm : Nat.gcd M m ≤ m := Nat.gcd_le_right _ hm
        walk_at "ev"
        · exact cdiv_w (by omega) (by omega)
        · exact cm_r (by omega) (by omega)
  · rintro σ' H' ⟨R, y3, y4, y5, y6, y7, rfl, hR1, hR2, e⟩
    rw [hlen, List.take_length] at hR1 hR2
    refine s_retU (xs := [.int (R : Int), .int (lcmL ps : Int)]) (eu_tup ?_ (by show 2 ≤ 100000; decide)) fun p H3 _ e3 h3 => q _ _ (e.trans e3) (.inr ⟨R, p, hR1, hR2, rfl, st_of h3⟩)
    rw [hlen, List.take_length]
    walk_at "ev"
end Sv

set_option Elab.async false
set_option linter.all false
set_option maxRecDepth 100000
set_option maxHeartbeats 4000000
namespace Sv
open PySem PySem.Spec PyProof.Rows L2 Evl HotX L2H LamX
local macro_rules | `(tactic| walk_at "ev") => `(tactic| (repeat' (first | exact ev_var rfl | exact ev_c | exact rv_I0 | exact ea_nil | exact ru_neg | exact rv_eq rfl | exact rv_ne rfl | apply ev_op | apply rv_I | apply ev_un | apply et_test | apply et_B | apply et_not | apply ea_cons | apply ev_maxI | apply ev_minI)))
theorem natV_flat (l : List Nat) : (natV l).all flatV = true := by
  unfold natV
  rw [List.all_map]
  exact List.all_eq_true.mpr fun _ _ => rfl
abbrev BN : V := .str "BadNumber"
theorem look5 {x y : V} (h : LookBad x y) : (NumBad x 0 1000000000 ∨ ((∃ b, isA x b) ∧ LookBad (.int 5) y)) := by
  rcases h with h | ⟨h1, h2⟩
  · exact .inl h
  · exact .inr ⟨h1, .inr ⟨⟨5, rfl, by decide⟩, h2⟩⟩
section
variable {G : Pm} {T : List (Addr × Str)} {H H' : Hp}
theorem bn_go {E : XK} {Q : VK} (n : NX T H H') (q : ∀ H2, NX T H' H2 → Q BN H2) {H1 : Hp} (e1 : Ex H' H1) : No G.BadNumber H1 (ET (WE G) Q) := fun H3 e3 => et_go (nm := "BadNumber") (by simp [WE, errsL]) fun H4 e4 => q H4 (nx_of n.2 ((e1.trans e3).trans e4))
theorem nw_go {E : XK} {Q : VK} (n : NX T H H') (q : ∀ H2, NX T H' H2 → Q (.str "NoWay") H2) {H1 : Hp} (e1 : Ex H' H1) : No G.NoWay H1 (ET (WE G) Q) := fun H3 e3 => et_go (nm := "NoWay") (by simp [WE, errsL]) fun H4 e4 => q H4 (nx_of n.2 ((e1.trans e3).trans e4))
end
theorem pure__law_all (G : Pm) : P__law_all G := by
  intro T x0 x1 H Q E h
  obtain ⟨hb, hT, q⟩ := h
  refine q_lstT (v := BN) hT (tl_told fun H1 n1 Q' q' => call2 (ev_var rfl) (ev_var rfl) fun H2 e2 => .inr ⟨hb, bn_go (E := E) n1 q' e2⟩) fun l H1 n1 l0 => ?_
  have n2 : NX T H1 (upd H1 l (.lst [BN])) := nx_of n1.2 (Ex.new l0)
  have h2 : (upd H1 l (.lst [BN])) l = some (.lst [BN]) := upd_same
  generalize upd H1 l (.lst [BN]) = H2 at *
  refine q_appT (v := BN) n2.2 h2 rfl (tl_told fun H3 n3 Q' q' => call2 (ev_var rfl) (ev_var rfl) fun H4 e4 => .inr ⟨hb, bn_go (E := E) n3 q' e4⟩) (by decide) fun H3 n3 => ?_
  have n4 := (n2.trans n3).mut (o := .lst ([BN] ++ [BN])) l0 (n3.o h2)
  have h4 : (upd H3 l (.lst ([BN] ++ [BN]))) l = some (.lst ([BN] ++ [BN])) := upd_same
  generalize upd H3 l (.lst ([BN] ++ [BN])) = H4 at *
  refine q_appT (v := BN) n4.2 h4 rfl (tl_told fun H5 n5 Q' q' => call2 (ev_var rfl) (ev_var rfl) fun H6 e6 => .inr ⟨hb, bn_go (E := E) n5 q' e6⟩) (by decide) fun H5 n5 => ?_
  have n6 := (n4.trans n5).mut (o := .lst ([BN] ++ [BN] ++ [BN])) l0 (n5.o h4)
  have h6 : (upd H5 l (.lst ([BN] ++ [BN] ++ [BN]))) l = some (.lst ([BN] ++ [BN] ++ [BN])) := upd_same
  generalize upd H5 l (.lst ([BN] ++ [BN] ++ [BN])) = H6 at *
  refine q_appT (v := BN) n6.2 h6 rfl (tl_told fun H7 n7 Q' q' => call3 (ev_var rfl) ev_c (ev_var rfl) fun H8 e8 => .inr ⟨look5 hb, bn_go (E := E) n7 q' e8⟩) (by decide) fun H7 n7 => ?_
  have n8 := (n6.trans n7).mut (o := .lst ([BN] ++ [BN] ++ [BN] ++ [BN])) l0 (n7.o h6)
  have h8 : (upd H7 l (.lst ([BN] ++ [BN] ++ [BN] ++ [BN]))) l = some (.lst ([BN] ++ [BN] ++ [BN] ++ [BN])) := upd_same
  generalize upd H7 l (.lst ([BN] ++ [BN] ++ [BN] ++ [BN])) = H8 at *
  refine q_appT (v := BN) n8.2 h8 rfl (tl_told fun H9 n9 Q' q' => call3 ev_c (ev_var rfl) (ev_var rfl) fun H10 e10 => .inr ⟨.inr ⟨⟨5, rfl, by decide⟩, hb⟩, bn_go (E := E) n9 q' e10⟩) (by decide) fun H9 n9 => ?_
  have n10 := (n8.trans n9).mut (o := .lst ([BN] ++ [BN] ++ [BN] ++ [BN] ++ [BN])) l0 (n9.o h8)
  have h10 : (upd H9 l (.lst ([BN] ++ [BN] ++ [BN] ++ [BN] ++ [BN]))) l = some (.lst ([BN] ++ [BN] ++ [BN] ++ [BN] ++ [BN])) := upd_same
  generalize upd H9 l (.lst ([BN] ++ [BN] ++ [BN] ++ [BN] ++ [BN])) = H10 at *
  exact s_ret (ev_var rfl) fun H11 e11 => q l H11 ((n1.trans n10).ex e11) (e11 l _ h10)
/-! ### things that are no pairs -/
section
variable {K : PySem.W.Frag} {σ : L2.St} {H : Hp} {ta tb te : TE} {tr : TA} {v w : V} {b : Bool} {bs : List Bool}
def EvTh (K : PySem.W.Frag) (tr : TA) (σ : L2.St) (H : Hp) (bs : List Bool) : Prop := ∀ H1, Ex H H1 → ∀ Q : List V → Hp → Prop, (∀ vs H2, Ex H1 H2 → Things K H2 vs bs → Q vs H2) → tr σ H1 Q
theorem eth_nil : EvTh K tNil σ H [] := fun H1 _ Q q => q [] H1 (Ex.refl H1) .nil
theorem eth_cons (h : EvP te σ H fun v H => Thing K H v b) (hr : EvTh K tr σ H bs) : EvTh K (tCons te tr) σ H (b :: bs) := fun H1 e Q q =>
  h H1 e _ fun v H2 e2 hv => hr H2 (e.trans e2) _ fun vs H3 e3 hvs => q (v :: vs) H3 (e2.trans e3) (.cons (hv.ex e3) hvs)
theorem ep_pair (hv : Ev ta σ H v) (hw : Ev tb σ H w) (f1 : flatV v = true) (f2 : flatV w = true) (hb : b = pairB v w) : EvP (tTup (tCons ta (tCons tb tNil))) σ H fun v H => Thing K H v b :=
  ep_u (eu_tup (ea_cons hv (ea_cons hw ea_nil)) (by show 2 ≤ 100000; decide)) fun p H1 _ h1 => .inr (.inr (.inr ⟨p, v, w, rfl, st_of h1, f1, f2, hb⟩))
theorem ep_bad (h : EvTh K tr σ H bs) (hl : bs.length ≤ 6) (hb : bs.all id = false) : EvP (tLst tr) σ H fun v H => MetBad K H v := fun H1 e Q q =>
  h H1 e _ fun vs H2 e2 hT => ⟨sz_of (by rw [hT.len]; omega), fun r hr => q (.ref r) _ (e2.trans (Ex.new hr)) (.inr (.inr (.inr ⟨r, vs, bs, rfl, sq_of upd_same, by rw [hT.len]; exact hl, hT.ex (Ex.new hr), hb⟩)))⟩
end
theorem inV_non (l : List Nat) : inV .non (natV l) = false := by
  unfold inV natV
  rw [List.any_map]
  exact List.any_eq_false.mpr fun _ _ => by simp [eqV]
theorem rows_rep {K : PySem.W.Frag} {H : Hp} : ∀ vs : List V, (∀ v ∈ vs, ∃ t, v = .ref t ∧ SqT K H t [.int 0, .int 1]) → Rows K H vs (List.replicate vs.length (0, 1))
  | [], _ => .nil
  | v :: vs, h => by
    obtain ⟨t, rfl, ht⟩ := h v List.mem_cons_self
    exact .cons (p := (0, 1)) ht (rows_rep vs fun w hw => h w (List.mem_cons_of_mem _ hw))
theorem ord_01 : Ord 0 1 1 := ⟨Nat.le_refl 1, rfl, fun k h1 h2 => by omega⟩
theorem u_1 : units 1 = [0] := by decide
theorem r_01 : (List.range 1).filter (rootB 0 1) = [0] := by decide +kernel
def R_law (G : Pm) (T : List (Addr × Str)) : R1 := LawR G T
abbrev n_law : List Str := ["_law_script", "_law_k", "_law_more", "_law_modulus", "_law_bad", "_law_told_here", "_law_far", "_law_some"]
abbrev p_law : List Str := ["_law_script"]
def sp_law (G : Pm) (T : List (Addr × Str)) : Sp := sp1 (R_law G T)
def t_law (G : Pm) (T : List (Addr × Str)) (E : XK) : TS :=
  (tSeq (tFor (iRng1 (tCons (tCB bMax2 (tCons (tC (.int 1)) (tCons (tCB bMin2 (tCons (tC (.int 4)) (tCons (tCB (bLenQ G.K) (tCons (tVar 0) tNil)) tNil))) tNil))) tNil)) (gName 1)
  (tSeq (tAsg (tCall (sp__law_drawn G) [] E (tCons (tCall (sp__law_cell G) [] E (tCons (tVar 0) (tCons (tVar 1) tNil))) (tCons (tVar 1) tNil))) (gName 2))
  (tSeq (tAsg (tOp oAdd (tC (.int 1)) (tOp oMod (tVar 2) (tC (.int 2000)))) (gName 3))
  (tSeq (tFor (iList G.K (tLst (tCons (tUn uNeg (tC (.int 1))) (tCons (tOp oAdd (tOp oPow (tC (.int 10)) (tC (.int 9))) (tC (.int 1))) (tCons (tC .non) (tCons (tC (.bl true)) (tCons (tC (.str "5")) tNil))))))) (gName 4)
  (tIfS (tTest (tOp (rNeD G.K) (tCall (sp__law_all G T) [] E (tCons (tVar 4) (tCons (tC .non) tNil))) (tOp rRep (tLst (tCons (tC (.str "BadNumber")) tNil)) (tC (.int 5)))))
  (tRet (tC (.bl false)))
  tNext))
  (tSeq (tFor (iList G.K (tLst (tCons (tC (.int 0)) (tCons (tC (.int 2001)) (tCons (tUn uNeg (tC (.int 1))) (tCons (tC .non) (tCons (tC (.bl true)) (tCons (tC (.str "5")) tNil)))))))) (gName 4)
  (tSeq (tAsg (tLst (tCons (tTold T (WE G) fun E => (tCall (sp_coprimes G) [] E (tCons (tVar 4) tNil))) tNil)) (gName 5))
  (tSeq (tDrop (tBM G.K "list" rAppend (tVar 5) (tCons (tTold T (WE G) fun E => (tCall (sp_least_root G) [] E (tCons (tVar 4) tNil))) tNil)))
  (tIfS (tTest (tOp (rNeD G.K) (tOp rCat (tCall (sp__law_all G T) [] E (tCons (tC (.int 5)) (tCons (tVar 4) tNil))) (tVar 5)) (tOp rRep (tLst (tCons (tC (.str "BadNumber")) tNil)) (tC (.int 7)))))
  (tRet (tC (.bl false)))
  tNext))))
  (tSeq (tAsg (tOp oAdd (tC (.int 2)) (tOp oMod (tOp oDiv (tVar 2) (tC (.int 64))) (tC (.int 1999)))) (gName 6))
  (tSeq (tAsg (tLst (tCons (tTold T (WE G) fun E => (tCall (sp_inverse G) [] E (tCons (tVar 6) (tCons (tVar 6) tNil)))) tNil)) (gName 5))
  (tSeq (tDrop (tBM G.K "list" rAppend (tVar 5) (tCons (tTold T (WE G) fun E => (tCall (sp_order_of G) [] E (tCons (tC (.int 0)) (tCons (tVar 6) tNil)))) tNil)))
  (tSeq (tIfS (tTest (tOp (rNeD G.K) (tVar 5) (tOp rRep (tLst (tCons (tC (.str "NoWay")) tNil)) (tC (.int 2)))))
  (tRet (tC (.bl false)))
  tNext)
  (tSeq (tAsg (tLst (tCons (tC .non) (tCons (tTup tNil) (tCons (tTup (tCons (tC (.int 1)) (tCons (tC (.int 2)) tNil))) (tCons (tLst (tCons (tTup (tCons (tC (.int 0)) (tCons (tC (.int 0)) tNil))) tNil)) (tCons (tLst (tCons (tTup (tCons (tC (.int 2)) (tCons (tC (.int 2)) tNil))) tNil)) (tCons (tLst (tCons (tTup (tCons (tUn uNeg (tC (.int 1))) (tCons (tC (.int 2)) tNil))) tNil)) (tCons (tLst (tCons (tTup (tCons (tC (.int 0)) (tCons (tC (.int 2001)) tNil))) tNil)) (tCons (tOp rRep (tLst (tCons (tTup (tCons (tC (.int 0)) (tCons (tC (.int 1)) tNil))) tNil)) (tC (.int 7))) (tCons (tLst (tCons (tLst (tCons (tC (.int 0)) (tCons (tC (.int 1)) tNil))) tNil)) tNil)))))))))) (gName 7))
  (tSeq (tFor (iList G.K (tOp rCat (tOp rCat (tVar 7) (tLst (tCons (tLst (tCons (tTup (tCons (tC (.int 0)) tNil)) tNil)) (tCons (tLst (tCons (tTup (tCons (tC (.int 0)) (tCons (tC (.int 1)) (tCons (tC (.int 1)) tNil)))) tNil)) tNil)))) (tLst (tCons (tLst (tCons (tTup (tCons (tC (.bl true)) (tCons (tC (.int 2)) tNil))) tNil)) (tCons (tLst (tCons (tTup (tCons (tC (.int 0)) (tCons (tC (.bl true)) tNil))) tNil)) (tCons (tLst (tCons (tTup (tCons (tC (.int 0)) (tCons (tC .non) tNil))) tNil)) (tCons (tLst (tCons (tC .non) tNil)) (tCons (tLst (tCons (tTup (tCons (tC (.int 0)) (tCons (tC (.int 1)) tNil))) (tCons (tTup (tCons (tC (.int 5)) (tCons (tC (.int 5)) tNil))) tNil))) tNil)))))))) (gName 4)
  (tIfS (tTest (tOp rNe (tTold T (WE G) fun E => (tCall (sp_met G) [] E (tCons (tVar 4) tNil))) (tC (.str "BadNumber"))))
  (tRet (tC (.bl false)))
  tNext))
  (tSeq (tAsg (tLst (tCons (tCall (sp_inverse G) [] E (tCons (tOp oPow (tC (.int 10)) (tC (.int 9))) (tCons (tC (.int 1)) tNil))) (tCons (tCall (sp_order_of G) [] E (tCons (tC (.int 0)) (tCons (tC (.int 1)) tNil))) (tCons (tCall (sp_roots G) [] E (tCons (tC (.int 0)) (tCons (tC (.int 1)) tNil))) (tCons (tCall (sp_log_of G) [] E (tCons (tC (.int 0)) (tCons (tC (.int 0)) (tCons (tC (.int 1)) tNil)))) (tCons (tCall (sp_coprimes G) [] E (tCons (tC (.int 1)) tNil)) (tCons (tCall (sp_least_root G) [] E (tCons (tC (.int 1)) tNil)) tNil))))))) (gName 5))
  (tSeq (tIfS (tTest (tOp (rNeD G.K) (tVar 5) (tLst (tCons (tC (.int 0)) (tCons (tC (.int 1)) (tCons (tLst (tCons (tC (.int 0)) tNil)) (tCons (tC (.int 0)) (tCons (tLst (tCons (tC (.int 0)) tNil)) (tCons (tC (.int 0)) tNil)))))))))
  (tRet (tC (.bl false)))
  tNext)
  (tSeq (tDrop (tBM G.K "list" rAppend (tCall (sp_coprimes G) [] E (tCons (tVar 3) tNil)) (tCons (tC .non) tNil)))
  (tSeq (tDrop (tBM G.K "list" rAppend (tCall (sp_roots G) [] E (tCons (tC (.int 1)) (tCons (tVar 3) tNil))) (tCons (tC .non) tNil)))
  (tIfS (tOr (tTest (tOp (rIn G.K false) (tC .non) (tCall (sp_coprimes G) [] E (tCons (tVar 3) tNil)))) (tOr (tTest (tOp (rIn G.K false) (tC .non) (tCall (sp_roots G) [] E (tCons (tC (.int 1)) (tCons (tVar 3) tNil))))) (tTest (tOp (rNeD G.K) (tCall (sp_met G) [] E (tCons (tOp rRep (tLst (tCons (tTup (tCons (tC (.int 0)) (tCons (tC (.int 1)) tNil))) tNil)) (tC (.int 6))) tNil)) (tTup (tCons (tC (.int 0)) (tCons (tC (.int 1)) tNil)))))))
  (tRet (tC (.bl false)))
  tNext))))))))))))))))
  (tRet (tC (.bl true))))
def P_law (G : Pm) : Prop := ∀ T x0 H Q E, R_law G T x0 H Q E → t_law G T E (dn Q) (start n_law [x0]) H
theorem pure_law (G : Pm) : P_law G := by
  intro T x0 H0 Q E h
  obtain ⟨a, ns, rfl, hS, hl, _, hT0, q⟩ := h
  have hlN : (ns.map V.int).length ≤ 63 := by
    rw [List.length_map]
    exact hl
  refine q_forR1 (n := if (if ((ns.map V.int).length : Int) < 4 then ((ns.map V.int).length : Int) else 4) > 1 then (if ((ns.map V.int).length : Int) < 4 then ((ns.map V.int).length : Int) else 4) else 1)
    (ea_cons (ev_maxI ev_c (ev_minI ev_c (ev_lenL (ev_var rfl) hS))) ea_nil) (by omega)
    (fun i σ' H' => ∃ y1 y2 y3 y4 y5 y6 y7 : Option V, σ' = [some (.ref a), y1, y2, y3, y4, y5, y6, y7] ∧ NX T H0 H') (fun H1 e1 => ⟨_, _, _, _, _, _, _, rfl, nx_of hT0 e1⟩) ?_ ?_
  · rintro i σ' H hi ⟨y1, y2, y3, y4, y5, y6, y7, rfl, nH⟩
    have hi4 : i ≤ 4 := by omega
    have hSH := nH.l hS
    refine q_asg (v := .int (drawn (cellS ns i) (i : Int))) (ev_ca2 (ev_ca2 (ev_var rfl) (ev_var rfl) fun H1 e1 Q' q' => ⟨a, ns, i, rfl, rfl, ex_l e1 hSH, hl, by omega, q'⟩) (ev_var rfl) fun H1 e1 Q' q' => ⟨_, _, rfl, rfl, by omega, by omega, q'⟩) fun H1 e1 => ?_
    generalize drawn (cellS ns i) (i : Int) = M at *
    obtain ⟨m, hm⟩ : ∃ n : Nat, 1 + M % 2000 = (n : Int) := nat_of (by omega)
    have hM : isM (.int (m : Int)) m := ⟨rfl, by omega, by omega⟩
    refine q_asg (v := .int (m : Int)) ?_ fun H2 e2 => ?_
    · rw [← hm]
      walk_at "ev"
      decide
    have n2 : NX T H0 H2 := nH.ex (e1.trans e2)
    have stE : ∀ (lo hi : Int) (v : V) (H H' : Hp), Ex H H' → NumBad v lo hi → NumBad v lo hi := fun _ _ _ _ _ _ h => h
    have stN : ∀ (lo hi : Int) (v : V) (H H' : Hp), NX T H H' → NumBad v lo hi → NumBad v lo hi := fun _ _ _ _ _ _ h => h
    have nb_i : ∀ (lo hi z : Int), ¬ (lo ≤ z ∧ z ≤ hi) → NumBad (.int z) lo hi := fun lo hi z h => .inr (.inr (.inr ⟨z, rfl, h⟩))
    -- numbers that are none
    refine q_forLP (n := 5) (P := fun v _ => NumBad v 0 1000000000) (stN _ _) n2.2 (elp_lst (stE _ _) ?_ (by decide))
      (fun σ' H' => ∃ y4 y5 y6 y7 : Option V, σ' = [some (.ref a), some (.int (i : Int)), some (.int M), some (.int (m : Int)), y4, y5, y6, y7] ∧ NX T H0 H') (fun H3 n3 => ⟨_, _, _, _, rfl, n2.trans n3⟩) ?_ ?_
    · refine eall_cons (stE _ _) (ep_ev (ev_un ev_c ru_neg) fun _ _ => nb_i _ _ _ (by decide)) ?_
      refine eall_cons (stE _ _) (ep_ev (ev_op (ev_op ev_c ev_c (rv_I ⟨by decide, by decide, by decide⟩)) ev_c rv_I0) fun _ _ => nb_i _ _ _ (by decide)) ?_
      refine eall_cons (stE _ _) (ep_ev ev_c fun _ _ => .inl rfl) ?_
      refine eall_cons (stE _ _) (ep_ev ev_c fun _ _ => .inr (.inl ⟨_, rfl⟩)) ?_
      exact eall_cons (stE _ _) (ep_ev ev_c fun _ _ => .inr (.inr (.inl ⟨_, rfl⟩))) eall_nil
    · rintro H3 x σ' H4 n3 ⟨y4, y5, y6, y7, rfl, n4⟩ n34 hx
      refine sn_when (b := false) n4.2 (tlt_test (tl_opLL (xs := List.replicate 5 BN) (ys := List.replicate 5 BN) (tll_ca2 (fun _ _ => ev_var rfl) (fun _ _ => ev_c) fun H5 n5 Q' q' => ⟨.inl hx, n5.2, q'⟩) (fun H5 n5 => el_rep (n := 5) (el_lst (ea_cons ev_c ea_nil) (by show 1 ≤ 100000; decide)) ev_c (by decide)) fun p r H5 h5 h6 => rv_neS (ns := List.replicate 5 "BadNumber") (by decide +kernel) (sq_of h5) (sq_of h6))) (fun hb => by cases hb) fun _ H5 n5 => ⟨⟨_, _, _, _, rfl, n4.trans n5⟩, n34.trans n5⟩
    rintro σ' H3 ⟨y4, y5, y6, y7, rfl, n3⟩
    -- moduli that are none
    refine q_forLP (n := 6) (P := fun v _ => NumBad v 1 2000) (stN _ _) n3.2 (elp_lst (stE _ _) ?_ (by decide))
      (fun σ' H' => ∃ y4 y5 y6 y7 : Option V, σ' = [some (.ref a), some (.int (i : Int)), some (.int M), some (.int (m : Int)), y4, y5, y6, y7] ∧ NX T H0 H') (fun H4 n4 => ⟨_, _, _, _, rfl, n3.trans n4⟩) ?_ ?_
    · refine eall_cons (stE _ _) (ep_ev ev_c fun _ _ => nb_i _ _ _ (by decide)) ?_
      refine eall_cons (stE _ _) (ep_ev ev_c fun _ _ => nb_i _ _ _ (by decide)) ?_
      refine eall_cons (stE _ _) (ep_ev (ev_un ev_c ru_neg) fun _ _ => nb_i _ _ _ (by decide)) ?_
      refine eall_cons (stE _ _) (ep_ev ev_c fun _ _ => .inl rfl) ?_
      refine eall_cons (stE _ _) (ep_ev ev_c fun _ _ => .inr (.inl ⟨_, rfl⟩)) ?_
      exact eall_cons (stE _ _) (ep_ev ev_c fun _ _ => .inr (.inr (.inl ⟨_, rfl⟩))) eall_nil
    · rintro H4 x σ' H5 n4 ⟨y4, y5, y6, y7, rfl, n5⟩ n45 hx
      refine q_lstT (v := BN) n5.2 (tl_told fun H6 n6 Q' q' => call1 (ev_var rfl) fun H7 e7 => .inr ⟨hx, bn_go (E := E) n6 q' e7⟩) fun l H6 n6 l0 => ?_
      have n7 : NX T H6 (upd H6 l (.lst [BN])) := nx_of n6.2 (Ex.new l0)
      have h7 : (upd H6 l (.lst [BN])) l = some (.lst [BN]) := upd_same
      generalize upd H6 l (.lst [BN]) = H7 at *
      refine q_appT (v := BN) n7.2 h7 rfl (tl_told fun H8 n8 Q' q' => call1 (ev_var rfl) fun H9 e9 => .inr ⟨hx, bn_go (E := E) n8 q' e9⟩) (by decide) fun H8 n8 => ?_
      have n9 := (n7.trans n8).mut (o := .lst ([BN] ++ [BN])) l0 (n8.o h7)
      have h9 : (upd H8 l (.lst ([BN] ++ [BN]))) l = some (.lst ([BN] ++ [BN])) := upd_same
      generalize upd H8 l (.lst ([BN] ++ [BN])) = H9 at *
      refine sn_when (b := false) n9.2 (tlt_test (tl_opLL (xs := List.replicate 5 BN ++ ([BN] ++ [BN])) (ys := List.replicate 7 BN) (tll_cat (tll_ca2 (fun _ _ => ev_c) (fun _ _ => ev_var rfl) fun H10 n10 Q' q' => ⟨.inr ⟨⟨5, rfl, by decide⟩, hx⟩, n10.2, q'⟩) rfl h9 (by show 5 + 2 ≤ 100000; decide)) (fun H10 n10 => el_rep (n := 7) (el_lst (ea_cons ev_c ea_nil) (by show 1 ≤ 100000; decide)) ev_c (by decide)) fun p r H10 h10 h11 => rv_neS (ns := List.replicate 7 "BadNumber") (by decide +kernel) (sq_of h10) (sq_of h11))) (fun hb => by cases hb) fun _ H10 n10 => ⟨⟨_, _, _, _, rfl, ((n5.trans n6).trans n9).trans n10⟩, ((n45.trans n6).trans n9).trans n10⟩
    rintro σ' H4 ⟨y4, y5, y6, y7, rfl, n4⟩
    -- a common divisor
    obtain ⟨far, hfar⟩ : ∃ n : Nat, 2 + M / 64 % 1999 = (n : Int) := nat_of (by omega)
    have f2 : 2 ≤ far := by omega
    have hF : isM (.int (far : Int)) far := ⟨rfl, by omega, by omega⟩
    have hFA : isA (.int (far : Int)) far := ⟨rfl, by omega⟩
    refine q_asg (v := .int (far : Int)) ?_ fun H5 e5 => ?_
    · rw [← hfar]
      walk_at "ev"
      · exact cdiv_w (by decide) (by decide)
      · decide
    have n5 := n4.ex e5
    refine q_lstT (v := .str "NoWay") n5.2 (tl_told fun H6 n6 Q' q' => call2 (ev_var rfl) (ev_var rfl) fun H7 e7 => .inl ⟨far, far, hFA, hF, .inr ⟨by rw [Nat.gcd_self]; omega, nw_go (E := E) n6 q' e7⟩⟩) fun l H6 n6 l0 => ?_
    have n7 : NX T H6 (upd H6 l (.lst [V.str "NoWay"])) := nx_of n6.2 (Ex.new l0)
    have h7 : (upd H6 l (.lst [V.str "NoWay"])) l = some (.lst [V.str "NoWay"]) := upd_same
    generalize upd H6 l (.lst [V.str "NoWay"]) = H7 at *
    refine q_appT (v := .str "NoWay") n7.2 h7 rfl (tl_told fun H8 n8 Q' q' => call2 ev_c (ev_var rfl) fun H9 e9 => .inl ⟨0, far, ⟨rfl, by decide⟩, hF, .inr ⟨by rw [Nat.gcd_zero_left]; omega, nw_go (E := E) n8 q' e9⟩⟩) (by decide) fun H8 n8 => ?_
    have n9 := (n7.trans n8).mut (o := .lst ([V.str "NoWay"] ++ [V.str "NoWay"])) l0 (n8.o h7)
    have h9 : (upd H8 l (.lst ([V.str "NoWay"] ++ [V.str "NoWay"]))) l = some (.lst ([V.str "NoWay"] ++ [V.str "NoWay"])) := upd_same
    generalize upd H8 l (.lst ([V.str "NoWay"] ++ [V.str "NoWay"])) = H9 at *
    refine q_when (b := false) (et_test (ev_opL (xs := List.replicate 2 (V.str "NoWay")) (ev_var rfl) (el_rep (n := 2) (el_lst (ea_cons ev_c ea_nil) (by show 1 ≤ 100000; decide)) ev_c (by decide)) fun p H10 h10 e10 => rv_neS (ns := List.replicate 2 "NoWay") (by decide +kernel) (sq_of (e10 l _ h9)) (sq_of h10))) (fun hb => by cases hb) fun _ H10 e10 => ?_
    have n10 : NX T H0 H10 := ((n5.trans n6).trans n9).ex e10
    -- rests that are none
    have stM : ∀ (v : V) (H H' : Hp), Ex H H' → MetBad G.K H v → MetBad G.K H' v := fun _ _ _ e h => h.ex e
    have stMN : ∀ (v : V) (H H' : Hp), NX T H H' → MetBad G.K H v → MetBad G.K H' v := fun _ _ _ n h => h.nx n
    have stT : ∀ (v : V) (H H' : Hp), Ex H H' → True → True := fun _ _ _ _ h => h
    refine q_asgLP (n := 9) (P := fun v H => MetBad G.K H v) (elp_lst stM ?_ (by decide)) fun some_ vs H11 e11 h11 l11 a11 => ?_
    · refine eall_cons stM (ep_ev ev_c fun _ _ => .inl rfl) ?_
      refine eall_cons stM (ep_u (eu_tup ea_nil (Nat.zero_le _)) fun p H1 _ h1 => .inr (.inl ⟨p, _, rfl, st_of h1⟩)) ?_
      refine eall_cons stM (ep_u (eu_tup (ea_cons ev_c (ea_cons ev_c ea_nil)) (by show 2 ≤ 100000; decide)) fun p H1 _ h1 => .inr (.inl ⟨p, _, rfl, st_of h1⟩)) ?_
      refine eall_cons stM (ep_bad (bs := [false]) (eth_cons (ep_pair ev_c ev_c rfl rfl rfl) eth_nil) (by decide) rfl) ?_
      refine eall_cons stM (ep_bad (bs := [false]) (eth_cons (ep_pair ev_c ev_c rfl rfl rfl) eth_nil) (by decide) rfl) ?_
      refine eall_cons stM (ep_bad (bs := [false]) (eth_cons (ep_pair (ev_un ev_c ru_neg) ev_c rfl rfl rfl) eth_nil) (by decide) rfl) ?_
      refine eall_cons stM (ep_bad (bs := [false]) (eth_cons (ep_pair ev_c ev_c rfl rfl rfl) eth_nil) (by decide) rfl) ?_
      refine eall_cons stM (ep_lp (P := fun _ _ => True) (elp_rep (n := 7) stT (elp_lst stT (eall_cons stT (ep_u (eu_tup (ea_cons ev_c (ea_cons ev_c ea_nil)) (by show 2 ≤ 100000; decide)) fun _ _ _ _ => trivial) eall_nil) (by decide)) (by decide)) fun p vs H1 h1 hl _ => .inr (.inr (.inl ⟨p, vs, rfl, sq_of h1, by omega⟩))) ?_
      exact eall_cons stM (ep_bad (bs := [false]) (eth_cons (ep_l (el_lst (ea_cons ev_c (ea_cons ev_c ea_nil)) (by show 2 ≤ 100000; decide)) fun p H1 _ h1 => .inr (.inl ⟨p, _, rfl, sq_of h1, rfl⟩)) eth_nil) (by decide) rfl) eall_nil
    have n11 := n10.ex e11
    refine q_forLP (n := 9 + 2 + 5) (P := fun v H => MetBad G.K H v) stMN n11.2 (elp_cat stM (elp_cat stM (elp_var stM rfl h11 l11 a11) (elp_lst stM ?_ (by decide)) (by decide)) (elp_lst stM ?_ (by decide)) (by decide))
      (fun σ' H' => ∃ y4 : Option V, σ' = [some (.ref a), some (.int (i : Int)), some (.int M), some (.int (m : Int)), y4, some (.ref l), some (.int (far : Int)), some (.ref some_)] ∧ NX T H0 H') (fun H12 n12 => ⟨_, rfl, n11.trans n12⟩) ?_ ?_
    · refine eall_cons stM (ep_bad (bs := [false]) (eth_cons (ep_u (eu_tup (ea_cons ev_c ea_nil) (by show 1 ≤ 100000; decide)) fun p H1 _ h1 => .inr (.inr (.inl ⟨p, _, rfl, st_of h1, by decide, rfl⟩))) eth_nil) (by decide) rfl) ?_
      exact eall_cons stM (ep_bad (bs := [false]) (eth_cons (ep_u (eu_tup (ea_cons ev_c (ea_cons ev_c (ea_cons ev_c ea_nil))) (by show 3 ≤ 100000; decide)) fun p H1 _ h1 => .inr (.inr (.inl ⟨p, _, rfl, st_of h1, by decide, rfl⟩))) eth_nil) (by decide) rfl) eall_nil
    · refine eall_cons stM (ep_bad (bs := [false]) (eth_cons (ep_pair ev_c ev_c rfl rfl rfl) eth_nil) (by decide) rfl) ?_
      refine eall_cons stM (ep_bad (bs := [false]) (eth_cons (ep_pair ev_c ev_c rfl rfl rfl) eth_nil) (by decide) rfl) ?_
      refine eall_cons stM (ep_bad (bs := [false]) (eth_cons (ep_pair ev_c ev_c rfl rfl rfl) eth_nil) (by decide) rfl) ?_
      refine eall_cons stM (ep_bad (bs := [false]) (eth_cons (ep_ev ev_c fun _ _ => .inl ⟨rfl, rfl⟩) eth_nil) (by decide) rfl) ?_
      exact eall_cons stM (ep_bad (bs := [true, false]) (eth_cons (ep_pair ev_c ev_c rfl rfl rfl) (eth_cons (ep_pair ev_c ev_c rfl rfl rfl) eth_nil)) (by decide) rfl) eall_nil
    · rintro H12 x σ' H13 n12 ⟨y4, rfl, n13⟩ n123 hx
      exact sn_when (b := !decide (BN = BN)) n13.2 (tlt_test (tl_op (tl_told fun H14 n14 Q' q' => call1 (ev_var rfl) fun H15 e15 => .inr ⟨(hx.nx n14).ex e15, bn_go (E := E) n14 q' e15⟩) tl_c fun _ _ => rv_ne rfl)) (fun hb => by simp at hb) fun _ H14 n14 => ⟨⟨_, rfl, n13.trans n14⟩, n123.trans n14⟩
    rintro σ' H12 ⟨y4, rfl, n12⟩
    -- the least
    have u1l : (units 1).length = 1 := by rw [u_1]; rfl
    refine q_asgD (K := G.K) (d := .list [.int 0, .int 1, .list [.int 0], .int 0, .list [.int 0], .int 0]) (ed_lst (eda_cons ?_ (eda_cons ?_ (eda_cons ?_ (eda_cons ?_ (eda_cons ?_ (eda_cons ?_ eda_nil)))))) (by decide)) fun v H13 e13 hv => ?_
    · exact ed_i (ev_ca2 (ev_is (w := .int ((1000000000 : Nat) : Int)) (ev_op ev_c ev_c (rv_I ⟨by decide, by decide, by decide⟩)) (by decide)) ev_c fun H1 e1 Q' q' => .inl ⟨1000000000, 1, ⟨rfl, by decide⟩, ⟨rfl, by decide, by decide⟩, .inl ⟨Nat.gcd_one_right _, 0, by decide, by decide, q'⟩⟩)
    · exact ed_i (ev_ca2 ev_c ev_c fun H1 e1 Q' q' => .inl ⟨0, 1, ⟨rfl, by decide⟩, ⟨rfl, by decide, by decide⟩, .inl ⟨by decide, 1, ord_01, q'⟩⟩)
    · exact ed_l (xs := natV [0]) (el_ca2 ev_c ev_c fun H1 e1 Q' q' => .inl ⟨0, 1, ⟨rfl, by decide⟩, ⟨rfl, by decide, by decide⟩, by rw [r_01]; exact q'⟩) fun H1 => .cons (.int 0) .nil
    · exact ed_i (ev_ca3 ev_c ev_c ev_c fun H1 e1 Q' q' => .inl ⟨0, 0, 1, some 0, ⟨rfl, by decide⟩, ⟨rfl, by decide⟩, ⟨rfl, by decide, by decide⟩, .inl ⟨0, by decide, rfl, fun j hj => by omega, rfl⟩, q'⟩)
    · exact ed_l (xs := natV [0]) (el_ca1 ev_c fun H1 e1 Q' q' => .inl ⟨1, ⟨rfl, by decide, by decide⟩, by rw [u_1]; exact q'⟩) fun H1 => .cons (.int 0) .nil
    · exact ed_i (ev_ca1 ev_c fun H1 e1 Q' q' => .inl ⟨1, some 0, ⟨rfl, by decide, by decide⟩, .inl ⟨0, 0, by rw [u_1]; rfl, by rw [u1l]; exact ord_01, fun j w hj => by omega, rfl⟩, q'⟩)
    have sh : SeqAt.shaped (.list [.int 0, .int 1, .list [.int 0], .int 0, .list [.int 0], .int 0]) = true := by decide +kernel
    refine q_when (b := false) (et_is (et_test (ev_neD (ed_var rfl hv) (ed_lst (eda_cons (ed_i ev_c) (eda_cons (ed_i ev_c) (eda_cons (ed_lst (eda_cons (ed_i ev_c) eda_nil) (by decide)) (eda_cons (ed_i ev_c) (eda_cons (ed_lst (eda_cons (ed_i ev_c) eda_nil) (by decide)) (eda_cons (ed_i ev_c) eda_nil)))))) (by decide)) sh sh)) (by rw [SeqAt.eqv_refl _ (SeqAt.canLay_of_shaped sh)]; rfl)) (fun hb => by cases hb) fun _ H14 e14 => ?_
    -- new lists
    have ul := units_len m
    have fl := List.length_filter_le (rootB 1 m) (List.range m)
    rw [List.length_range] at fl
    have m2 := hM.2.2
    have r1 : ∀ {σ : L2.St} {H : Hp} {E : XK}, σ[3]? = some (some (.int (m : Int))) → EvL (tCall (sp_coprimes G) [] E (tCons (tVar 3) tNil)) σ H (natV (units m)) := fun hs => el_ca1 (ev_var hs) fun H1 e1 Q' q' => .inl ⟨m, hM, q'⟩
    have r2 : ∀ {σ : L2.St} {H : Hp} {E : XK}, σ[3]? = some (some (.int (m : Int))) → EvL (tCall (sp_roots G) [] E (tCons (tC (.int 1)) (tCons (tVar 3) tNil))) σ H (natV ((List.range m).filter (rootB 1 m))) := fun hs => el_ca2 ev_c (ev_var hs) fun H1 e1 Q' q' => .inl ⟨1, m, ⟨rfl, by decide⟩, hM, q'⟩
    refine q_appN (r1 rfl) (fun _ _ => ev_c) (by rw [natV_len]; omega) fun H15 e15 => ?_
    refine q_appN (r2 rfl) (fun _ _ => ev_c) (by rw [natV_len]; omega) fun H16 e16 => ?_
    have sh2 : SeqAt.shaped (.tuple [.int 0, .int 1]) = true := by decide +kernel
    refine s_when (b := inV .non (natV (units m)) || (inV .non (natV ((List.range m).filter (rootB 1 m))) || !PyData.eqv (.tuple [.int 0, .int 1]) (.tuple [.int 0, .int 1]))) ?_ (fun hb => ?_) fun _ H17 e17 => ⟨_, _, _, _, _, _, _, rfl, n12.ex ((((e13.trans e14).trans e15).trans e16).trans e17)⟩
    · refine et_or (et_test (ev_opL ev_c (r1 rfl) fun p H1 h1 _ => rv_isL (sq_of h1) rfl (natV_flat _))) fun _ => et_or (et_test (ev_opL ev_c (r2 rfl) fun p H1 h1 _ => rv_isL (sq_of h1) rfl (natV_flat _))) fun _ => et_test (ev_neD ?_ (ed_tup (eda_cons (ed_i ev_c) (eda_cons (ed_i ev_c) eda_nil)) (by decide)) sh2 sh2)
      intro H1 e1 Q' q'
      refine (elp_rep (n := 6) (P := fun v H => ∃ t, v = .ref t ∧ SqT G.K H t [.int 0, .int 1]) (fun v H H' e h => ?_) (elp_lst (fun v H H' e h => ?_) (eall_cons (fun v H H' e h => ?_) (ep_u (eu_tup (ea_cons ev_c (ea_cons ev_c ea_nil)) (by show 2 ≤ 100000; decide)) fun p H1 _ h1 => ⟨p, rfl, st_of h1⟩) eall_nil) (by decide)) (by decide)) H1 e1 _ fun p vs H2 e2 h2 hl hvs => ?_
      · obtain ⟨t, h1, h2⟩ := h
        exact ⟨t, h1, ex_t e h2⟩
      · obtain ⟨t, h1, h2⟩ := h
        exact ⟨t, h1, ex_t e h2⟩
      · obtain ⟨t, h1, h2⟩ := h
        exact ⟨t, h1, ex_t e h2⟩
      have rw6 := rows_rep vs hvs
      rw [hl] at rw6
      refine .inl ⟨p, List.replicate 6 (0, 1), rfl, ⟨vs, sq_of h2, rw6⟩, by decide, fun p hp => ?_, fun v H3 e3 hT => ?_⟩
      · rw [(List.mem_replicate.mp hp).2]
        decide
      · rcases hT with ⟨h1, _⟩ | ⟨R, t, _, hR, rfl, hS4⟩
        · exact (h1 ⟨0, fun p hp => by
            rw [(List.mem_replicate.mp hp).2]
            rfl⟩).elim
        · have l1 : lcmL (List.replicate 6 (0, 1)) = 1 := by decide +kernel
          rw [l1] at hR hS4
          have : R = 0 := by omega
          subst this
          exact q' _ H3 (e2.trans e3) (.tup hS4 (.cons (.int 0) (.cons (.int 1) .nil)))
    · rw [inV_non, inV_non, SeqAt.eqv_refl _ (SeqAt.canLay_of_shaped sh2)] at hb
      cases hb
  · rintro σ' H1 ⟨y1, y2, y3, y4, y5, y6, y7, rfl, n1⟩
    exact s_ret ev_c fun H2 e2 => q H2
end Sv

set_option Elab.async false
set_option linter.all false
set_option maxRecDepth 100000
set_option maxHeartbeats 4000000
namespace Sv
open PySem PySem.Spec PyProof.Rows L2 Evl HotX L2H LamX
def topS (i : Nat) : Stmt := PySem.Challenge.pw_sievewright_k63_residues_refused.main.body.getD i (.Pass ⟨0, 0, 0, 0⟩)
section
variable {P : Program} {w : World} {G : Pm} {mg : Str → Option Value} {base : Heap}
abbrev s__law_told : Stmt := topS 37
theorem sc__law_told : FnScope ["_law_deed", "_law_e"] ["_law_deed"] (defScope s__law_told) := ⟨rfl, rfl, rfl, by decide +kernel, rfl, by decide +kernel, by decide +kernel⟩
abbrev s_need_number : Stmt := topS 16
theorem sc_need_number : FnScope n_need_number p_need_number (defScope s_need_number) := ⟨rfl, rfl, rfl, by decide +kernel, rfl, by decide +kernel, by decide +kernel⟩
theorem ok_need_number (D_need_number : DefAt G.K mg "need_number" s_need_number) (m_int : mg "int" = none) (m_isinstance : mg "isinstance" = none) (m_bool : mg "bool" = none) (x_BadNumber : ErrAt G.K mg "BadNumber" G.BadNumber) (HP : P_need_number G) : Ok P w G.K mg base (CXN P w) 1 "need_number" p_need_number (sp_need_number G) :=
  mk_ok D_need_number sc_need_number (fun _ _ _ _ _ _ us hl => match us, hl with | [_, _, _], _ => rfl) sp3_len (t_need_number G)
    (fun vs H Q E h => match vs, h with | [x0, x1, x2], h => HP x0 x1 x2 H Q E h)
    (fun f cdv A outer s H E hr =>
  (pss_one (ps_if (PW.pt (pw_or (pt_not (pt_val (pe_callB call_isi (by rfl) m_isinstance (by decide +kernel) (pa_cons (pv 0) (pa_cons (pe_bltn (v := .ty "int") (by rfl) m_int (by decide +kernel) rfl) pa_nil))))) (pw_or (pt_val (pe_callB call_isi (by rfl) m_isinstance (by decide +kernel) (pa_cons (pv 0) (pa_cons (pe_bltn (v := .ty "bool") (by rfl) m_bool (by decide +kernel) rfl) pa_nil)))) (pw_or1 (pt_not (pt_chain op_le op_le (pv 1) (pv 0) (pv 2)))))))
  (pss_one (ps_raiseN x_BadNumber (by rfl) rfl rfl rfl rfl rfl))
  pss_nil)))
abbrev s_common : Stmt := topS 14
theorem sc_common : FnScope n_common p_common (defScope s_common) := ⟨rfl, rfl, rfl, by decide +kernel, rfl, by decide +kernel, by decide +kernel⟩
theorem ok_common (D_common : DefAt G.K mg "common" s_common) (HP : P_common G) : Ok P w G.K mg base (CXN P w) 1 "common" p_common (sp_common G) :=
  mk_ok D_common sc_common (fun _ _ _ _ _ _ us hl => match us, hl with | [_, _], _ => rfl) sp2_len (t_common G)
    (fun vs H Q E h => match vs, h with | [x0, x1], h => HP x0 x1 H Q E h)
    (fun f cdv A outer s H E hr =>
  (pss_cons (ps_while (L2.passes_of rfl) (pt_cmpR op_gt (pv 1) pe_int (nomark _))
  (pss_one (ps_par (i := 0) (j := 1) rfl sc_common.nd rfl rfl (by decide) rfl rfl (pa_cons (pv 1) (pa_cons (pe_op op_mod (pv 0) (pv 1)) pa_nil)) (by rfl))))
  (pss_one (ps_ret (pv 0)))))
abbrev s_look : Stmt := topS 21
theorem sc_look : FnScope n_look p_look (defScope s_look) := ⟨rfl, rfl, rfl, by decide +kernel, rfl, by decide +kernel, by decide +kernel⟩
theorem ok_look (D_look : DefAt G.K mg "look" s_look) (C_need_number : Ok P w G.K mg base (CXN P w) 1 "need_number" p_need_number (sp_need_number G)) (c_MOST_NUMBER : ∃ t, mg "MOST_NUMBER" = some (.int 1000000000 t)) (c_MOST_MODULUS : ∃ t, mg "MOST_MODULUS" = some (.int 2000 t)) (HP : P_look G) : Ok P w G.K mg base (CXN P w) 2 "look" p_look (sp_look G) :=
  mk_ok D_look sc_look (fun _ _ _ _ _ _ us hl => match us, hl with | [_, _], _ => rfl) sp2_len (t_look G)
    (fun vs H Q E h => match vs, h with | [x0, x1], h => HP x0 x1 H Q E h)
    (fun f cdv A outer s H E hr =>
  (pss_cons (ps_expr (pe_ok C_need_number hr (by decide) (by rfl) (psx rfl rfl rfl rfl) (pa_cons (pv 0) (pa_cons pe_int (pa_cons (pe_glob (by rfl) c_MOST_NUMBER.choose_spec ⟨_, rfl⟩) pa_nil)))))
  (pss_one (ps_expr (pe_ok C_need_number hr (by decide) (by rfl) (psx rfl rfl rfl rfl) (pa_cons (pv 1) (pa_cons pe_int (pa_cons (pe_glob (by rfl) c_MOST_MODULUS.choose_spec ⟨_, rfl⟩) pa_nil))))))))
abbrev s_need_apart : Stmt := topS 22
theorem sc_need_apart : FnScope n_need_apart p_need_apart (defScope s_need_apart) := ⟨rfl, rfl, rfl, by decide +kernel, rfl, by decide +kernel, by decide +kernel⟩
theorem ok_need_apart (D_need_apart : DefAt G.K mg "need_apart" s_need_apart) (C_common : Ok P w G.K mg base (CXN P w) 1 "common" p_common (sp_common G)) (x_NoWay : ErrAt G.K mg "NoWay" G.NoWay) (HP : P_need_apart G) : Ok P w G.K mg base (CXN P w) 2 "need_apart" p_need_apart (sp_need_apart G) :=
  mk_ok D_need_apart sc_need_apart (fun _ _ _ _ _ _ us hl => match us, hl with | [_, _], _ => rfl) sp2_len (t_need_apart G)
    (fun vs H Q E h => match vs, h with | [x0, x1], h => HP x0 x1 H Q E h)
    (fun f cdv A outer s H E hr =>
  (pss_one (ps_if (pt_cmpR op_ne (pe_ok C_common hr (by decide) (by rfl) (psx rfl rfl rfl rfl) (pa_cons (pv 0) (pa_cons (pv 1) pa_nil))) pe_int (nomark _))
  (pss_one (ps_raiseN x_NoWay (by rfl) rfl rfl rfl rfl rfl))
  pss_nil)))
abbrev s_inverse : Stmt := topS 23
theorem sc_inverse : FnScope n_inverse p_inverse (defScope s_inverse) := ⟨rfl, rfl, rfl, by decide +kernel, rfl, by decide +kernel, by decide +kernel⟩
theorem ok_inverse (D_inverse : DefAt G.K mg "inverse" s_inverse) (C_look : Ok P w G.K mg base (CXN P w) 2 "look" p_look (sp_look G)) (C_need_apart : Ok P w G.K mg base (CXN P w) 2 "need_apart" p_need_apart (sp_need_apart G)) (HP : P_inverse G) : Ok P w G.K mg base (CXN P w) 3 "inverse" p_inverse (sp_inverse G) :=
  mk_ok D_inverse sc_inverse (fun _ _ _ _ _ _ us hl => match us, hl with | [_, _], _ => rfl) sp2_len (t_inverse G)
    (fun vs H Q E h => match vs, h with | [x0, x1], h => HP x0 x1 H Q E h)
    (fun f cdv A outer s H E hr =>
  (pss_cons (ps_expr (pe_ok C_look hr (by decide) (by rfl) (psx rfl rfl rfl rfl) (pa_cons (pv 0) (pa_cons (pv 1) pa_nil))))
  (pss_cons (ps_expr (pe_ok C_need_apart hr (by decide) (by rfl) (psx rfl rfl rfl rfl) (pa_cons (pv 0) (pa_cons (pv 1) pa_nil))))
  (pss_cons (ps_par (i := 2) (j := 3) rfl sc_inverse.nd rfl rfl (by decide) rfl rfl (pa_cons (pe_tup (pa_cons (pv 1) (pa_cons pe_int pa_nil))) (pa_cons (pe_tup (pa_cons (pe_op op_mod (pv 0) (pv 1)) (pa_cons pe_int pa_nil))) pa_nil)) (by rfl))
  (pss_cons (ps_while (L2.passes_of rfl) (pt_cmpR op_ne (pe_ix ix_tup (pv 3) pe_int (fun _ _ => rfl)) pe_int (nomark _))
  (pss_cons (ps_set (i := 4) sc_inverse.nd rfl (Or.inl rfl) (pe_op op_fdivW (pe_ix ix_tup (pv 2) pe_int (fun _ _ => rfl)) (pe_ix ix_tup (pv 3) pe_int (fun _ _ => rfl))))
  (pss_one (ps_par (i := 2) (j := 3) rfl sc_inverse.nd rfl rfl (by decide) rfl rfl (pa_cons (pv 3) (pa_cons (pe_tup (pa_cons (pe_op op_sub (pe_ix ix_tup (pv 2) pe_int (fun _ _ => rfl)) (pe_op op_mulA (pv 4) (pe_ix ix_tup (pv 3) pe_int (fun _ _ => rfl)))) (pa_cons (pe_op op_sub (pe_ix ix_tup (pv 2) pe_int (fun _ _ => rfl)) (pe_op op_mulA (pv 4) (pe_ix ix_tup (pv 3) pe_int (fun _ _ => rfl)))) pa_nil))) pa_nil)) (by rfl)))))
  (pss_one (ps_ret (pe_op op_mod (pe_ix ix_tup (pv 2) pe_int (fun _ _ => rfl)) (pv 1)))))))))
abbrev s_turns_of : Stmt := topS 24
theorem sc_turns_of : FnScope n_turns_of p_turns_of (defScope s_turns_of) := ⟨rfl, rfl, rfl, by decide +kernel, rfl, by decide +kernel, by decide +kernel⟩
theorem ok_turns_of (D_turns_of : DefAt G.K mg "turns_of" s_turns_of) (HP : P_turns_of G) : Ok P w G.K mg base (CXN P w) 1 "turns_of" p_turns_of (sp_turns_of G) :=
  mk_ok D_turns_of sc_turns_of (fun _ _ _ _ _ _ us hl => match us, hl with | [_, _], _ => rfl) sp2_len (t_turns_of G)
    (fun vs H Q E h => match vs, h with | [x0, x1], h => HP x0 x1 H Q E h)
    (fun f cdv A outer s H E hr =>
  (pss_cons (ps_par (i := 2) (j := 3) rfl sc_turns_of.nd rfl rfl (by decide) rfl rfl (pa_cons pe_int (pa_cons (pe_op op_mod (pv 0) (pv 1)) pa_nil)) (by rfl))
  (pss_cons (ps_while (L2.passes_of rfl) (pt_cmpR op_ne (pv 3) (pe_op op_mod pe_int (pv 1)) (nomark _))
  (pss_cons (ps_set (i := 3) sc_turns_of.nd rfl (Or.inl rfl) (pe_op op_mod (pe_op op_mulA (pv 3) (pv 0)) (pv 1)))
  (pss_one (ps_set (i := 2) sc_turns_of.nd rfl (Or.inl rfl) (pe_op op_add (pv 2) pe_int)))))
  (pss_one (ps_ret (pv 2))))))
abbrev s_order_of : Stmt := topS 25
theorem sc_order_of : FnScope n_order_of p_order_of (defScope s_order_of) := ⟨rfl, rfl, rfl, by decide +kernel, rfl, by decide +kernel, by decide +kernel⟩
theorem ok_order_of (D_order_of : DefAt G.K mg "order_of" s_order_of) (C_look : Ok P w G.K mg base (CXN P w) 2 "look" p_look (sp_look G)) (C_need_apart : Ok P w G.K mg base (CXN P w) 2 "need_apart" p_need_apart (sp_need_apart G)) (C_turns_of : Ok P w G.K mg base (CXN P w) 1 "turns_of" p_turns_of (sp_turns_of G)) (HP : P_order_of G) : Ok P w G.K mg base (CXN P w) 3 "order_of" p_order_of (sp_order_of G) :=
  mk_ok D_order_of sc_order_of (fun _ _ _ _ _ _ us hl => match us, hl with | [_, _], _ => rfl) sp2_len (t_order_of G)
    (fun vs H Q E h => match vs, h with | [x0, x1], h => HP x0 x1 H Q E h)
    (fun f cdv A outer s H E hr =>
  (pss_cons (ps_expr (pe_ok C_look hr (by decide) (by rfl) (psx rfl rfl rfl rfl) (pa_cons (pv 0) (pa_cons (pv 1) pa_nil))))
  (pss_cons (ps_expr (pe_ok C_need_apart hr (by decide) (by rfl) (psx rfl rfl rfl rfl) (pa_cons (pv 0) (pa_cons (pv 1) pa_nil))))
  (pss_one (ps_ret (pe_ok C_turns_of hr (by decide) (by rfl) (psx rfl rfl rfl rfl) (pa_cons (pv 0) (pa_cons (pv 1) pa_nil))))))))
abbrev s_units_of : Stmt := topS 26
theorem sc_units_of : FnScope n_units_of p_units_of (defScope s_units_of) := ⟨rfl, rfl, rfl, by decide +kernel, rfl, by decide +kernel, by decide +kernel⟩
theorem ok_units_of (D_units_of : DefAt G.K mg "units_of" s_units_of) (C_common : Ok P w G.K mg base (CXN P w) 1 "common" p_common (sp_common G)) (m_range : mg "range" = none) (HP : P_units_of G) : Ok P w G.K mg base (CXN P w) 2 "units_of" p_units_of (sp_units_of G) :=
  mk_ok D_units_of sc_units_of (fun _ _ _ _ _ _ us hl => match us, hl with | [_], _ => rfl) sp1_len (t_units_of G)
    (fun vs H Q E h => match vs, h with | [x0], h => HP x0 H Q E h)
    (fun f cdv A outer s H E hr =>
  (pss_one (ps_ret (pe_lc (own := [("number", 1)]) rfl sc_units_of.nd (pi_range1 (by rfl) m_range (pa_cons (pv 0) pa_nil)) (blkOk_by (N := n_units_of) (sc := defScope s_units_of) (by decide +kernel)) (fun _ _ _ _ _ => (pg_name (i := 1) sc_units_of.nd rfl (Or.inl rfl))) (fun _ _ _ _ _ => (pts_one (pt_cmpR op_eq (pe_ok C_common hr (by decide) (by rfl) psn (pa_cons (pv 1) (pa_cons (pv 0) pa_nil))) pe_int (nomark _)))) (fun _ _ _ _ _ => (pv 1))))))
abbrev s_coprimes : Stmt := topS 27
theorem sc_coprimes : FnScope n_coprimes p_coprimes (defScope s_coprimes) := ⟨rfl, rfl, rfl, by decide +kernel, rfl, by decide +kernel, by decide +kernel⟩
theorem ok_coprimes (D_coprimes : DefAt G.K mg "coprimes" s_coprimes) (C_need_number : Ok P w G.K mg base (CXN P w) 1 "need_number" p_need_number (sp_need_number G)) (C_units_of : Ok P w G.K mg base (CXN P w) 2 "units_of" p_units_of (sp_units_of G)) (c_MOST_MODULUS : ∃ t, mg "MOST_MODULUS" = some (.int 2000 t)) (HP : P_coprimes G) : Ok P w G.K mg base (CXN P w) 3 "coprimes" p_coprimes (sp_coprimes G) :=
  mk_ok D_coprimes sc_coprimes (fun _ _ _ _ _ _ us hl => match us, hl with | [_], _ => rfl) sp1_len (t_coprimes G)
    (fun vs H Q E h => match vs, h with | [x0], h => HP x0 H Q E h)
    (fun f cdv A outer s H E hr =>
  (pss_cons (ps_expr (pe_ok C_need_number hr (by decide) (by rfl) (psx rfl rfl rfl rfl) (pa_cons (pv 0) (pa_cons pe_int (pa_cons (pe_glob (by rfl) c_MOST_MODULUS.choose_spec ⟨_, rfl⟩) pa_nil)))))
  (pss_one (ps_ret (pe_ok C_units_of hr (by decide) (by rfl) (psx rfl rfl rfl rfl) (pa_cons (pv 0) pa_nil))))))
abbrev s_least_root : Stmt := topS 28
theorem sc_least_root : FnScope n_least_root p_least_root (defScope s_least_root) := ⟨rfl, rfl, rfl, by decide +kernel, rfl, by decide +kernel, by decide +kernel⟩
theorem ok_least_root (D_least_root : DefAt G.K mg "least_root" s_least_root) (C_need_number : Ok P w G.K mg base (CXN P w) 1 "need_number" p_need_number (sp_need_number G)) (C_units_of : Ok P w G.K mg base (CXN P w) 2 "units_of" p_units_of (sp_units_of G)) (C_turns_of : Ok P w G.K mg base (CXN P w) 1 "turns_of" p_turns_of (sp_turns_of G)) (m_len : mg "len" = none) (c_MOST_MODULUS : ∃ t, mg "MOST_MODULUS" = some (.int 2000 t)) (HP : P_least_root G) : Ok P w G.K mg base (CXN P w) 3 "least_root" p_least_root (sp_least_root G) :=
  mk_ok D_least_root sc_least_root (fun _ _ _ _ _ _ us hl => match us, hl with | [_], _ => rfl) sp1_len (t_least_root G)
    (fun vs H Q E h => match vs, h with | [x0], h => HP x0 H Q E h)
    (fun f cdv A outer s H E hr =>
  (pss_cons (ps_expr (pe_ok C_need_number hr (by decide) (by rfl) (psx rfl rfl rfl rfl) (pa_cons (pv 0) (pa_cons pe_int (pa_cons (pe_glob (by rfl) c_MOST_MODULUS.choose_spec ⟨_, rfl⟩) pa_nil)))))
  (pss_cons (ps_set (i := 1) sc_least_root.nd rfl (Or.inl rfl) (pe_ok C_units_of hr (by decide) (by rfl) (psx rfl rfl rfl rfl) (pa_cons (pv 0) pa_nil)))
  (pss_cons (ps_for (L2.passes_of rfl) rfl (pi_list (pv 1)) (pg_name (i := 2) sc_least_root.nd rfl (Or.inl rfl))
  (pss_one (ps_if (pt_cmpR op_eq (pe_ok C_turns_of hr (by decide) (by rfl) (psx rfl rfl rfl rfl) (pa_cons (pv 2) (pa_cons (pv 0) pa_nil))) (pe_callB call_len_seq (by rfl) m_len (by decide +kernel) (pa_cons (pv 1) pa_nil)) (nomark _))
  (pss_one (ps_ret (pv 2)))
  pss_nil)))
  (pss_one (ps_ret pe_non))))))
abbrev s_roots : Stmt := topS 29
theorem sc_roots : FnScope n_roots p_roots (defScope s_roots) := ⟨rfl, rfl, rfl, by decide +kernel, rfl, by decide +kernel, by decide +kernel⟩
theorem ok_roots (D_roots : DefAt G.K mg "roots" s_roots) (C_look : Ok P w G.K mg base (CXN P w) 2 "look" p_look (sp_look G)) (m_range : mg "range" = none) (HP : P_roots G) : Ok P w G.K mg base (CXN P w) 3 "roots" p_roots (sp_roots G) :=
  mk_ok D_roots sc_roots (fun _ _ _ _ _ _ us hl => match us, hl with | [_, _], _ => rfl) sp2_len (t_roots G)
    (fun vs H Q E h => match vs, h with | [x0, x1], h => HP x0 x1 H Q E h)
    (fun f cdv A outer s H E hr =>
  (pss_cons (ps_expr (pe_ok C_look hr (by decide) (by rfl) (psx rfl rfl rfl rfl) (pa_cons (pv 0) (pa_cons (pv 1) pa_nil))))
  (pss_one (ps_ret (pe_lc (own := [("one", 2)]) rfl sc_roots.nd (pi_range1 (by rfl) m_range (pa_cons (pv 1) pa_nil)) (blkOk_by (N := n_roots) (sc := defScope s_roots) (by decide +kernel)) (fun _ _ _ _ _ => (pg_name (i := 2) sc_roots.nd rfl (Or.inl rfl))) (fun _ _ _ _ _ => (pts_one (pt_cmpR op_eq (pe_op op_mod (pe_op op_sub (pe_op op_mulA (pv 2) (pv 2)) (pv 0)) (pv 1)) pe_int (nomark _)))) (fun _ _ _ _ _ => (pv 2)))))))
abbrev s_log_of : Stmt := topS 30
theorem sc_log_of : FnScope n_log_of p_log_of (defScope s_log_of) := ⟨rfl, rfl, rfl, by decide +kernel, rfl, by decide +kernel, by decide +kernel⟩
theorem ok_log_of (D_log_of : DefAt G.K mg "log_of" s_log_of) (C_need_number : Ok P w G.K mg base (CXN P w) 1 "need_number" p_need_number (sp_need_number G)) (C_look : Ok P w G.K mg base (CXN P w) 2 "look" p_look (sp_look G)) (m_range : mg "range" = none) (c_MOST_NUMBER : ∃ t, mg "MOST_NUMBER" = some (.int 1000000000 t)) (HP : P_log_of G) : Ok P w G.K mg base (CXN P w) 3 "log_of" p_log_of (sp_log_of G) :=
  mk_ok D_log_of sc_log_of (fun _ _ _ _ _ _ us hl => match us, hl with | [_, _, _], _ => rfl) sp3_len (t_log_of G)
    (fun vs H Q E h => match vs, h with | [x0, x1, x2], h => HP x0 x1 x2 H Q E h)
    (fun f cdv A outer s H E hr =>
  (pss_cons (ps_expr (pe_ok C_need_number hr (by decide) (by rfl) (psx rfl rfl rfl rfl) (pa_cons (pv 0) (pa_cons pe_int (pa_cons (pe_glob (by rfl) c_MOST_NUMBER.choose_spec ⟨_, rfl⟩) pa_nil)))))
  (pss_cons (ps_expr (pe_ok C_look hr (by decide) (by rfl) (psx rfl rfl rfl rfl) (pa_cons (pv 1) (pa_cons (pv 2) pa_nil))))
  (pss_cons (ps_set (i := 3) sc_log_of.nd rfl (Or.inl rfl) (pe_op op_mod pe_int (pv 2)))
  (pss_cons (ps_for (L2.passes_of rfl) rfl (pi_range1 (by rfl) m_range (pa_cons (pe_op op_add (pv 2) pe_int) pa_nil)) (pg_name (i := 4) sc_log_of.nd rfl (Or.inl rfl))
  (pss_cons (ps_if (pt_cmpR op_eq (pv 3) (pe_op op_mod (pv 1) (pv 2)) (nomark _))
  (pss_one (ps_ret (pv 4)))
  pss_nil)
  (pss_one (ps_set (i := 3) sc_log_of.nd rfl (Or.inl rfl) (pe_op op_mod (pe_op op_mulA (pv 3) (pv 0)) (pv 2))))))
  (pss_one (ps_ret pe_non)))))))
abbrev s_is_pair : Stmt := topS 31
theorem sc_is_pair : FnScope n_is_pair p_is_pair (defScope s_is_pair) := ⟨rfl, rfl, rfl, by decide +kernel, rfl, by decide +kernel, by decide +kernel⟩
theorem ok_is_pair (D_is_pair : DefAt G.K mg "is_pair" s_is_pair) (m_tuple : mg "tuple" = none) (m_isinstance : mg "isinstance" = none) (m_len : mg "len" = none) (m_int : mg "int" = none) (m_bool : mg "bool" = none) (m_any : mg "any" = none) (c_MOST_MODULUS : ∃ t, mg "MOST_MODULUS" = some (.int 2000 t)) (HP : P_is_pair G) : Ok P w G.K mg base (CXN P w) 1 "is_pair" p_is_pair (sp_is_pair G) :=
  mk_ok D_is_pair sc_is_pair (fun _ _ _ _ _ _ us hl => match us, hl with | [_], _ => rfl) sp1_len (t_is_pair G)
    (fun vs H Q E h => match vs, h with | [x0], h => HP x0 H Q E h)
    (fun f cdv A outer s H E hr =>
  (pss_cons (ps_if (PW.pt (pw_or (pt_not (pt_val (pe_callB call_isi (by rfl) m_isinstance (by decide +kernel) (pa_cons (pv 0) (pa_cons (pe_bltn (v := .ty "tuple") (by rfl) m_tuple (by decide +kernel) rfl) pa_nil))))) (pw_or1 (pt_cmpR op_ne (pe_callB call_len_seq (by rfl) m_len (by decide +kernel) (pa_cons (pv 0) pa_nil)) pe_int (nomark _)))))
  (pss_one (ps_ret pe_bl))
  pss_nil)
  (pss_cons (ps_asg (pv 0) (pg_tup rfl (pgs_cons (pg_name (i := 1) sc_is_pair.nd rfl (Or.inl rfl)) (pgs_cons (pg_name (i := 2) sc_is_pair.nd rfl (Or.inl rfl)) pgs_nil))))
  (pss_cons (ps_if (pt_val (pe_callB (cr_any rfl) (by rfl) m_any (by decide +kernel) (pa_cons (pe_lc (own := [("one", 3)]) rfl sc_is_pair.nd (pi_tup (pv 0)) (blkOk_by (N := n_is_pair) (sc := defScope s_is_pair) (by decide +kernel)) (fun _ _ _ _ _ => (pg_name (i := 3) sc_is_pair.nd rfl (Or.inl rfl))) (fun _ _ _ _ _ => pts_nil) (fun _ _ _ _ _ => (pe_or (pe_not (pe_callB call_isi (by rfl) m_isinstance (by decide +kernel) (pa_cons (pv 3) (pa_cons (pe_bltn (v := .ty "int") (by rfl) m_int (by decide +kernel) rfl) pa_nil)))) (pe_one (pe_callB call_isi (by rfl) m_isinstance (by decide +kernel) (pa_cons (pv 3) (pa_cons (pe_bltn (v := .ty "bool") (by rfl) m_bool (by decide +kernel) rfl) pa_nil))))))) pa_nil)))
  (pss_one (ps_ret pe_bl))
  pss_nil)
  (pss_one (ps_ret (pe_and (pe_chain op_le op_le pe_int (pv 2) (pe_glob (by rfl) c_MOST_MODULUS.choose_spec ⟨_, rfl⟩)) (pe_one (pe_chain op_le op_lt pe_int (pv 1) (pv 2))))))))))
abbrev s_met : Stmt := topS 32
theorem sc_met : FnScope n_met p_met (defScope s_met) := ⟨rfl, rfl, rfl, by decide +kernel, rfl, by decide +kernel, by decide +kernel⟩
theorem ok_met (D_met : DefAt G.K mg "met" s_met) (C_is_pair : Ok P w G.K mg base (CXN P w) 1 "is_pair" p_is_pair (sp_is_pair G)) (C_common : Ok P w G.K mg base (CXN P w) 1 "common" p_common (sp_common G)) (m_list : mg "list" = none) (m_isinstance : mg "isinstance" = none) (m_len : mg "len" = none) (m_all : mg "all" = none) (x_BadNumber : ErrAt G.K mg "BadNumber" G.BadNumber) (c_MOST_PAIRS : ∃ t, mg "MOST_PAIRS" = some (.int 6 t)) (HP : P_met G) : Ok P w G.K mg base (CXN P w) 2 "met" p_met (sp_met G) :=
  mk_ok D_met sc_met (fun _ _ _ _ _ _ us hl => match us, hl with | [_], _ => rfl) sp1_len (t_met G)
    (fun vs H Q E h => match vs, h with | [x0], h => HP x0 H Q E h)
    (fun f cdv A outer s H E hr =>
  (pss_cons (ps_if (PW.pt (pw_or (pt_not (pt_val (pe_callB call_isi (by rfl) m_isinstance (by decide +kernel) (pa_cons (pv 0) (pa_cons (pe_bltn (v := .ty "list") (by rfl) m_list (by decide +kernel) rfl) pa_nil))))) (pw_or (pt_cmpR op_gt (pe_callB call_len_seq (by rfl) m_len (by decide +kernel) (pa_cons (pv 0) pa_nil)) (pe_glob (by rfl) c_MOST_PAIRS.choose_spec ⟨_, rfl⟩) (nomark _)) (pw_or1 (pt_not (pt_val (pe_callB (cr_all rfl) (by rfl) m_all (by decide +kernel) (pa_cons (pe_lc (own := [("pair", 7)]) rfl sc_met.nd (pi_list (pv 0)) (blkOk_by (N := n_met) (sc := defScope s_met) (by decide +kernel)) (fun _ _ _ _ _ => (pg_name (i := 7) sc_met.nd rfl (Or.inl rfl))) (fun _ _ _ _ _ => pts_nil) (fun _ _ _ _ _ => (pe_ok C_is_pair hr (by decide) (by rfl) psn (pa_cons (pv 7) pa_nil)))) pa_nil))))))))
  (pss_one (ps_raiseN x_BadNumber (by rfl) rfl rfl rfl rfl rfl))
  pss_nil)
  (pss_cons (ps_asg (pe_tup (pa_cons pe_int (pa_cons pe_int pa_nil))) (pg_tup rfl (pgs_cons (pg_name (i := 1) sc_met.nd rfl (Or.inl rfl)) (pgs_cons (pg_name (i := 2) sc_met.nd rfl (Or.inl rfl)) pgs_nil))))
  (pss_cons (ps_for (L2.passes_of rfl) rfl (pi_list (pv 0)) (pg_tup rfl (pgs_cons (pg_name (i := 3) sc_met.nd rfl (Or.inl rfl)) (pgs_cons (pg_name (i := 4) sc_met.nd rfl (Or.inl rfl)) pgs_nil)))
  (pss_cons (ps_set (i := 5) sc_met.nd rfl (Or.inl rfl) (pe_ok C_common hr (by decide) (by rfl) (psx rfl rfl rfl rfl) (pa_cons (pv 2) (pa_cons (pv 4) pa_nil))))
  (pss_cons (ps_if (pt_cmpR op_ne (pe_op op_mod (pe_op op_sub (pv 3) (pv 1)) (pv 5)) pe_int (nomark _))
  (pss_one (ps_ret pe_non))
  pss_nil)
  (pss_cons (ps_set (i := 6) sc_met.nd rfl (Or.inl rfl) pe_int)
  (pss_cons (ps_while (L2.passes_of rfl) (pt_cmpR op_ne (pe_op op_mod (pe_op op_sub (pe_op op_add (pv 1) (pe_op op_mulA (pv 6) (pv 2))) (pv 3)) (pv 4)) pe_int (nomark _))
  (pss_one (ps_set (i := 6) sc_met.nd rfl (Or.inl rfl) (pe_op op_add (pv 6) pe_int))))
  (pss_cons (ps_set (i := 1) sc_met.nd rfl (Or.inl rfl) (pe_op op_add (pv 1) (pe_op op_mulA (pv 6) (pv 2))))
  (pss_one (ps_set (i := 2) sc_met.nd rfl (Or.inl rfl) (pe_op op_mulA (pe_op op_fdivW (pv 2) (pv 5)) (pv 4))))))))))
  (pss_one (ps_ret (pe_tup (pa_cons (pv 1) (pa_cons (pv 2) pa_nil)))))))))
abbrev s__law_cell : Stmt := topS 34
theorem sc__law_cell : FnScope n__law_cell p__law_cell (defScope s__law_cell) := ⟨rfl, rfl, rfl, by decide +kernel, rfl, by decide +kernel, by decide +kernel⟩
theorem ok__law_cell (D__law_cell : DefAt G.K mg "_law_cell" s__law_cell) (m_len : mg "len" = none) (HP : P__law_cell G) : Ok P w G.K mg base (CXN P w) 1 "_law_cell" p__law_cell (sp__law_cell G) :=
  mk_ok D__law_cell sc__law_cell (fun _ _ _ _ _ _ us hl => match us, hl with | [_, _], _ => rfl) sp2_len (t__law_cell G)
    (fun vs H Q E h => match vs, h with | [x0, x1], h => HP x0 x1 H Q E h)
    (fun f cdv A outer s H E hr =>
  (pss_cons (ps_if (pt_cmpR (op_eqD hr.units) (pv 0) (pe_lst pa_nil) (nomark _))
  (pss_one (ps_ret (pe_op op_mulA (pv 1) pe_int)))
  pss_nil)
  (pss_one (ps_ret (pe_op op_add (pe_ix ix_list (pv 0) (pe_op op_mod (pv 1) (pe_callB call_len_seq (by rfl) m_len (by decide +kernel) (pa_cons (pv 0) pa_nil))) (fun _ _ => rfl)) (pe_op op_mulA (pe_op op_fdivW (pv 1) (pe_callB call_len_seq (by rfl) m_len (by decide +kernel) (pa_cons (pv 0) pa_nil))) pe_int))))))
abbrev s__law_drawn : Stmt := topS 35
theorem sc__law_drawn : FnScope n__law_drawn p__law_drawn (defScope s__law_drawn) := ⟨rfl, rfl, rfl, by decide +kernel, rfl, by decide +kernel, by decide +kernel⟩
theorem ok__law_drawn (D__law_drawn : DefAt G.K mg "_law_drawn" s__law_drawn) (HP : P__law_drawn G) : Ok P w G.K mg base (CXN P w) 1 "_law_drawn" p__law_drawn (sp__law_drawn G) :=
  mk_ok D__law_drawn sc__law_drawn (fun _ _ _ _ _ _ us hl => match us, hl with | [_, _], _ => rfl) sp2_len (t__law_drawn G)
    (fun vs H Q E h => match vs, h with | [x0, x1], h => HP x0 x1 H Q E h)
    (fun f cdv A outer s H E hr =>
  (pss_cons (ps_set (i := 2) sc__law_drawn.nd rfl (Or.inl rfl) (pe_op op_mod (pe_op op_add (pe_op op_mulA (pv 0) pe_int) (pe_op op_mulA (pe_op op_add (pv 1) pe_int) pe_int)) pe_int))
  (pss_cons (ps_set (i := 2) sc__law_drawn.nd rfl (Or.inl rfl) (pe_op op_mod (pe_op op_mulA (pv 2) (pv 2)) pe_int))
  (pss_cons (ps_set (i := 2) sc__law_drawn.nd rfl (Or.inl rfl) (pe_op op_mulA (pe_op op_mulA (pe_op op_add (pe_op op_mod (pv 2) pe_int) pe_int) (pe_op op_add (pe_op op_fdivW (pv 2) pe_int) pe_int)) (pv 2)))
  (pss_one (ps_ret (pe_op op_mod (pv 2) pe_int)))))))
abbrev s__law_word : Stmt := topS 36
theorem sc__law_word : FnScope n__law_word p__law_word (defScope s__law_word) := ⟨rfl, rfl, rfl, by decide +kernel, rfl, by decide +kernel, by decide +kernel⟩
theorem ok__law_word (D__law_word : DefAt G.K mg "_law_word" s__law_word) (m_isinstance : mg "isinstance" = none) (m_int : mg "int" = none) (m_sum : mg "sum" = none) (m_ValueError : mg "ValueError" = none) (x_BadName : ErrAt G.K mg "BadName" G.BadName) (x_NoWay : ErrAt G.K mg "NoWay" G.NoWay) (x_Unlike : ErrAt G.K mg "Unlike" G.Unlike) (x_BadTable : ErrAt G.K mg "BadTable" G.BadTable) (x_Full : ErrAt G.K mg "Full" G.Full) (x_BadRule : ErrAt G.K mg "BadRule" G.BadRule) (x_BadSums : ErrAt G.K mg "BadSums" G.BadSums) (x_BadNumber : ErrAt G.K mg "BadNumber" G.BadNumber) (x_BadText : ErrAt G.K mg "BadText" G.BadText) (x_Nothing : ErrAt G.K mg "Nothing" G.Nothing) (x_Used : ErrAt G.K mg "Used" G.Used) (TX : ∀ C nm, WE G C nm → ExcC G.K C) (HP : P__law_word G) : WordOk P w G.K mg base 1 "_law_word" "_law_e" (WE G) :=
  mk_word D__law_word sc__law_word (fun _ _ _ _ _ _ us hl => match us, hl with | [_], _ => rfl) (t__law_word G) HP
    (fun g cdv A outer s H p C hw hot hr hz => by
      obtain ⟨nm, hw⟩ := hw
      have TE := TX C nm hw
      obtain ⟨ws, dws, _⟩ := id hot.2
      have hf : ∃ vs, p.2.data = .fields vs := ⟨ws, dws⟩
      have hpn : (p.1, p.2) ∈ (cxH (CXN P w) P w G.K mg base n__law_word "_law_word" (defScope s__law_word) g cdv A outer s H E0 p).pn := List.mem_singleton.mpr rfl
      have hc : HotC (cxH (CXN P w) P w G.K mg base n__law_word "_law_word" (defScope s__law_word) g cdv A outer s H E0 p) := ⟨p, hot, hpn⟩
      exact
  (pss_cons (ps_set (i := 1) sc__law_word.nd rfl (Or.inl rfl) (pe_lst (pa_cons (pe_callB (call_isP hpn TE hz hf) (by rfl) m_isinstance (by decide +kernel) (pa_cons (pv 0) (pa_cons (pe_glob (v := .ref G.BadTable) (by rfl) x_BadTable.gC rfl) pa_nil))) (pa_cons (pe_callB (call_isP hpn TE hz hf) (by rfl) m_isinstance (by decide +kernel) (pa_cons (pv 0) (pa_cons (pe_glob (v := .ref G.Unlike) (by rfl) x_Unlike.gC rfl) pa_nil))) (pa_cons (pe_callB (call_isP hpn TE hz hf) (by rfl) m_isinstance (by decide +kernel) (pa_cons (pv 0) (pa_cons (pe_glob (v := .ref G.NoWay) (by rfl) x_NoWay.gC rfl) pa_nil))) (pa_cons (pe_callB (call_isP hpn TE hz hf) (by rfl) m_isinstance (by decide +kernel) (pa_cons (pv 0) (pa_cons (pe_glob (v := .ref G.BadName) (by rfl) x_BadName.gC rfl) pa_nil))) pa_nil))))))
  (pss_cons (ps_set (i := 1) sc__law_word.nd rfl (Or.inl rfl) (pe_op op_cat (pv 1) (pe_lst (pa_cons (pe_callB (call_isP hpn TE hz hf) (by rfl) m_isinstance (by decide +kernel) (pa_cons (pv 0) (pa_cons (pe_glob (v := .ref G.BadNumber) (by rfl) x_BadNumber.gC rfl) pa_nil))) (pa_cons (pe_callB (call_isP hpn TE hz hf) (by rfl) m_isinstance (by decide +kernel) (pa_cons (pv 0) (pa_cons (pe_glob (v := .ref G.BadSums) (by rfl) x_BadSums.gC rfl) pa_nil))) (pa_cons (pe_callB (call_isP hpn TE hz hf) (by rfl) m_isinstance (by decide +kernel) (pa_cons (pv 0) (pa_cons (pe_glob (v := .ref G.BadRule) (by rfl) x_BadRule.gC rfl) pa_nil))) (pa_cons (pe_callB (call_isP hpn TE hz hf) (by rfl) m_isinstance (by decide +kernel) (pa_cons (pv 0) (pa_cons (pe_glob (v := .ref G.Full) (by rfl) x_Full.gC rfl) pa_nil))) pa_nil)))))))
  (pss_cons (ps_set (i := 1) sc__law_word.nd rfl (Or.inl rfl) (pe_op op_cat (pv 1) (pe_lst (pa_cons (pe_callB (call_isP hpn TE hz hf) (by rfl) m_isinstance (by decide +kernel) (pa_cons (pv 0) (pa_cons (pe_glob (v := .ref G.Used) (by rfl) x_Used.gC rfl) pa_nil))) (pa_cons (pe_callB (call_isP hpn TE hz hf) (by rfl) m_isinstance (by decide +kernel) (pa_cons (pv 0) (pa_cons (pe_glob (v := .ref G.Nothing) (by rfl) x_Nothing.gC rfl) pa_nil))) (pa_cons (pe_callB (call_isP hpn TE hz hf) (by rfl) m_isinstance (by decide +kernel) (pa_cons (pv 0) (pa_cons (pe_glob (v := .ref G.BadText) (by rfl) x_BadText.gC rfl) pa_nil))) pa_nil))))))
  (pss_cons (ps_if (PW.pt (pw_or (pt_cmpR op_ne (pe_callB (cr_sumH hc) (by rfl) m_sum (by decide +kernel) (pa_cons (pe_intsH hc (pv 1) (by rfl) (by decide +kernel) rfl (by decide +kernel) (by decide +kernel) (fun _ => by rfl) m_int (by decide)) pa_nil)) pe_int (nomark _)) (pw_or1 (pt_not (pt_val (pe_callB (call_isP hpn TE hz hf) (by rfl) m_isinstance (by decide +kernel) (pa_cons (pv 0) (pa_cons (pe_bltn (v := .ty "ValueError") (by rfl) m_ValueError (by decide +kernel) rfl) pa_nil))))))))
  (pss_one (ps_ret pe_str))
  pss_nil)
  (pss_cons (ps_set (i := 2) sc__law_word.nd rfl (Or.inl rfl) (pe_lst (pa_cons pe_str (pa_cons pe_str (pa_cons pe_str (pa_cons pe_str (pa_cons pe_str (pa_cons pe_str (pa_cons pe_str (pa_cons pe_str (pa_cons pe_str (pa_cons pe_str pa_nil))))))))))))
  (pss_one (ps_ret (pe_ix ix_list (pe_op op_cat (pv 2) (pe_lst (pa_cons pe_str pa_nil))) (pe_bm PySem.F.plainAttrs_list PySem.F.slot_list_index PySem.F.type_list_index mt_index (pv 1) (pa_cons pe_bl pa_nil)) (fun _ _ => rfl))))))))))
abbrev s__law_all : Stmt := topS 38
theorem sc__law_all : FnScope n__law_all p__law_all (defScope s__law_all) := ⟨rfl, rfl, rfl, by decide +kernel, rfl, by decide +kernel, by decide +kernel⟩
theorem ok__law_all {T : List (Addr × Str)} {c Pt : Addr} (D__law_all : DefAtC G.K mg "_law_all" s__law_all c) (TD : ToldAt P w G.K mg base G.SieveError 1 (WE G) s__law_told) (TB : TabB base mg c Pt) (hmT : (Pt, ("_law_all" ++ ".<locals>." : Str) ++ "<lambda>") ∈ T) (hu : ∀ p ∈ T, p.1 = Pt → p.2 = ("_law_all" ++ ".<locals>." : Str) ++ "<lambda>") (C_inverse : Ok P w G.K mg base (CXN P w) 3 "inverse" p_inverse (sp_inverse G)) (C_order_of : Ok P w G.K mg base (CXN P w) 3 "order_of" p_order_of (sp_order_of G)) (C_roots : Ok P w G.K mg base (CXN P w) 3 "roots" p_roots (sp_roots G)) (C_log_of : Ok P w G.K mg base (CXN P w) 3 "log_of" p_log_of (sp_log_of G)) (HP : P__law_all G) : Ok P w G.K mg base (CXN P w) 6 "_law_all" p__law_all (sp__law_all G T) :=
  mk_okC D__law_all sc__law_all (fun _ _ _ _ _ _ us hl => match us, hl with | [_, _], _ => rfl) sp2_len (t__law_all G T)
    (fun vs H Q E h => match vs, h with | [x0, x1], h => HP T x0 x1 H Q E h)
    (fun f A outer s H E hr =>
  (pss_cons (ps_set (i := 2) sc__law_all.nd rfl (Or.inl rfl) (pe_lst (pa_cons (pe_told (T := T) (t := fun E => (tCall (sp_inverse G) [] E (tCons (tVar 0) (tCons (tVar 1) tNil)))) TD (by rfl) TB rfl hmT hu hr (by decide) (lamS_by (sc := defScope s__law_all) (by decide +kernel)) rfl (fun _ _ _ _ _ => rfl) (fun A outer s H E f c' hr => (pe_ok C_inverse hr (by decide) (by rfl) (psx rfl rfl rfl rfl) (pa_cons (pv 0) (pa_cons (pv 1) pa_nil))))) pa_nil)))
  (pss_cons (ps_expr (pe_bm PySem.F.plainAttrs_list PySem.F.slot_list_append PySem.F.type_list_append mt_append (pv 2) (pa_cons (pe_told (T := T) (t := fun E => (tCall (sp_order_of G) [] E (tCons (tVar 0) (tCons (tVar 1) tNil)))) TD (by rfl) TB rfl hmT hu hr (by decide) (lamS_by (sc := defScope s__law_all) (by decide +kernel)) rfl (fun _ _ _ _ _ => rfl) (fun A outer s H E f c' hr => (pe_ok C_order_of hr (by decide) (by rfl) (psx rfl rfl rfl rfl) (pa_cons (pv 0) (pa_cons (pv 1) pa_nil))))) pa_nil)))
  (pss_cons (ps_expr (pe_bm PySem.F.plainAttrs_list PySem.F.slot_list_append PySem.F.type_list_append mt_append (pv 2) (pa_cons (pe_told (T := T) (t := fun E => (tCall (sp_roots G) [] E (tCons (tVar 0) (tCons (tVar 1) tNil)))) TD (by rfl) TB rfl hmT hu hr (by decide) (lamS_by (sc := defScope s__law_all) (by decide +kernel)) rfl (fun _ _ _ _ _ => rfl) (fun A outer s H E f c' hr => (pe_ok C_roots hr (by decide) (by rfl) (psx rfl rfl rfl rfl) (pa_cons (pv 0) (pa_cons (pv 1) pa_nil))))) pa_nil)))
  (pss_cons (ps_expr (pe_bm PySem.F.plainAttrs_list PySem.F.slot_list_append PySem.F.type_list_append mt_append (pv 2) (pa_cons (pe_told (T := T) (t := fun E => (tCall (sp_log_of G) [] E (tCons (tVar 0) (tCons (tC (.int 5)) (tCons (tVar 1) tNil))))) TD (by rfl) TB rfl hmT hu hr (by decide) (lamS_by (sc := defScope s__law_all) (by decide +kernel)) rfl (fun _ _ _ _ _ => rfl) (fun A outer s H E f c' hr => (pe_ok C_log_of hr (by decide) (by rfl) (psx rfl rfl rfl rfl) (pa_cons (pv 0) (pa_cons pe_int (pa_cons (pv 1) pa_nil)))))) pa_nil)))
  (pss_cons (ps_expr (pe_bm PySem.F.plainAttrs_list PySem.F.slot_list_append PySem.F.type_list_append mt_append (pv 2) (pa_cons (pe_told (T := T) (t := fun E => (tCall (sp_log_of G) [] E (tCons (tC (.int 5)) (tCons (tVar 0) (tCons (tVar 1) tNil))))) TD (by rfl) TB rfl hmT hu hr (by decide) (lamS_by (sc := defScope s__law_all) (by decide +kernel)) rfl (fun _ _ _ _ _ => rfl) (fun A outer s H E f c' hr => (pe_ok C_log_of hr (by decide) (by rfl) (psx rfl rfl rfl rfl) (pa_cons pe_int (pa_cons (pv 0) (pa_cons (pv 1) pa_nil)))))) pa_nil)))
  (pss_one (ps_ret (pv 2)))))))))
abbrev s_law : Stmt := topS 39
theorem sc_law : FnScope n_law p_law (defScope s_law) := ⟨rfl, rfl, rfl, by decide +kernel, rfl, by decide +kernel, by decide +kernel⟩
theorem ok_law {f : Addr} {fd : FuncData} {T : List (Addr × Str)} {c Pt : Addr} (F_law : FunC G.K "law" "law" s_law f fd c) (TD : ToldAt P w G.K mg base G.SieveError 1 (WE G) s__law_told) (TB : TabB base mg c Pt) (hmT : (Pt, ("law" ++ ".<locals>." : Str) ++ "<lambda>") ∈ T) (hu : ∀ p ∈ T, p.1 = Pt → p.2 = ("law" ++ ".<locals>." : Str) ++ "<lambda>") (C__law_drawn : Ok P w G.K mg base (CXN P w) 1 "_law_drawn" p__law_drawn (sp__law_drawn G)) (C__law_cell : Ok P w G.K mg base (CXN P w) 1 "_law_cell" p__law_cell (sp__law_cell G)) (C__law_all : Ok P w G.K mg base (CXN P w) 6 "_law_all" p__law_all (sp__law_all G T)) (C_coprimes : Ok P w G.K mg base (CXN P w) 3 "coprimes" p_coprimes (sp_coprimes G)) (C_least_root : Ok P w G.K mg base (CXN P w) 3 "least_root" p_least_root (sp_least_root G)) (C_inverse : Ok P w G.K mg base (CXN P w) 3 "inverse" p_inverse (sp_inverse G)) (C_order_of : Ok P w G.K mg base (CXN P w) 3 "order_of" p_order_of (sp_order_of G)) (C_met : Ok P w G.K mg base (CXN P w) 2 "met" p_met (sp_met G)) (C_log_of : Ok P w G.K mg base (CXN P w) 3 "log_of" p_log_of (sp_log_of G)) (C_roots : Ok P w G.K mg base (CXN P w) 3 "roots" p_roots (sp_roots G)) (m_len : mg "len" = none) (m_min : mg "min" = none) (m_max : mg "max" = none) (m_range : mg "range" = none) (HP : P_law G) : FnOk P w G.K mg base (CXN P w) 9 f fd p_law (sp_law G T) :=
  mk_fnC F_law sc_law sp1_len (t_law G T)
    (fun vs H Q E h => match vs, h with | [x0], h => HP T x0 H Q E h)
    (fun A outer s H E hr =>
  (pss_cons (ps_for (L2.passes_of rfl) rfl (pi_range1 (by rfl) m_range (pa_cons (pe_callB (call_max2 rfl) (by rfl) m_max (by decide +kernel) (pa_cons pe_int (pa_cons (pe_callB (call_min2 rfl) (by rfl) m_min (by decide +kernel) (pa_cons pe_int (pa_cons (pe_callB call_len_seq (by rfl) m_len (by decide +kernel) (pa_cons (pv 0) pa_nil)) pa_nil))) pa_nil))) pa_nil)) (pg_name (i := 1) sc_law.nd rfl (Or.inl rfl))
  (pss_cons (ps_set (i := 2) sc_law.nd rfl (Or.inl rfl) (pe_ok C__law_drawn hr (by decide) (by rfl) (psx rfl rfl rfl rfl) (pa_cons (pe_ok C__law_cell hr (by decide) (by rfl) (psx rfl rfl rfl rfl) (pa_cons (pv 0) (pa_cons (pv 1) pa_nil))) (pa_cons (pv 1) pa_nil))))
  (pss_cons (ps_set (i := 3) sc_law.nd rfl (Or.inl rfl) (pe_op op_add pe_int (pe_op op_mod (pv 2) pe_int)))
  (pss_cons (ps_for (L2.passes_of rfl) rfl (pi_list (pe_lst (pa_cons (pe_un un_neg pe_int) (pa_cons (pe_op op_add (pe_op op_pow pe_int pe_int) pe_int) (pa_cons pe_non (pa_cons pe_bl (pa_cons pe_str pa_nil))))))) (pg_name (i := 4) sc_law.nd rfl (Or.inr rfl))
  (pss_one (ps_if (pt_cmpR (op_neD hr.units) (pe_ok C__law_all hr (by decide) (by rfl) (psx rfl rfl rfl rfl) (pa_cons (pv 4) (pa_cons pe_non pa_nil))) (pe_op op_rep (pe_lst (pa_cons pe_str pa_nil)) pe_int) (nomark _))
  (pss_one (ps_ret pe_bl))
  pss_nil)))
  (pss_cons (ps_for (L2.passes_of rfl) rfl (pi_list (pe_lst (pa_cons pe_int (pa_cons pe_int (pa_cons (pe_un un_neg pe_int) (pa_cons pe_non (pa_cons pe_bl (pa_cons pe_str pa_nil)))))))) (pg_name (i := 4) sc_law.nd rfl (Or.inr rfl))
  (pss_cons (ps_set (i := 5) sc_law.nd rfl (Or.inl rfl) (pe_lst (pa_cons (pe_told (T := T) (t := fun E => (tCall (sp_coprimes G) [] E (tCons (tVar 4) tNil))) TD (by rfl) TB rfl hmT hu hr (by decide) (lamS_by (sc := defScope s_law) (by decide +kernel)) rfl (fun _ _ _ _ _ => rfl) (fun A outer s H E f c' hr => (pe_ok C_coprimes hr (by decide) (by rfl) (psx rfl rfl rfl rfl) (pa_cons (pv 4) pa_nil)))) pa_nil)))
  (pss_cons (ps_expr (pe_bm PySem.F.plainAttrs_list PySem.F.slot_list_append PySem.F.type_list_append mt_append (pv 5) (pa_cons (pe_told (T := T) (t := fun E => (tCall (sp_least_root G) [] E (tCons (tVar 4) tNil))) TD (by rfl) TB rfl hmT hu hr (by decide) (lamS_by (sc := defScope s_law) (by decide +kernel)) rfl (fun _ _ _ _ _ => rfl) (fun A outer s H E f c' hr => (pe_ok C_least_root hr (by decide) (by rfl) (psx rfl rfl rfl rfl) (pa_cons (pv 4) pa_nil)))) pa_nil)))
  (pss_one (ps_if (pt_cmpR (op_neD hr.units) (pe_op op_cat (pe_ok C__law_all hr (by decide) (by rfl) (psx rfl rfl rfl rfl) (pa_cons pe_int (pa_cons (pv 4) pa_nil))) (pv 5)) (pe_op op_rep (pe_lst (pa_cons pe_str pa_nil)) pe_int) (nomark _))
  (pss_one (ps_ret pe_bl))
  pss_nil)))))
  (pss_cons (ps_set (i := 6) sc_law.nd rfl (Or.inr rfl) (pe_op op_add pe_int (pe_op op_mod (pe_op op_fdivW (pv 2) pe_int) pe_int)))
  (pss_cons (ps_set (i := 5) sc_law.nd rfl (Or.inl rfl) (pe_lst (pa_cons (pe_told (T := T) (t := fun E => (tCall (sp_inverse G) [] E (tCons (tVar 6) (tCons (tVar 6) tNil)))) TD (by rfl) TB rfl hmT hu hr (by decide) (lamS_by (sc := defScope s_law) (by decide +kernel)) rfl (fun _ _ _ _ _ => rfl) (fun A outer s H E f c' hr => (pe_ok C_inverse hr (by decide) (by rfl) (psx rfl rfl rfl rfl) (pa_cons (pv 6) (pa_cons (pv 6) pa_nil))))) pa_nil)))
  (pss_cons (ps_expr (pe_bm PySem.F.plainAttrs_list PySem.F.slot_list_append PySem.F.type_list_append mt_append (pv 5) (pa_cons (pe_told (T := T) (t := fun E => (tCall (sp_order_of G) [] E (tCons (tC (.int 0)) (tCons (tVar 6) tNil)))) TD (by rfl) TB rfl hmT hu hr (by decide) (lamS_by (sc := defScope s_law) (by decide +kernel)) rfl (fun _ _ _ _ _ => rfl) (fun A outer s H E f c' hr => (pe_ok C_order_of hr (by decide) (by rfl) (psx rfl rfl rfl rfl) (pa_cons pe_int (pa_cons (pv 6) pa_nil))))) pa_nil)))
  (pss_cons (ps_if (pt_cmpR (op_neD hr.units) (pv 5) (pe_op op_rep (pe_lst (pa_cons pe_str pa_nil)) pe_int) (nomark _))
  (pss_one (ps_ret pe_bl))
  pss_nil)
  (pss_cons (ps_set (i := 7) sc_law.nd rfl (Or.inl rfl) (pe_lst (pa_cons pe_non (pa_cons (pe_tup pa_nil) (pa_cons (pe_tup (pa_cons pe_int (pa_cons pe_int pa_nil))) (pa_cons (pe_lst (pa_cons (pe_tup (pa_cons pe_int (pa_cons pe_int pa_nil))) pa_nil)) (pa_cons (pe_lst (pa_cons (pe_tup (pa_cons pe_int (pa_cons pe_int pa_nil))) pa_nil)) (pa_cons (pe_lst (pa_cons (pe_tup (pa_cons (pe_un un_neg pe_int) (pa_cons pe_int pa_nil))) pa_nil)) (pa_cons (pe_lst (pa_cons (pe_tup (pa_cons pe_int (pa_cons pe_int pa_nil))) pa_nil)) (pa_cons (pe_op op_rep (pe_lst (pa_cons (pe_tup (pa_cons pe_int (pa_cons pe_int pa_nil))) pa_nil)) pe_int) (pa_cons (pe_lst (pa_cons (pe_lst (pa_cons pe_int (pa_cons pe_int pa_nil))) pa_nil)) pa_nil)))))))))))
  (pss_cons (ps_for (L2.passes_of rfl) rfl (pi_list (pe_op op_cat (pe_op op_cat (pv 7) (pe_lst (pa_cons (pe_lst (pa_cons (pe_tup (pa_cons pe_int pa_nil)) pa_nil)) (pa_cons (pe_lst (pa_cons (pe_tup (pa_cons pe_int (pa_cons pe_int (pa_cons pe_int pa_nil)))) pa_nil)) pa_nil)))) (pe_lst (pa_cons (pe_lst (pa_cons (pe_tup (pa_cons pe_bl (pa_cons pe_int pa_nil))) pa_nil)) (pa_cons (pe_lst (pa_cons (pe_tup (pa_cons pe_int (pa_cons pe_bl pa_nil))) pa_nil)) (pa_cons (pe_lst (pa_cons (pe_tup (pa_cons pe_int (pa_cons pe_non pa_nil))) pa_nil)) (pa_cons (pe_lst (pa_cons pe_non pa_nil)) (pa_cons (pe_lst (pa_cons (pe_tup (pa_cons pe_int (pa_cons pe_int pa_nil))) (pa_cons (pe_tup (pa_cons pe_int (pa_cons pe_int pa_nil))) pa_nil))) pa_nil)))))))) (pg_name (i := 4) sc_law.nd rfl (Or.inr rfl))
  (pss_one (ps_if (pt_cmpR op_ne (pe_told (T := T) (t := fun E => (tCall (sp_met G) [] E (tCons (tVar 4) tNil))) TD (by rfl) TB rfl hmT hu hr (by decide) (lamS_by (sc := defScope s_law) (by decide +kernel)) rfl (fun _ _ _ _ _ => rfl) (fun A outer s H E f c' hr => (pe_ok C_met hr (by decide) (by rfl) (psx rfl rfl rfl rfl) (pa_cons (pv 4) pa_nil)))) pe_str (nomark _))
  (pss_one (ps_ret pe_bl))
  pss_nil)))
  (pss_cons (ps_set (i := 5) sc_law.nd rfl (Or.inl rfl) (pe_lst (pa_cons (pe_ok C_inverse hr (by decide) (by rfl) (psx rfl rfl rfl rfl) (pa_cons (pe_op op_pow pe_int pe_int) (pa_cons pe_int pa_nil))) (pa_cons (pe_ok C_order_of hr (by decide) (by rfl) (psx rfl rfl rfl rfl) (pa_cons pe_int (pa_cons pe_int pa_nil))) (pa_cons (pe_ok C_roots hr (by decide) (by rfl) (psx rfl rfl rfl rfl) (pa_cons pe_int (pa_cons pe_int pa_nil))) (pa_cons (pe_ok C_log_of hr (by decide) (by rfl) (psx rfl rfl rfl rfl) (pa_cons pe_int (pa_cons pe_int (pa_cons pe_int pa_nil)))) (pa_cons (pe_ok C_coprimes hr (by decide) (by rfl) (psx rfl rfl rfl rfl) (pa_cons pe_int pa_nil)) (pa_cons (pe_ok C_least_root hr (by decide) (by rfl) (psx rfl rfl rfl rfl) (pa_cons pe_int pa_nil)) pa_nil))))))))
  (pss_cons (ps_if (pt_cmpR (op_neD hr.units) (pv 5) (pe_lst (pa_cons pe_int (pa_cons pe_int (pa_cons (pe_lst (pa_cons pe_int pa_nil)) (pa_cons pe_int (pa_cons (pe_lst (pa_cons pe_int pa_nil)) (pa_cons pe_int pa_nil))))))) (nomark _))
  (pss_one (ps_ret pe_bl))
  pss_nil)
  (pss_cons (ps_expr (pe_bm PySem.F.plainAttrs_list PySem.F.slot_list_append PySem.F.type_list_append mt_append (pe_ok C_coprimes hr (by decide) (by rfl) (psx rfl rfl rfl rfl) (pa_cons (pv 3) pa_nil)) (pa_cons pe_non pa_nil)))
  (pss_cons (ps_expr (pe_bm PySem.F.plainAttrs_list PySem.F.slot_list_append PySem.F.type_list_append mt_append (pe_ok C_roots hr (by decide) (by rfl) (psx rfl rfl rfl rfl) (pa_cons pe_int (pa_cons (pv 3) pa_nil))) (pa_cons pe_non pa_nil)))
  (pss_one (ps_if (PW.pt (pw_or (pt_cmpR op_in_seq pe_non (pe_ok C_coprimes hr (by decide) (by rfl) (psx rfl rfl rfl rfl) (pa_cons (pv 3) pa_nil)) (by with_unfolding_all rfl)) (pw_or (pt_cmpR op_in_seq pe_non (pe_ok C_roots hr (by decide) (by rfl) (psx rfl rfl rfl rfl) (pa_cons pe_int (pa_cons (pv 3) pa_nil))) (by with_unfolding_all rfl)) (pw_or1 (pt_cmpR (op_neD hr.units) (pe_ok C_met hr (by decide) (by rfl) (psx rfl rfl rfl rfl) (pa_cons (pe_op op_rep (pe_lst (pa_cons (pe_tup (pa_cons pe_int (pa_cons pe_int pa_nil))) pa_nil)) pe_int) pa_nil)) (pe_tup (pa_cons pe_int (pa_cons pe_int pa_nil))) (nomark _))))))
  (pss_one (ps_ret pe_bl))
  pss_nil)))))))))))))))))
  (pss_one (ps_ret pe_bl))))
end
theorem all_mk {P : Program} {w : World} {K : PySem.W.Frag} {h : Heap} {mg : Str → Option Value} {fa : Addr} (X : K.In h) (GX : h.Ns mainGlobals mg) (hfa : mg "law" = some (.ref fa))
    {f0 : Addr} {od0 an0 : Option Addr} {sl0 : Array (Option Value)} {oc0 kV0 dc0 pm0 ct0 : Value} {cd0 : Value}
    (a0 : PySem.W.nsIn K mainGlobals "need_number" = some (some (.ref f0))) (l0 : K.lookup f0 = some ⟨oc0, od0, .func (PySem.W.fnOf "need_number" "need_number" (defArgs s_need_number) (defBody s_need_number) (defScope s_need_number) .none kV0 dc0 pm0 an0 cd0 ct0), sl0⟩) (c0 : PySem.W.codeIn K cd0 "need_number" = true) (k0 : PySem.W.keepIn K (.ref f0) = true)
    {f1 : Addr} {od1 an1 : Option Addr} {sl1 : Array (Option Value)} {oc1 kV1 dc1 pm1 ct1 : Value} {cd1 : Value}
    (a1 : PySem.W.nsIn K mainGlobals "common" = some (some (.ref f1))) (l1 : K.lookup f1 = some ⟨oc1, od1, .func (PySem.W.fnOf "common" "common" (defArgs s_common) (defBody s_common) (defScope s_common) .none kV1 dc1 pm1 an1 cd1 ct1), sl1⟩) (c1 : PySem.W.codeIn K cd1 "common" = true) (k1 : PySem.W.keepIn K (.ref f1) = true)
    {f2 : Addr} {od2 an2 : Option Addr} {sl2 : Array (Option Value)} {oc2 kV2 dc2 pm2 ct2 : Value} {cd2 : Value}
    (a2 : PySem.W.nsIn K mainGlobals "look" = some (some (.ref f2))) (l2 : K.lookup f2 = some ⟨oc2, od2, .func (PySem.W.fnOf "look" "look" (defArgs s_look) (defBody s_look) (defScope s_look) .none kV2 dc2 pm2 an2 cd2 ct2), sl2⟩) (c2 : PySem.W.codeIn K cd2 "look" = true) (k2 : PySem.W.keepIn K (.ref f2) = true)
    {f3 : Addr} {od3 an3 : Option Addr} {sl3 : Array (Option Value)} {oc3 kV3 dc3 pm3 ct3 : Value} {cd3 : Value}
    (a3 : PySem.W.nsIn K mainGlobals "need_apart" = some (some (.ref f3))) (l3 : K.lookup f3 = some ⟨oc3, od3, .func (PySem.W.fnOf "need_apart" "need_apart" (defArgs s_need_apart) (defBody s_need_apart) (defScope s_need_apart) .none kV3 dc3 pm3 an3 cd3 ct3), sl3⟩) (c3 : PySem.W.codeIn K cd3 "need_apart" = true) (k3 : PySem.W.keepIn K (.ref f3) = true)
    {f4 : Addr} {od4 an4 : Option Addr} {sl4 : Array (Option Value)} {oc4 kV4 dc4 pm4 ct4 : Value} {cd4 : Value}
    (a4 : PySem.W.nsIn K mainGlobals "inverse" = some (some (.ref f4))) (l4 : K.lookup f4 = some ⟨oc4, od4, .func (PySem.W.fnOf "inverse" "inverse" (defArgs s_inverse) (defBody s_inverse) (defScope s_inverse) .none kV4 dc4 pm4 an4 cd4 ct4), sl4⟩) (c4 : PySem.W.codeIn K cd4 "inverse" = true) (k4 : PySem.W.keepIn K (.ref f4) = true)
    {f5 : Addr} {od5 an5 : Option Addr} {sl5 : Array (Option Value)} {oc5 kV5 dc5 pm5 ct5 : Value} {cd5 : Value}
    (a5 : PySem.W.nsIn K mainGlobals "turns_of" = some (some (.ref f5))) (l5 : K.lookup f5 = some ⟨oc5, od5, .func (PySem.W.fnOf "turns_of" "turns_of" (defArgs s_turns_of) (defBody s_turns_of) (defScope s_turns_of) .none kV5 dc5 pm5 an5 cd5 ct5), sl5⟩) (c5 : PySem.W.codeIn K cd5 "turns_of" = true) (k5 : PySem.W.keepIn K (.ref f5) = true)
    {f6 : Addr} {od6 an6 : Option Addr} {sl6 : Array (Option Value)} {oc6 kV6 dc6 pm6 ct6 : Value} {cd6 : Value}
    (a6 : PySem.W.nsIn K mainGlobals "order_of" = some (some (.ref f6))) (l6 : K.lookup f6 = some ⟨oc6, od6, .func (PySem.W.fnOf "order_of" "order_of" (defArgs s_order_of) (defBody s_order_of) (defScope s_order_of) .none kV6 dc6 pm6 an6 cd6 ct6), sl6⟩) (c6 : PySem.W.codeIn K cd6 "order_of" = true) (k6 : PySem.W.keepIn K (.ref f6) = true)
    {f7 : Addr} {od7 an7 : Option Addr} {sl7 : Array (Option Value)} {oc7 kV7 dc7 pm7 ct7 : Value} {cd7 : Value}
    (a7 : PySem.W.nsIn K mainGlobals "units_of" = some (some (.ref f7))) (l7 : K.lookup f7 = some ⟨oc7, od7, .func (PySem.W.fnOf "units_of" "units_of" (defArgs s_units_of) (defBody s_units_of) (defScope s_units_of) .none kV7 dc7 pm7 an7 cd7 ct7), sl7⟩) (c7 : PySem.W.codeIn K cd7 "units_of" = true) (k7 : PySem.W.keepIn K (.ref f7) = true)
    {f8 : Addr} {od8 an8 : Option Addr} {sl8 : Array (Option Value)} {oc8 kV8 dc8 pm8 ct8 : Value} {cd8 : Value}
    (a8 : PySem.W.nsIn K mainGlobals "coprimes" = some (some (.ref f8))) (l8 : K.lookup f8 = some ⟨oc8, od8, .func (PySem.W.fnOf "coprimes" "coprimes" (defArgs s_coprimes) (defBody s_coprimes) (defScope s_coprimes) .none kV8 dc8 pm8 an8 cd8 ct8), sl8⟩) (c8 : PySem.W.codeIn K cd8 "coprimes" = true) (k8 : PySem.W.keepIn K (.ref f8) = true)
    {f9 : Addr} {od9 an9 : Option Addr} {sl9 : Array (Option Value)} {oc9 kV9 dc9 pm9 ct9 : Value} {cd9 : Value}
    (a9 : PySem.W.nsIn K mainGlobals "least_root" = some (some (.ref f9))) (l9 : K.lookup f9 = some ⟨oc9, od9, .func (PySem.W.fnOf "least_root" "least_root" (defArgs s_least_root) (defBody s_least_root) (defScope s_least_root) .none kV9 dc9 pm9 an9 cd9 ct9), sl9⟩) (c9 : PySem.W.codeIn K cd9 "least_root" = true) (k9 : PySem.W.keepIn K (.ref f9) = true)
    {f10 : Addr} {od10 an10 : Option Addr} {sl10 : Array (Option Value)} {oc10 kV10 dc10 pm10 ct10 : Value} {cd10 : Value}
    (a10 : PySem.W.nsIn K mainGlobals "roots" = some (some (.ref f10))) (l10 : K.lookup f10 = some ⟨oc10, od10, .func (PySem.W.fnOf "roots" "roots" (defArgs s_roots) (defBody s_roots) (defScope s_roots) .none kV10 dc10 pm10 an10 cd10 ct10), sl10⟩) (c10 : PySem.W.codeIn K cd10 "roots" = true) (k10 : PySem.W.keepIn K (.ref f10) = true)
    {f11 : Addr} {od11 an11 : Option Addr} {sl11 : Array (Option Value)} {oc11 kV11 dc11 pm11 ct11 : Value} {cd11 : Value}
    (a11 : PySem.W.nsIn K mainGlobals "log_of" = some (some (.ref f11))) (l11 : K.lookup f11 = some ⟨oc11, od11, .func (PySem.W.fnOf "log_of" "log_of" (defArgs s_log_of) (defBody s_log_of) (defScope s_log_of) .none kV11 dc11 pm11 an11 cd11 ct11), sl11⟩) (c11 : PySem.W.codeIn K cd11 "log_of" = true) (k11 : PySem.W.keepIn K (.ref f11) = true)
    {f12 : Addr} {od12 an12 : Option Addr} {sl12 : Array (Option Value)} {oc12 kV12 dc12 pm12 ct12 : Value} {cd12 : Value}
    (a12 : PySem.W.nsIn K mainGlobals "is_pair" = some (some (.ref f12))) (l12 : K.lookup f12 = some ⟨oc12, od12, .func (PySem.W.fnOf "is_pair" "is_pair" (defArgs s_is_pair) (defBody s_is_pair) (defScope s_is_pair) .none kV12 dc12 pm12 an12 cd12 ct12), sl12⟩) (c12 : PySem.W.codeIn K cd12 "is_pair" = true) (k12 : PySem.W.keepIn K (.ref f12) = true)
    {f13 : Addr} {od13 an13 : Option Addr} {sl13 : Array (Option Value)} {oc13 kV13 dc13 pm13 ct13 : Value} {cd13 : Value}
    (a13 : PySem.W.nsIn K mainGlobals "met" = some (some (.ref f13))) (l13 : K.lookup f13 = some ⟨oc13, od13, .func (PySem.W.fnOf "met" "met" (defArgs s_met) (defBody s_met) (defScope s_met) .none kV13 dc13 pm13 an13 cd13 ct13), sl13⟩) (c13 : PySem.W.codeIn K cd13 "met" = true) (k13 : PySem.W.keepIn K (.ref f13) = true)
    {f14 : Addr} {od14 an14 : Option Addr} {sl14 : Array (Option Value)} {oc14 kV14 dc14 pm14 ct14 : Value} {cd14 : Value}
    (a14 : PySem.W.nsIn K mainGlobals "_law_cell" = some (some (.ref f14))) (l14 : K.lookup f14 = some ⟨oc14, od14, .func (PySem.W.fnOf "_law_cell" "_law_cell" (defArgs s__law_cell) (defBody s__law_cell) (defScope s__law_cell) .none kV14 dc14 pm14 an14 cd14 ct14), sl14⟩) (c14 : PySem.W.codeIn K cd14 "_law_cell" = true) (k14 : PySem.W.keepIn K (.ref f14) = true)
    {f15 : Addr} {od15 an15 : Option Addr} {sl15 : Array (Option Value)} {oc15 kV15 dc15 pm15 ct15 : Value} {cd15 : Value}
    (a15 : PySem.W.nsIn K mainGlobals "_law_drawn" = some (some (.ref f15))) (l15 : K.lookup f15 = some ⟨oc15, od15, .func (PySem.W.fnOf "_law_drawn" "_law_drawn" (defArgs s__law_drawn) (defBody s__law_drawn) (defScope s__law_drawn) .none kV15 dc15 pm15 an15 cd15 ct15), sl15⟩) (c15 : PySem.W.codeIn K cd15 "_law_drawn" = true) (k15 : PySem.W.keepIn K (.ref f15) = true)
    {f16 : Addr} {od16 an16 : Option Addr} {sl16 : Array (Option Value)} {oc16 kV16 dc16 pm16 ct16 : Value} {cd16 : Value}
    (a16 : PySem.W.nsIn K mainGlobals "_law_word" = some (some (.ref f16))) (l16 : K.lookup f16 = some ⟨oc16, od16, .func (PySem.W.fnOf "_law_word" "_law_word" (defArgs s__law_word) (defBody s__law_word) (defScope s__law_word) .none kV16 dc16 pm16 an16 cd16 ct16), sl16⟩) (c16 : PySem.W.codeIn K cd16 "_law_word" = true) (k16 : PySem.W.keepIn K (.ref f16) = true)
    {f17 : Addr} {od17 an17 : Option Addr} {sl17 : Array (Option Value)} {oc17 kV17 dc17 pm17 ct17 : Value} {cA17 : Addr}
    (a17 : PySem.W.nsIn K mainGlobals "_law_all" = some (some (.ref f17))) (l17 : K.lookup f17 = some ⟨oc17, od17, .func (PySem.W.fnOf "_law_all" "_law_all" (defArgs s__law_all) (defBody s__law_all) (defScope s__law_all) .none kV17 dc17 pm17 an17 (.ref cA17) ct17), sl17⟩) (c17 : PySem.W.codeIn K (.ref cA17) "_law_all" = true) (k17 : PySem.W.keepIn K (.ref f17) = true)
    {te17 : Value} {td17 : Option Addr} {tv17 : Array Value} {ts17 : Array (Option Value)} {tP17 : Addr} (tl17 : K.lookup cA17 = some ⟨te17, td17, .fields tv17, ts17⟩) (tp17 : tv17[11]? = some (.ref tP17)) (tn17 : K.lookup tP17 = none) (th17 : PySem.W.codeHdIn K cA17 tP17 = true) (tt17 : TabOf K mg h "_law_all")
    {f18 : Addr} {od18 an18 : Option Addr} {sl18 : Array (Option Value)} {oc18 kV18 dc18 pm18 ct18 : Value} {cA18 : Addr}
    (a18 : PySem.W.nsIn K mainGlobals "law" = some (some (.ref f18))) (l18 : K.lookup f18 = some ⟨oc18, od18, .func (PySem.W.fnOf "law" "law" (defArgs s_law) (defBody s_law) (defScope s_law) .none kV18 dc18 pm18 an18 (.ref cA18) ct18), sl18⟩) (c18 : PySem.W.codeIn K (.ref cA18) "law" = true) (k18 : PySem.W.keepIn K (.ref f18) = true)
    {te18 : Value} {td18 : Option Addr} {tv18 : Array Value} {ts18 : Array (Option Value)} {tP18 : Addr} (tl18 : K.lookup cA18 = some ⟨te18, td18, .fields tv18, ts18⟩) (tp18 : tv18[11]? = some (.ref tP18)) (tn18 : K.lookup tP18 = none) (th18 : PySem.W.codeHdIn K cA18 tP18 = true) (tt18 : TabOf K mg h "law")
    {f19 : Addr} {od19 an19 : Option Addr} {sl19 : Array (Option Value)} {oc19 kV19 dc19 pm19 ct19 : Value} {cd19 : Value}
    (a19 : PySem.W.nsIn K mainGlobals "_law_told" = some (some (.ref f19))) (l19 : K.lookup f19 = some ⟨oc19, od19, .func (PySem.W.fnOf "_law_told" "_law_told" (defArgs s__law_told) (defBody s__law_told) (defScope s__law_told) .none kV19 dc19 pm19 an19 cd19 ct19), sl19⟩) (c19 : PySem.W.codeIn K cd19 "_law_told" = true) (k19 : PySem.W.keepIn K (.ref f19) = true)
    {eSieveError : Addr} (gSieveError : PySem.W.nsIn K mainGlobals "SieveError" = some (some (.ref eSieveError)))    {eBadNumber : Addr} (gBadNumber : PySem.W.nsIn K mainGlobals "BadNumber" = some (some (.ref eBadNumber)))    {eNoWay : Addr} (gNoWay : PySem.W.nsIn K mainGlobals "NoWay" = some (some (.ref eNoWay)))    {eBadName : Addr} (gBadName : PySem.W.nsIn K mainGlobals "BadName" = some (some (.ref eBadName)))    {eUnlike : Addr} (gUnlike : PySem.W.nsIn K mainGlobals "Unlike" = some (some (.ref eUnlike)))    {eBadTable : Addr} (gBadTable : PySem.W.nsIn K mainGlobals "BadTable" = some (some (.ref eBadTable)))    {eFull : Addr} (gFull : PySem.W.nsIn K mainGlobals "Full" = some (some (.ref eFull)))    {eBadRule : Addr} (gBadRule : PySem.W.nsIn K mainGlobals "BadRule" = some (some (.ref eBadRule)))    {eBadSums : Addr} (gBadSums : PySem.W.nsIn K mainGlobals "BadSums" = some (some (.ref eBadSums)))    {eBadText : Addr} (gBadText : PySem.W.nsIn K mainGlobals "BadText" = some (some (.ref eBadText)))    {eNothing : Addr} (gNothing : PySem.W.nsIn K mainGlobals "Nothing" = some (some (.ref eNothing)))    {eUsed : Addr} (gUsed : PySem.W.nsIn K mainGlobals "Used" = some (some (.ref eUsed)))
    (eB : errsB K eSieveError [eBadTable, eUnlike, eNoWay, eBadName, eBadNumber, eBadSums, eBadRule, eFull, eUsed, eNothing, eBadText] = true)
    (tD : [tP17, tP18].Nodup)
    (z_int : PySem.W.nsIn K mainGlobals "int" = some none)    (z_isinstance : PySem.W.nsIn K mainGlobals "isinstance" = some none)    (z_bool : PySem.W.nsIn K mainGlobals "bool" = some none)    (z_range : PySem.W.nsIn K mainGlobals "range" = some none)    (z_len : PySem.W.nsIn K mainGlobals "len" = some none)    (z_tuple : PySem.W.nsIn K mainGlobals "tuple" = some none)    (z_any : PySem.W.nsIn K mainGlobals "any" = some none)    (z_list : PySem.W.nsIn K mainGlobals "list" = some none)    (z_all : PySem.W.nsIn K mainGlobals "all" = some none)    (z_sum : PySem.W.nsIn K mainGlobals "sum" = some none)    (z_ValueError : PySem.W.nsIn K mainGlobals "ValueError" = some none)    (z_min : PySem.W.nsIn K mainGlobals "min" = some none)    (z_max : PySem.W.nsIn K mainGlobals "max" = some none) {tkMOST_NUMBER : Tok} (vMOST_NUMBER : PySem.W.nsIn K mainGlobals "MOST_NUMBER" = some (some (.int 1000000000 tkMOST_NUMBER))) {tkMOST_MODULUS : Tok} (vMOST_MODULUS : PySem.W.nsIn K mainGlobals "MOST_MODULUS" = some (some (.int 2000 tkMOST_MODULUS))) {tkMOST_PAIRS : Tok} (vMOST_PAIRS : PySem.W.nsIn K mainGlobals "MOST_PAIRS" = some (some (.int 6 tkMOST_PAIRS))) :
    ∃ (G : Pm) (fd : FuncData) (cs : List (Addr × Addr × Str)), G.K = K ∧ (∀ p ∈ cs, h.get? p.2.1 = some { cls := .none, data := .fields #[] }) ∧ (∀ p ∈ cs, G.K.lookup p.2.1 = none) ∧ (∀ p ∈ cs, PySem.W.CodeHd h p.1 p.2.1) ∧
      (∀ (s : Shared) (u : Value), BindsTo s fd ⟨[u], []⟩ [("_law_script", u)]) ∧
      ∀ base : Heap, G.K.In base → base.Ns mainGlobals mg → (∀ p ∈ cs, TabB base mg p.1 p.2.1) → FnOk P w G.K mg base (CXN P w) 9 fa fd ["_law_script"] (sp1 (LawR G (cs.map fun p => p.2))) := by
  have e := hfa.symm.trans (PySem.W.mg_of X GX a18)
  cases e
  refine ⟨{ K := K, SieveError := eSieveError, BadNumber := eBadNumber, NoWay := eNoWay, BadName := eBadName, Unlike := eUnlike, BadTable := eBadTable, Full := eFull, BadRule := eBadRule, BadSums := eBadSums, BadText := eBadText, Nothing := eNothing, Used := eUsed }, PySem.W.fnOf "law" "law" (defArgs s_law) (defBody s_law) (defScope s_law) .none kV18 dc18 pm18 an18 (.ref cA18) ct18, [(cA17, tP17, ("_law_all" ++ ".<locals>." : Str) ++ "<lambda>"), (cA18, tP18, ("law" ++ ".<locals>." : Str) ++ "<lambda>")], rfl, ?_, ?_, ?_, fun s u => .of_eq rfl, fun base _ _ TBA => ?_⟩
  · intro p hp
    simp only [List.mem_cons, List.not_mem_nil, or_false] at hp
    rcases hp with rfl | rfl
    · exact tt17 _ _ _ _ _ _ _ _ _ (PySem.W.mg_of X GX a17) l17 rfl rfl tl17 tp17
    · exact tt18 _ _ _ _ _ _ _ _ _ (PySem.W.mg_of X GX a18) l18 rfl rfl tl18 tp18
  · intro p hp
    simp only [List.mem_cons, List.not_mem_nil, or_false] at hp
    rcases hp with rfl | rfl
    · exact tn17
    · exact tn18
  · intro p hp
    simp only [List.mem_cons, List.not_mem_nil, or_false] at hp
    rcases hp with rfl | rfl
    · exact PySem.W.codeHd_of_K X th17
    · exact PySem.W.codeHd_of_K X th18
  have F_law := funC_mk (st := s_law) l18 c18 k18
  have errs := errsOk_of eB
  have m_int : mg "int" = none := PySem.W.mg_none_of X GX z_int
  have m_isinstance : mg "isinstance" = none := PySem.W.mg_none_of X GX z_isinstance
  have m_bool : mg "bool" = none := PySem.W.mg_none_of X GX z_bool
  have m_range : mg "range" = none := PySem.W.mg_none_of X GX z_range
  have m_len : mg "len" = none := PySem.W.mg_none_of X GX z_len
  have m_tuple : mg "tuple" = none := PySem.W.mg_none_of X GX z_tuple
  have m_any : mg "any" = none := PySem.W.mg_none_of X GX z_any
  have m_list : mg "list" = none := PySem.W.mg_none_of X GX z_list
  have m_all : mg "all" = none := PySem.W.mg_none_of X GX z_all
  have m_sum : mg "sum" = none := PySem.W.mg_none_of X GX z_sum
  have m_ValueError : mg "ValueError" = none := PySem.W.mg_none_of X GX z_ValueError
  have m_min : mg "min" = none := PySem.W.mg_none_of X GX z_min
  have m_max : mg "max" = none := PySem.W.mg_none_of X GX z_max
  have x_BadNumber : ErrAt K mg "BadNumber" eBadNumber := (errs.one eBadNumber (by simp)).at (PySem.W.mg_of X GX gBadNumber)
  have x_NoWay : ErrAt K mg "NoWay" eNoWay := (errs.one eNoWay (by simp)).at (PySem.W.mg_of X GX gNoWay)
  have x_BadName : ErrAt K mg "BadName" eBadName := (errs.one eBadName (by simp)).at (PySem.W.mg_of X GX gBadName)
  have x_Unlike : ErrAt K mg "Unlike" eUnlike := (errs.one eUnlike (by simp)).at (PySem.W.mg_of X GX gUnlike)
  have x_BadTable : ErrAt K mg "BadTable" eBadTable := (errs.one eBadTable (by simp)).at (PySem.W.mg_of X GX gBadTable)
  have x_Full : ErrAt K mg "Full" eFull := (errs.one eFull (by simp)).at (PySem.W.mg_of X GX gFull)
  have x_BadRule : ErrAt K mg "BadRule" eBadRule := (errs.one eBadRule (by simp)).at (PySem.W.mg_of X GX gBadRule)
  have x_BadSums : ErrAt K mg "BadSums" eBadSums := (errs.one eBadSums (by simp)).at (PySem.W.mg_of X GX gBadSums)
  have x_BadText : ErrAt K mg "BadText" eBadText := (errs.one eBadText (by simp)).at (PySem.W.mg_of X GX gBadText)
  have x_Nothing : ErrAt K mg "Nothing" eNothing := (errs.one eNothing (by simp)).at (PySem.W.mg_of X GX gNothing)
  have x_Used : ErrAt K mg "Used" eUsed := (errs.one eUsed (by simp)).at (PySem.W.mg_of X GX gUsed)
  have c_MOST_NUMBER := (⟨_, PySem.W.mg_of X GX vMOST_NUMBER⟩ : ∃ t, mg "MOST_NUMBER" = some (.int 1000000000 t))
  have c_MOST_MODULUS := (⟨_, PySem.W.mg_of X GX vMOST_MODULUS⟩ : ∃ t, mg "MOST_MODULUS" = some (.int 2000 t))
  have c_MOST_PAIRS := (⟨_, PySem.W.mg_of X GX vMOST_PAIRS⟩ : ∃ t, mg "MOST_PAIRS" = some (.int 6 t))
  have memW : ∀ C nm, WE { K := K, SieveError := eSieveError, BadNumber := eBadNumber, NoWay := eNoWay, BadName := eBadName, Unlike := eUnlike, BadTable := eBadTable, Full := eFull, BadRule := eBadRule, BadSums := eBadSums, BadText := eBadText, Nothing := eNothing, Used := eUsed } C nm → C ∈ [eBadTable, eUnlike, eNoWay, eBadName, eBadNumber, eBadSums, eBadRule, eFull, eUsed, eNothing, eBadText] := fun C nm h => by
    have z : C ∈ (errsL { K := K, SieveError := eSieveError, BadNumber := eBadNumber, NoWay := eNoWay, BadName := eBadName, Unlike := eUnlike, BadTable := eBadTable, Full := eFull, BadRule := eBadRule, BadSums := eBadSums, BadText := eBadText, Nothing := eNothing, Used := eUsed }).map (·.1) := List.mem_map.mpr ⟨(C, nm), h, rfl⟩
    exact z
  have W_ := ok__law_word (P := P) (w := w) (G := { K := K, SieveError := eSieveError, BadNumber := eBadNumber, NoWay := eNoWay, BadName := eBadName, Unlike := eUnlike, BadTable := eBadTable, Full := eFull, BadRule := eBadRule, BadSums := eBadSums, BadText := eBadText, Nothing := eNothing, Used := eUsed }) (base := base) (defAt_mk X GX a16 l16 c16 k16) m_isinstance m_int m_sum m_ValueError x_BadName x_NoWay x_Unlike x_BadTable x_Full x_BadRule x_BadSums x_BadNumber x_BadText x_Nothing x_Used (fun C nm h => (errs.one C (memW C nm h)).ex) (pure__law_word _ errs)
  have TD : ToldAt P w K mg base eSieveError 1 (WE { K := K, SieveError := eSieveError, BadNumber := eBadNumber, NoWay := eNoWay, BadName := eBadName, Unlike := eUnlike, BadTable := eBadTable, Full := eFull, BadRule := eBadRule, BadSums := eBadSums, BadText := eBadText, Nothing := eNothing, Used := eUsed }) s__law_told := { dat := defAt_mk X GX a19 l19 c19 k19, sco := sc__law_told, loc := by decide +kernel, loc0 := by decide +kernel, gS := by decide +kernel, gW := by decide +kernel, bdy := ⟨_, _, _, _, _, _, _, _, _, _, rfl⟩, bnd := fun _ _ _ _ _ _ us hl => match us, hl with | [_], _ => rfl, wrd := W_, mS := PySem.W.mg_of X GX gSieveError, exm := fun C nm h => (errs.one C (memW C nm h)).ma }
  have TB17 : TabB base mg cA17 tP17 := TBA (cA17, tP17, ("_law_all" ++ ".<locals>." : Str) ++ "<lambda>") (by simp)
  have hmT17 : (tP17, ("_law_all" ++ ".<locals>." : Str) ++ "<lambda>") ∈ ([(cA17, tP17, ("_law_all" ++ ".<locals>." : Str) ++ "<lambda>"), (cA18, tP18, ("law" ++ ".<locals>." : Str) ++ "<lambda>")].map fun p => p.2) := by simp
  have hu17 : ∀ p ∈ ([(cA17, tP17, ("_law_all" ++ ".<locals>." : Str) ++ "<lambda>"), (cA18, tP18, ("law" ++ ".<locals>." : Str) ++ "<lambda>")].map fun p => p.2), p.1 = tP17 → p.2 = ("_law_all" ++ ".<locals>." : Str) ++ "<lambda>" := fun p hp e => by
    simp only [List.map_cons, List.map_nil, List.mem_cons, List.not_mem_nil, or_false] at hp
    simp only [List.nodup_cons, List.mem_cons, List.not_mem_nil, or_false, not_or] at tD
    rcases hp with rfl | rfl <;> simp_all
  have TB18 : TabB base mg cA18 tP18 := TBA (cA18, tP18, ("law" ++ ".<locals>." : Str) ++ "<lambda>") (by simp)
  have hmT18 : (tP18, ("law" ++ ".<locals>." : Str) ++ "<lambda>") ∈ ([(cA17, tP17, ("_law_all" ++ ".<locals>." : Str) ++ "<lambda>"), (cA18, tP18, ("law" ++ ".<locals>." : Str) ++ "<lambda>")].map fun p => p.2) := by simp
  have hu18 : ∀ p ∈ ([(cA17, tP17, ("_law_all" ++ ".<locals>." : Str) ++ "<lambda>"), (cA18, tP18, ("law" ++ ".<locals>." : Str) ++ "<lambda>")].map fun p => p.2), p.1 = tP18 → p.2 = ("law" ++ ".<locals>." : Str) ++ "<lambda>" := fun p hp e => by
    simp only [List.map_cons, List.map_nil, List.mem_cons, List.not_mem_nil, or_false] at hp
    simp only [List.nodup_cons, List.mem_cons, List.not_mem_nil, or_false, not_or] at tD
    rcases hp with rfl | rfl <;> simp_all
  have C_need_number := ok_need_number (P := P) (w := w) (G := { K := K, SieveError := eSieveError, BadNumber := eBadNumber, NoWay := eNoWay, BadName := eBadName, Unlike := eUnlike, BadTable := eBadTable, Full := eFull, BadRule := eBadRule, BadSums := eBadSums, BadText := eBadText, Nothing := eNothing, Used := eUsed }) (base := base) (defAt_mk X GX a0 l0 c0 k0) m_int m_isinstance m_bool x_BadNumber (pure_need_number _)
  have C_common := ok_common (P := P) (w := w) (G := { K := K, SieveError := eSieveError, BadNumber := eBadNumber, NoWay := eNoWay, BadName := eBadName, Unlike := eUnlike, BadTable := eBadTable, Full := eFull, BadRule := eBadRule, BadSums := eBadSums, BadText := eBadText, Nothing := eNothing, Used := eUsed }) (base := base) (defAt_mk X GX a1 l1 c1 k1)  (pure_common _)
  have C_look := ok_look (P := P) (w := w) (G := { K := K, SieveError := eSieveError, BadNumber := eBadNumber, NoWay := eNoWay, BadName := eBadName, Unlike := eUnlike, BadTable := eBadTable, Full := eFull, BadRule := eBadRule, BadSums := eBadSums, BadText := eBadText, Nothing := eNothing, Used := eUsed }) (base := base) (defAt_mk X GX a2 l2 c2 k2) C_need_number c_MOST_NUMBER c_MOST_MODULUS (pure_look _)
  have C_need_apart := ok_need_apart (P := P) (w := w) (G := { K := K, SieveError := eSieveError, BadNumber := eBadNumber, NoWay := eNoWay, BadName := eBadName, Unlike := eUnlike, BadTable := eBadTable, Full := eFull, BadRule := eBadRule, BadSums := eBadSums, BadText := eBadText, Nothing := eNothing, Used := eUsed }) (base := base) (defAt_mk X GX a3 l3 c3 k3) C_common x_NoWay (pure_need_apart _)
  have C_inverse := ok_inverse (P := P) (w := w) (G := { K := K, SieveError := eSieveError, BadNumber := eBadNumber, NoWay := eNoWay, BadName := eBadName, Unlike := eUnlike, BadTable := eBadTable, Full := eFull, BadRule := eBadRule, BadSums := eBadSums, BadText := eBadText, Nothing := eNothing, Used := eUsed }) (base := base) (defAt_mk X GX a4 l4 c4 k4) C_look C_need_apart (pure_inverse _)
  have C_turns_of := ok_turns_of (P := P) (w := w) (G := { K := K, SieveError := eSieveError, BadNumber := eBadNumber, NoWay := eNoWay, BadName := eBadName, Unlike := eUnlike, BadTable := eBadTable, Full := eFull, BadRule := eBadRule, BadSums := eBadSums, BadText := eBadText, Nothing := eNothing, Used := eUsed }) (base := base) (defAt_mk X GX a5 l5 c5 k5)  (pure_turns_of _)
  have C_order_of := ok_order_of (P := P) (w := w) (G := { K := K, SieveError := eSieveError, BadNumber := eBadNumber, NoWay := eNoWay, BadName := eBadName, Unlike := eUnlike, BadTable := eBadTable, Full := eFull, BadRule := eBadRule, BadSums := eBadSums, BadText := eBadText, Nothing := eNothing, Used := eUsed }) (base := base) (defAt_mk X GX a6 l6 c6 k6) C_look C_need_apart C_turns_of (pure_order_of _)
  have C_units_of := ok_units_of (P := P) (w := w) (G := { K := K, SieveError := eSieveError, BadNumber := eBadNumber, NoWay := eNoWay, BadName := eBadName, Unlike := eUnlike, BadTable := eBadTable, Full := eFull, BadRule := eBadRule, BadSums := eBadSums, BadText := eBadText, Nothing := eNothing, Used := eUsed }) (base := base) (defAt_mk X GX a7 l7 c7 k7) C_common m_range (pure_units_of _)
  have C_coprimes := ok_coprimes (P := P) (w := w) (G := { K := K, SieveError := eSieveError, BadNumber := eBadNumber, NoWay := eNoWay, BadName := eBadName, Unlike := eUnlike, BadTable := eBadTable, Full := eFull, BadRule := eBadRule, BadSums := eBadSums, BadText := eBadText, Nothing := eNothing, Used := eUsed }) (base := base) (defAt_mk X GX a8 l8 c8 k8) C_need_number C_units_of c_MOST_MODULUS (pure_coprimes _)
  have C_least_root := ok_least_root (P := P) (w := w) (G := { K := K, SieveError := eSieveError, BadNumber := eBadNumber, NoWay := eNoWay, BadName := eBadName, Unlike := eUnlike, BadTable := eBadTable, Full := eFull, BadRule := eBadRule, BadSums := eBadSums, BadText := eBadText, Nothing := eNothing, Used := eUsed }) (base := base) (defAt_mk X GX a9 l9 c9 k9) C_need_number C_units_of C_turns_of m_len c_MOST_MODULUS (pure_least_root _)
  have C_roots := ok_roots (P := P) (w := w) (G := { K := K, SieveError := eSieveError, BadNumber := eBadNumber, NoWay := eNoWay, BadName := eBadName, Unlike := eUnlike, BadTable := eBadTable, Full := eFull, BadRule := eBadRule, BadSums := eBadSums, BadText := eBadText, Nothing := eNothing, Used := eUsed }) (base := base) (defAt_mk X GX a10 l10 c10 k10) C_look m_range (pure_roots _)
  have C_log_of := ok_log_of (P := P) (w := w) (G := { K := K, SieveError := eSieveError, BadNumber := eBadNumber, NoWay := eNoWay, BadName := eBadName, Unlike := eUnlike, BadTable := eBadTable, Full := eFull, BadRule := eBadRule, BadSums := eBadSums, BadText := eBadText, Nothing := eNothing, Used := eUsed }) (base := base) (defAt_mk X GX a11 l11 c11 k11) C_need_number C_look m_range c_MOST_NUMBER (pure_log_of _)
  have C_is_pair := ok_is_pair (P := P) (w := w) (G := { K := K, SieveError := eSieveError, BadNumber := eBadNumber, NoWay := eNoWay, BadName := eBadName, Unlike := eUnlike, BadTable := eBadTable, Full := eFull, BadRule := eBadRule, BadSums := eBadSums, BadText := eBadText, Nothing := eNothing, Used := eUsed }) (base := base) (defAt_mk X GX a12 l12 c12 k12) m_tuple m_isinstance m_len m_int m_bool m_any c_MOST_MODULUS (pure_is_pair _)
  have C_met := ok_met (P := P) (w := w) (G := { K := K, SieveError := eSieveError, BadNumber := eBadNumber, NoWay := eNoWay, BadName := eBadName, Unlike := eUnlike, BadTable := eBadTable, Full := eFull, BadRule := eBadRule, BadSums := eBadSums, BadText := eBadText, Nothing := eNothing, Used := eUsed }) (base := base) (defAt_mk X GX a13 l13 c13 k13) C_is_pair C_common m_list m_isinstance m_len m_all x_BadNumber c_MOST_PAIRS (pure_met _)
  have C__law_cell := ok__law_cell (P := P) (w := w) (G := { K := K, SieveError := eSieveError, BadNumber := eBadNumber, NoWay := eNoWay, BadName := eBadName, Unlike := eUnlike, BadTable := eBadTable, Full := eFull, BadRule := eBadRule, BadSums := eBadSums, BadText := eBadText, Nothing := eNothing, Used := eUsed }) (base := base) (defAt_mk X GX a14 l14 c14 k14) m_len (pure__law_cell _)
  have C__law_drawn := ok__law_drawn (P := P) (w := w) (G := { K := K, SieveError := eSieveError, BadNumber := eBadNumber, NoWay := eNoWay, BadName := eBadName, Unlike := eUnlike, BadTable := eBadTable, Full := eFull, BadRule := eBadRule, BadSums := eBadSums, BadText := eBadText, Nothing := eNothing, Used := eUsed }) (base := base) (defAt_mk X GX a15 l15 c15 k15)  (pure__law_drawn _)
  have C__law_all := ok__law_all (P := P) (w := w) (G := { K := K, SieveError := eSieveError, BadNumber := eBadNumber, NoWay := eNoWay, BadName := eBadName, Unlike := eUnlike, BadTable := eBadTable, Full := eFull, BadRule := eBadRule, BadSums := eBadSums, BadText := eBadText, Nothing := eNothing, Used := eUsed }) (base := base) (T := ([(cA17, tP17, ("_law_all" ++ ".<locals>." : Str) ++ "<lambda>"), (cA18, tP18, ("law" ++ ".<locals>." : Str) ++ "<lambda>")].map fun p => p.2)) ⟨_, _, funC_mk l17 c17 k17, PySem.W.mg_of X GX a17⟩ TD TB17 hmT17 hu17 C_inverse C_order_of C_roots C_log_of (pure__law_all _)
  exact ok_law (G := { K := K, SieveError := eSieveError, BadNumber := eBadNumber, NoWay := eNoWay, BadName := eBadName, Unlike := eUnlike, BadTable := eBadTable, Full := eFull, BadRule := eBadRule, BadSums := eBadSums, BadText := eBadText, Nothing := eNothing, Used := eUsed }) (T := ([(cA17, tP17, ("_law_all" ++ ".<locals>." : Str) ++ "<lambda>"), (cA18, tP18, ("law" ++ ".<locals>." : Str) ++ "<lambda>")].map fun p => p.2)) F_law TD TB18 hmT18 hu18 C__law_drawn C__law_cell C__law_all C_coprimes C_least_root C_inverse C_order_of C_met C_log_of C_roots m_len m_min m_max m_range (pure_law _)
end Sv
open PySem PySem.W PyProof.Rows
set_option maxHeartbeats 0 in
theorem PySem.Challenge.cw_sievewright_k63_residues_refused_holds : PySem.Challenge.rw_sievewright_k63_residues_refused.Holds := by
  w_on; o_law; k_head; (case hw => w_witness2)
  k_fill
  refine Sv.walk_told (l := PySem.Challenge.rw_sievewright_k63_residues_refused) (k := 9) (x := "_law_script") rfl rfl ⟨rfl, by decide, by decide⟩ (fun w h Y => by first | exact PySem.W.kIn_of Y | exact PySem.W.km_in_of Y) ?F
  case F =>
    intro w mg fa h KX GX hmg TBS
    refine' Sv.all_mk KX GX hmg ?a0 ?l0 ?c0 ?k0 ?a1 ?l1 ?c1 ?k1 ?a2 ?l2 ?c2 ?k2 ?a3 ?l3 ?c3 ?k3 ?a4 ?l4 ?c4 ?k4 ?a5 ?l5 ?c5 ?k5 ?a6 ?l6 ?c6 ?k6 ?a7 ?l7 ?c7 ?k7 ?a8 ?l8 ?c8 ?k8 ?a9 ?l9 ?c9 ?k9 ?a10 ?l10 ?c10 ?k10 ?a11 ?l11 ?c11 ?k11 ?a12 ?l12 ?c12 ?k12 ?a13 ?l13 ?c13 ?k13 ?a14 ?l14 ?c14 ?k14 ?a15 ?l15 ?c15 ?k15 ?a16 ?l16 ?c16 ?k16 ?a17 ?l17 ?c17 ?k17 ?tl17 ?tp17 ?tn17 ?th17 ?tt17 ?a18 ?l18 ?c18 ?k18 ?tl18 ?tp18 ?tn18 ?th18 ?tt18 ?a19 ?l19 ?c19 ?k19 ?gSieveError ?gBadNumber ?gNoWay ?gBadName ?gUnlike ?gBadTable ?gFull ?gBadRule ?gBadSums ?gBadText ?gNothing ?gUsed ?eB ?tD ?z_int ?z_isinstance ?z_bool ?z_range ?z_len ?z_tuple ?z_any ?z_list ?z_all ?z_sum ?z_ValueError ?z_min ?z_max ?vMOST_NUMBER ?vMOST_MODULUS ?vMOST_PAIRS
    (case a0 => k_is)
    (case l0 => k_is)
    (case c0 => k_is)
    (case k0 => k_is)
    (case a1 => k_is)
    (case l1 => k_is)
    (case c1 => k_is)
    (case k1 => k_is)
    (case a2 => k_is)
    (case l2 => k_is)
    (case c2 => k_is)
    (case k2 => k_is)
    (case a3 => k_is)
    (case l3 => k_is)
    (case c3 => k_is)
    (case k3 => k_is)
    (case a4 => k_is)
    (case l4 => k_is)
    (case c4 => k_is)
    (case k4 => k_is)
    (case a5 => k_is)
    (case l5 => k_is)
    (case c5 => k_is)
    (case k5 => k_is)
    (case a6 => k_is)
    (case l6 => k_is)
    (case c6 => k_is)
    (case k6 => k_is)
    (case a7 => k_is)
    (case l7 => k_is)
    (case c7 => k_is)
    (case k7 => k_is)
    (case a8 => k_is)
    (case l8 => k_is)
    (case c8 => k_is)
    (case k8 => k_is)
    (case a9 => k_is)
    (case l9 => k_is)
    (case c9 => k_is)
    (case k9 => k_is)
    (case a10 => k_is)
    (case l10 => k_is)
    (case c10 => k_is)
    (case k10 => k_is)
    (case a11 => k_is)
    (case l11 => k_is)
    (case c11 => k_is)
    (case k11 => k_is)
    (case a12 => k_is)
    (case l12 => k_is)
    (case c12 => k_is)
    (case k12 => k_is)
    (case a13 => k_is)
    (case l13 => k_is)
    (case c13 => k_is)
    (case k13 => k_is)
    (case a14 => k_is)
    (case l14 => k_is)
    (case c14 => k_is)
    (case k14 => k_is)
    (case a15 => k_is)
    (case l15 => k_is)
    (case c15 => k_is)
    (case k15 => k_is)
    (case a16 => k_is)
    (case l16 => k_is)
    (case c16 => k_is)
    (case k16 => k_is)
    (case a17 => k_is)
    (case l17 => k_is)
    (case c17 => k_is)
    (case k17 => k_is)
    (case tl17 => k_is)
    (case tp17 => rfl)
    (case tn17 => kernel_rfl)
    (case th17 => kernel_rfl)
    (case tt17 => exact TBS _ (by kernel_rfl))
    (case a18 => k_is)
    (case l18 => k_is)
    (case c18 => k_is)
    (case k18 => k_is)
    (case tl18 => k_is)
    (case tp18 => rfl)
    (case tn18 => kernel_rfl)
    (case th18 => kernel_rfl)
    (case tt18 => exact TBS _ (by kernel_rfl))
    (case a19 => k_is)
    (case l19 => k_is)
    (case c19 => k_is)
    (case k19 => k_is)
    (case gSieveError => k_is)
    (case gBadNumber => k_is)
    (case gNoWay => k_is)
    (case gBadName => k_is)
    (case gUnlike => k_is)
    (case gBadTable => k_is)
    (case gFull => k_is)
    (case gBadRule => k_is)
    (case gBadSums => k_is)
    (case gBadText => k_is)
    (case gNothing => k_is)
    (case gUsed => k_is)
    (case eB => kernel_rfl)
    (case tD => decide)
    (case z_int => k_is)
    (case z_isinstance => k_is)
    (case z_bool => k_is)
    (case z_range => k_is)
    (case z_len => k_is)
    (case z_tuple => k_is)
    (case z_any => k_is)
    (case z_list => k_is)
    (case z_all => k_is)
    (case z_sum => k_is)
    (case z_ValueError => k_is)
    (case z_min => k_is)
    (case z_max => k_is)
    (case vMOST_NUMBER => k_is)
    (case vMOST_MODULUS => k_is)
    (case vMOST_PAIRS => k_is)
