import PyProof.Rows.All
import Wide.All
import OpenK.AllK
import Wide.FinOn
import HandS.ForMost
import HandS.Exc
import HandS.ExcOwn
import HandS.ExcCtx
import HandS.WordsExc
import HandS.Wide
import HandS.IsInst
import HandS.EndBits
import KE.KRevSl
import HandS.Evl
import KE.Datum
import PySem.Challenge.RW_sievewright_k62_whole_rests_together
set_option Elab.async false
set_option linter.all false
set_option maxRecDepth 100000
set_option maxHeartbeats 4000000
/-! SvBase: how the defs of a law's text are taken one by one: Pm, DefAt, Ok, pe_ok, mk_ok; names of readings. -/
namespace Sv
open PySem PySem.Spec PyProof.Rows L2
/-- the written part and where its named objects stand -/
structure Pm where
  K : PySem.W.Frag
  SieveError : Addr := 0
  BadTable : Addr := 0
  Unlike : Addr := 0
  NoWay : Addr := 0
  BadName : Addr := 0
  BadNumber : Addr := 0
  BadSums : Addr := 0
  BadRule : Addr := 0
  Full : Addr := 0
  Used : Addr := 0
  Nothing : Addr := 0
  BadText : Addr := 0
  NAMES : Addr := 0
  PARTS : Addr := 0
  SIZES : Addr := 0
  Sums : Addr := 0
  Sheet : Addr := 0
abbrev CXN (P : Program) (w : World) : CXT := L2N.CX P w
/-! ### promises by the arguments -/
abbrev R0 := Hp → VK → XK → Prop
abbrev R1 := V → Hp → VK → XK → Prop
abbrev R2' := V → V → Hp → VK → XK → Prop
abbrev R3 := V → V → V → Hp → VK → XK → Prop
abbrev R4 := V → V → V → V → Hp → VK → XK → Prop
def sp0 (R : R0) : Sp
  | [], H, Q, E => R H Q E
  | _, _, _, _ => False
def sp1 (R : R1) : Sp
  | [x], H, Q, E => R x H Q E
  | _, _, _, _ => False
def sp2 (R : R2') : Sp
  | [x, y], H, Q, E => R x y H Q E
  | _, _, _, _ => False
def sp3 (R : R3) : Sp
  | [x, y, z], H, Q, E => R x y z H Q E
  | _, _, _, _ => False
def sp4 (R : R4) : Sp
  | [x, y, z, u], H, Q, E => R x y z u H Q E
  | _, _, _, _ => False
theorem sp0_len {R : R0} : ∀ vs H Q E, sp0 R vs H Q E → vs.length = 0
  | [], _, _, _, _ => rfl
theorem sp1_len {R : R1} : ∀ vs H Q E, sp1 R vs H Q E → vs.length = 1
  | [_], _, _, _, _ => rfl
theorem sp2_len {R : R2'} : ∀ vs H Q E, sp2 R vs H Q E → vs.length = 2
  | [_, _], _, _, _, _ => rfl
theorem sp3_len {R : R3} : ∀ vs H Q E, sp3 R vs H Q E → vs.length = 3
  | [_, _, _], _, _, _, _ => rfl
theorem sp4_len {R : R4} : ∀ vs H Q E, sp4 R vs H Q E → vs.length = 4
  | [_, _, _, _], _, _, _, _ => rfl
/-- a body's ends: the value handed back, None at its end -/
abbrev dn (Q : VK) : Ends := { nx := fun _ H' => Q .non H', rt := Q }
/-! ### a def of the text -/
structure DefAt (K : PySem.W.Frag) (mg : Str → Option Value) (x : Str) (st : Stmt) : Prop where
  ex : ∃ (f : Addr) (fd : FuncData), Fun K x x st f fd ∧ mg x = some (.ref f)
structure Ok (P : Program) (w : World) (K : PySem.W.Frag) (mg : Str → Option Value) (base : Heap) (CX : CXT) (k : Nat) (x : Str) (ps : List Str) (sp : Sp) : Prop where
  ex : ∃ (f : Addr) (fd : FuncData), FnOk P w K mg base CX k f fd ps sp ∧ mg x = some (.ref f) ∧ PySem.W.keepIn K (.ref f) = true ∧ Binds K fd ps []
theorem defAt_mk {K : PySem.W.Frag} {h : Heap} {mg : Str → Option Value} {x : Str} {st : Stmt} {f : Addr} {od an : Option Addr} {sl : Array (Option Value)} {oc kV dc pm cd ct : Value} (X : K.In h) (G : h.Ns mainGlobals mg)
    (a : PySem.W.nsIn K mainGlobals x = some (some (.ref f))) (l : K.lookup f = some ⟨oc, od, .func (PySem.W.fnOf x x (defArgs st) (defBody st) (defScope st) .none kV dc pm an cd ct), sl⟩) (c : PySem.W.codeIn K cd x = true) (k : PySem.W.keepIn K (.ref f) = true) : DefAt K mg x st :=
  ⟨f, _, fun_mk l c k, PySem.W.mg_of X G a⟩
section
variable {P : Program} {w : World} {K : PySem.W.Frag} {mg : Str → Option Value} {base : Heap} {CX : CXT} {x : Str} {st : Stmt} {N ps : List Str} {k : Nat} {sp : Sp}
theorem mk_fn {f : Addr} {fd : FuncData} (F : Fun K x x st f fd) (S : FnScope N ps (defScope st)) (len : ∀ vs H Q E, sp vs H Q E → vs.length = ps.length) (t : XK → TS) (hp : ∀ vs H Q E, sp vs H Q E → t E (dn Q) (start N vs) H)
    (hd : ∀ (cdv : Value) (A : Around) (outer : List Env) (s : Shared) (H : Hp) (E : XK), Room k (A.deeper (envOfC x (defScope st) s.heap.objs.size f cdv)) → PSs (cxOf CX P w K mg base N x (defScope st) f cdv A outer s H E) (defBody st) (t E)) :
    FnOk P w K mg base CX (k + 1) f fd ps sp := by
  obtain ⟨oc, od, kV, doc, pm, an, cdv, ct, osl, rfl, lk, hcd⟩ := F.ex
  exact fn_of lk hcd S len fun A outer s H vs Q E hr hsp => ⟨t E, hd cdv A outer s H E hr, hp vs H Q E hsp⟩
theorem mk_ok (D : DefAt K mg x st) (S : FnScope N ps (defScope st))
    (hb : ∀ (kV doc pm : Value) (an : Option Addr) (cdv ct : Value) (us : List Value), us.length = ps.length → bindArgs (PySem.W.fnOf x x (defArgs st) (defBody st) (defScope st) .none kV doc pm an cdv ct) ⟨us, []⟩ = pure (ps.zip us))
    (len : ∀ vs H Q E, sp vs H Q E → vs.length = ps.length) (t : XK → TS) (hp : ∀ vs H Q E, sp vs H Q E → t E (dn Q) (start N vs) H)
    (hd : ∀ (f : Addr) (cdv : Value) (A : Around) (outer : List Env) (s : Shared) (H : Hp) (E : XK), Room k (A.deeper (envOfC x (defScope st) s.heap.objs.size f cdv)) → PSs (cxOf CX P w K mg base N x (defScope st) f cdv A outer s H E) (defBody st) (t E)) :
    Ok P w K mg base CX (k + 1) x ps sp := by
  obtain ⟨f, fd, F, hm⟩ := D.ex
  obtain ⟨oc, od, kV, doc, pm, an, cdv, ct, osl, rfl, lk, hcd⟩ := F.ex
  exact ⟨f, _, fn_of lk hcd S len fun A outer s H vs Q E hr hsp => ⟨t E, hd f cdv A outer s H E hr, hp vs H Q E hsp⟩, hm, F.kp, F.binds hb⟩
end
section
variable {X : Cx} {CX : CXT} {k j : Nat} {ps : List Str} {sp : Sp} {E : XK} {x : Str} {p pos : Pos} {e : Expr} {es : List Expr} {t : TA}
theorem pe_ok (F : Ok X.prog X.w X.K X.mg X.base CX k x ps sp) (hr : Room j X.A) (hk : k ≤ j) (hg : Gl X x) (hx : Passes CX X E)
    (ha : PA X (e :: es) t) (hdb : (x == ("__debug__" : Str)) = false := by decide) (he : starEach (e :: es) X.env = (false, eval e X.env) :: starEach es X.env := by rfl) (hpl : (backTo pos (starEach es X.env)).any (·.1) = false := by rfl) :
    PE X (.Call (.Name x p) (e :: es) [] pos) (tCall sp [] E t) := by
  obtain ⟨f, fd, F, hm, hkp, hb⟩ := F.ex
  exact pe_call F (hr.mono hk) hg hm hkp hb .nil hx ha hdb he hpl
theorem pe_ok0 (F : Ok X.prog X.w X.K X.mg X.base CX k x ps sp) (hr : Room j X.A) (hk : k ≤ j) (hg : Gl X x) (hx : Passes CX X E) (hdb : (x == ("__debug__" : Str)) = false := by decide) :
    PE X (.Call (.Name x p) [] [] pos) (tCall sp [] E tNil) := by
  obtain ⟨f, fd, F, hm, hkp, hb⟩ := F.ex
  exact pe_call0 F (hr.mono hk) hg hm hkp hb .nil hx hdb
/-- a body's callee's exception leaves the body -/
theorem psx (hs : X.stack = X.env :: X.outer) (hf : X.env.frame = some X.env.locals) (hex : X.ex = []) {E₁ : Value → Shared → Prop}
    (hx : X.xe = fun e s' => wpAny (model X.prog X.w) X.A (leaving X.env e) (fun _ s'' => L2N.CX X.prog X.w X.outer X.H_0 X.s_0 E e s'') E₁ s') : Passes (CXN X.prog X.w) X E :=
  L2N.passes_call (L2N.takes_of hs hf hex hx) fun _ _ _ _ h => h
/-- .. where nothing is let out -/
theorem psn : Passes (CXN X.prog X.w) X E0 := fun _ _ _ _ _ _ _ h => by
  obtain ⟨_, _, _, _, _, _, _, _, _, _, _, _, z⟩ := h
  exact z.elim
end
/-! ### readings by names -/
abbrev oAdd : R2 := rI0 fun i j => .int (i + j)
abbrev oSub : R2 := rI0 fun i j => .int (i - j)
def CM (i j : Int) : Prop := CMul i j ∨ CMulW i j
abbrev oMul : R2 := rI CM fun i j => .int (i * j)
abbrev oMod : R2 := rI (fun _ j => 0 < j) fun i j => .int (i % j)
abbrev oDiv : R2 := rI CDivW fun i j => .int (i / j)
abbrev oPow : R2 := rI CPow fun i j => .int (i ^ j.toNat)
abbrev cLt : R2 := rI0 fun i j => .bl (decide (i < j))
abbrev cLe : R2 := rI0 fun i j => .bl (decide (i ≤ j))
abbrev cGt : R2 := rI0 fun i j => .bl (decide (j < i))
abbrev cGe : R2 := rI0 fun i j => .bl (decide (j ≤ i))
abbrev oCatS : R2 := fun x y H Q => ∃ i j, x = .str i ∧ y = .str j ∧ i.length + j.length ≤ sizeLine ∧ Q (.str (i ++ j)) H
abbrev uNeg : V → Hp → VK → Prop := rU fun i => .int (-i)
section
variable {X : Cx}
theorem op_mulA : OpR X (binaryOp .Mult) oMul := fun pins s σ H x y v u Q I rx ry h => by
  obtain ⟨i, j, rfl, rfl, c, q⟩ := h
  rcases c with c | c
  · exact op_mul pins s σ H _ _ v u Q I rx ry ⟨i, j, rfl, rfl, c, q⟩
  · exact op_mulW pins s σ H _ _ v u Q I rx ry ⟨i, j, rfl, rfl, c, q⟩
end
def bLenQ (K : PySem.W.Frag) : List V → Hp → VK → Prop := fun xs H Q => ∃ p ys, xs = [.ref p] ∧ (SqL K H p ys ∨ SqT K H p ys) ∧ Q (.int ys.length) H
def bLenS : List V → Hp → VK → Prop := fun xs H Q => ∃ z, xs = [.str z] ∧ z.length ≤ sizeLine ∧ Q (.int z.length) H
def bMax2 : List V → Hp → VK → Prop := fun xs H Q => ∃ i j, xs = [.int i, .int j] ∧ Q (.int (if j > i then j else i)) H
def bMin2 : List V → Hp → VK → Prop := fun xs H Q => ∃ i j, xs = [.int i, .int j] ∧ Q (.int (if j < i then j else i)) H
def bInt1 : List V → Hp → VK → Prop := fun xs H Q => (∃ i, xs = [.int i] ∧ Q (.int i) H) ∨ ∃ k, xs = [.bl k] ∧ Q (.int (if k then 1 else 0)) H
def bListOf (K : PySem.W.Frag) : List V → Hp → VK → Prop := fun xs H Q => ∃ p ys, xs = [.ref p] ∧ (SqL K H p ys ∨ SqT K H p ys) ∧ ∀ l, H l = none → Q (.ref l) (upd H l (.lst ys))
/-- raise C('..') -/
def tRaise (C : Addr) (E : XK) : TS := fun _ _ H => E (.ref C) none H
section
variable {X : Cx} {C : Addr} {E : XK}
/-- what the class C of the program's own errors must be -/
structure ErrAt (K : PySem.W.Frag) (mg : Str → Option Value) (x : Str) (C : Addr) : Prop where
  gC : mg x = some (.ref C)
  xC : PySem.W.excIn K C [.type "ValueError", .type "Exception", .type "BaseException", .type "object"] "ValueError.__new__" = true
  kC : PySem.W.keepIn K (.ref C) = true
  bC : PySem.W.subIn K (.ref C) (.type "BaseException") = some true
  tC : PySem.W.typeIn K (.ref C) = some (.type "type")
theorem ps_raiseN {x m : Str} {j : Nat} {p p2 pos pos' : Pos} (T : ErrAt X.K X.mg x C) (hg : Gl X x) (hc : X.calm = true) (hs : X.stack = X.env :: X.outer) (hf : X.env.frame = some X.env.locals) (hex : X.ex = []) {E₁ : Value → Shared → Prop}
    (hx : X.xe = fun e s' => wpAny (model X.prog X.w) X.A (leaving X.env e) (fun _ s'' => L2N.CX X.prog X.w X.outer X.H_0 X.s_0 E e s'') E₁ s') (hdb : (x == ("__debug__" : Str)) = false := by decide) :
    PS X (.Raise (some (.Call (.Name x p) [.Constant (.str m) j p2] [] pos)) none pos') (tRaise C E) :=
  L2N.ps_raise hc (L2N.takes_of hs hf hex hx) (L2N.pmk_own PySem.F.excBase_ValueError T.xC T.gC T.kC (raises_own T.bC T.tC) hg hdb)
end
/-! ### xs[::-1] -/
def tRevL (K : PySem.W.Frag) (te : TE) : TE := fun σ H Q => te σ H fun x H1 => ∃ a xs, x = .ref a ∧ SqL K H1 a xs ∧ ∀ p, H1 p = none → Q (.ref p) (upd H1 p (.lst xs.reverse))
section
variable {X : Cx}
theorem pe_revl {e : Expr} {te : TE} {j : Nat} {p1 p2 p3 pos : Pos} (he : PE X e te) : PE X (.Subscript e (.Slice none none (some (.UnaryOp .USub (.Constant (.int 1) j p1) p3)) p2) pos) (tRevL X.K te) := by
  refine ⟨fun pins s σ H Q I h => ?_⟩
  refine Subscript_ (thn (he.run pins s σ H _ I h) fun v s1 ⟨x, H1, I1, r1, q1⟩ => ?_)
  refine wpAny_Slice ?_
  rw [evalPart_none]
  refine wpAny_pure (wpAny_pure ?_)
  have hst : PO X (some (.UnaryOp .USub (.Constant (.int 1) j p1) p3)) (tPart (tUn uNeg (tC (.int 1)))) := po_some (pe_un un_neg pe_int)
  refine thn (hst.run pins s1 σ H1 (fun o H2 => o = some (-1) ∧ H2 = H1) I1 ⟨1, rfl, -1, rfl, rfl, rfl⟩) fun vst s3 ⟨o, H3, I3, pst, eo, eH⟩ => ?_
  subst eo
  subst eH
  obtain ⟨a, xs, rfl, hx, q⟩ := q1
  cases r1
  have I4 : Inv X pins σ H3 { s3 with heap := s3.heap.push { cls := .type "slice", data := .fields #[.none, .none, vst] } } := I3.kept (t' := s3.toks) fun b ob q => Heap.get?_push_of_some _ q
  obtain ⟨its, r, ht, hz⟩ := I4.list hx
  have hlen := r.length
  show wpAny (model X.prog X.w) X.A (subscriptTail e (.Slice none none (some (.UnaryOp .USub (.Constant (.int 1) j p1) p3)) p2) (.ref a) (.ref s3.heap.objs.size)) (EP X pins σ Q) X.xe { s3 with heap := s3.heap.push { cls := .type "slice", data := .fields #[.none, .none, vst] } }
  refine tail_any (ops := [.ref a, .ref s3.heap.objs.size]) ht.isList.typeIs slot_list_getitem.lookup ?_ (by with_unfolding_all rfl)
  refine wpAny_getItem_list_slice ht.isList (Heap.IsSliceOf.new ..) .none .none pst (by simp) ?_ (by rw [List.size_toArray] <;> omega)
  rw [PySem.W.krv_pick]
  refine ⟨.ref _, _, I4.laid (t' := s3.toks) (o := .lst xs.reverse) (fun b ob q => Heap.get?_push_of_some _ q) (Nat.le_refl _) ?_, rfl, q _ (I4.hok.fresh (Nat.le_refl _))⟩
  exact ⟨by rw [List.length_reverse]; exact hz, _, 0, r.reverse, Heap.get?_push_size _ rfl⟩
end
/-! ### the end: a law's promise, with the script's bits -/
theorem walk_law {l : PySem.W.OpenLaw} {n k : Nat} {q : Program} {loose : List Str} {XP : (Str → Option Value) → Heap → Prop} {YP : World → Heap → Prop} {d : DefRec} {K : Params → PySem.W.Frag} {x : Str}
    (hn : l.most = some n) (hn2 : n ≤ sizeLine) (hdf : d.params.defaults = []) (hr : Room k callerA)
    (hY : ∀ (w : World) (h : Heap), YP w h → (K w.params).In h)
    (F : ∀ (w : World) (mg : Str → Option Value) (fa : Addr) (h : Heap), (K w.params).In h → h.Ns mainGlobals mg → mg d.name = some (.ref fa) →
      ∃ G : Pm, G.K = K w.params ∧ ∃ fd : FuncData, (∀ (s : Shared) (u : Value), BindsTo s fd ⟨[u], []⟩ [(x, u)]) ∧
        ∀ base : Heap, G.K.In base → base.Ns mainGlobals mg → FnOk l.prog w G.K mg base (CXN l.prog w) k fa fd [x] (sp1 fun v H Q _ => ∃ (a : Addr) (ns : List Int), v = .ref a ∧ SqL G.K H a (ns.map V.int) ∧ ns.length ≤ n ∧ (∀ z ∈ ns, Builtin.Int.intBits z ≤ 1048576) ∧ ∀ H', Q (.bl true) H')) :
    PySem.W.WalkO q loose XP YP l.row.toRowW d [] (fun f vs => PySem.call f vs) := by
  refine walk_ofB (l := l) (n := n) (k := k) (x := x) (K := K) (CX := fun w => CXN l.prog w) (sp := fun w => sp1 fun v H Q _ => ∃ (a : Addr) (ns : List Int), v = .ref a ∧ SqL (K w.params) H a (ns.map V.int) ∧ ns.length ≤ n ∧ (∀ z ∈ ns, Builtin.Int.intBits z ≤ 1048576) ∧ ∀ H', Q (.bl true) H') hn hn2 hdf hr hY ?_ ?_ ?_
  · intro w mg fa h KX GX hm
    obtain ⟨G, eG, fd, hb, hF⟩ := F w mg fa h KX GX hm
    rw [eG] at hF
    exact ⟨fd, hb, hF⟩
  · intro w H a ns hl hz _ hS
    exact ⟨a, ns, rfl, hS, hl, hz, fun _ => rfl⟩
  · intro w H s e s' h
    obtain ⟨_, _, _, _, _, _, _, _, _, _, _, _, z⟩ := h
    exact z
end Sv

set_option Elab.async false
set_option linter.all false
set_option maxRecDepth 100000
set_option maxHeartbeats 4000000
/-! SvEv: what readings evaluate to, further: isinstance, len, == of data, calls; the word «ev». -/
namespace Sv
open PySem PySem.Spec PyProof.Rows L2 Evl
section
variable {K : PySem.W.Frag} {σ : L2.St} {H H' : Hp} {ta tb te tc : TE} {t u : TT} {x y z v : V} {a : Addr} {xs : List V}
theorem ev_at (h : Ev te σ H v) (Q : VK) (q : ∀ H2, Ex H H2 → Q v H2) : te σ H Q := h H (Ex.refl H) Q q
/-! ### isinstance -/
theorem ty_l (h : SqL K H a xs) : TyX K H (.ref a) (.type "list") := by
  rcases h with (h | ⟨o, h⟩) | ⟨o, its, n, e, c, _⟩
  · exact .base (.lst h)
  · exact .base (.frz h)
  · exact .kList e c
theorem ty_t (h : SqT K H a xs) : TyX K H (.ref a) (.type "tuple") := by
  rcases h with (h | ⟨o, h⟩) | ⟨o, its, n, e, c, _⟩
  · exact .base (.tup h)
  · exact .fTuple h
  · exact .kTuple e c
theorem rc_isi {n m : String} {b : Bool} (hx : ∀ H1, Ex H H1 → TyX K H1 x (.type m)) (hk : kitB m n = some b) : RC (rIsi K) [x, .ty n] H (.bl b) :=
  fun H1 e Q q => ⟨x, .ty n, .type m, .type n, b, rfl, .ty n, hx H1 e, kit_ty hk, q H1 (Ex.refl H1)⟩
theorem ev_isi {n m : String} {b : Bool} (ha : Ev ta σ H x) (hx : ∀ H1, Ex H H1 → TyX K H1 x (.type m)) (hk : kitB m n = some b) : Ev (tCB (rIsi K) (tCons ta (tCons (tC (.ty n)) tNil))) σ H (.bl b) :=
  ev_cb (ea_cons ha (ea_cons ev_c ea_nil)) (rc_isi hx hk)
/-! ### len, max, min, int -/
theorem rc_lenL (h : SqL K H a xs) : RC (bLenQ K) [.ref a] H (.int (xs.length : Int)) :=
  fun H1 e Q q => ⟨a, xs, rfl, .inl (ex_l e h), q H1 (Ex.refl H1)⟩
theorem rc_lenT (h : SqT K H a xs) : RC (bLenQ K) [.ref a] H (.int (xs.length : Int)) :=
  fun H1 e Q q => ⟨a, xs, rfl, .inr (ex_t e h), q H1 (Ex.refl H1)⟩
theorem ev_lenL (ha : Ev ta σ H (.ref a)) (h : SqL K H a xs) : Ev (tCB (bLenQ K) (tCons ta tNil)) σ H (.int (xs.length : Int)) := ev_cb (ea_cons ha ea_nil) (rc_lenL h)
theorem ev_lenT (ha : Ev ta σ H (.ref a)) (h : SqT K H a xs) : Ev (tCB (bLenQ K) (tCons ta tNil)) σ H (.int (xs.length : Int)) := ev_cb (ea_cons ha ea_nil) (rc_lenT h)
theorem ev_maxI {i j : Int} (ha : Ev ta σ H (.int i)) (hb : Ev tb σ H (.int j)) : Ev (tCB bMax2 (tCons ta (tCons tb tNil))) σ H (.int (if j > i then j else i)) :=
  ev_cb (ea_cons ha (ea_cons hb ea_nil)) fun H1 _ Q q => ⟨i, j, rfl, q H1 (Ex.refl H1)⟩
theorem ev_minI {i j : Int} (ha : Ev ta σ H (.int i)) (hb : Ev tb σ H (.int j)) : Ev (tCB bMin2 (tCons ta (tCons tb tNil))) σ H (.int (if j < i then j else i)) :=
  ev_cb (ea_cons ha (ea_cons hb ea_nil)) fun H1 _ Q q => ⟨i, j, rfl, q H1 (Ex.refl H1)⟩
theorem ev_intI {i : Int} (ha : Ev ta σ H (.int i)) : Ev (tCB bInt1 (tCons ta tNil)) σ H (.int i) :=
  ev_cb (ea_cons ha ea_nil) fun H1 _ Q q => .inl ⟨i, rfl, q H1 (Ex.refl H1)⟩
theorem ev_intB {k : Bool} (ha : Ev ta σ H (.bl k)) : Ev (tCB bInt1 (tCons ta tNil)) σ H (.int (if k then 1 else 0)) :=
  ev_cb (ea_cons ha ea_nil) fun H1 _ Q q => .inr ⟨k, rfl, q H1 (Ex.refl H1)⟩
theorem el_listOf (ha : Ev ta σ H (.ref a)) (h : SqL K H a xs) : EvL (tCB (bListOf K) (tCons ta tNil)) σ H xs :=
  el_cb (ea_cons ha ea_nil) fun H1 e Q q => ⟨a, xs, rfl, .inl (ex_l e h), fun l hl => q l _ hl (Ex.new hl) upd_same⟩
theorem el_rev (ha : Ev ta σ H (.ref a)) (h : SqL K H a xs) : EvL (tRevL K ta) σ H xs.reverse :=
  fun H1 e Q q => ha H1 e _ fun H2 e2 => ⟨a, xs, rfl, ex_l (e.trans e2) h, fun p hp => q p _ (fresh_back e2 hp) (e2.trans (Ex.new hp)) upd_same⟩
theorem ev_isN (ha : Ev ta σ H x) : Ev (tIsN ta) σ H (.bl (decide (x = .non))) := fun H1 e Q q => ha H1 e _ q
theorem ev_notN (ha : Ev ta σ H x) : Ev (tNotN ta) σ H (.bl (!decide (x = .non))) := fun H1 e Q q => ha H1 e _ q
/-- a chain -/
theorem ev_chain {r r' : R2} {k b : Bool} (ha : Ev ta σ H x) (hb : Ev tb σ H y) (h1 : RV r x y H (.bl k)) (hc : k = true → Ev tc σ H z) (h2 : k = true → RV r' y z H (.bl b)) : Ev (tChain r r' ta tb tc) σ H (.bl (k && b)) := by
  intro H1 e Q q
  refine ha H1 e _ fun H2 e2 => hb H2 (e.trans e2) _ fun H3 e3 => h1 H3 (e.trans (e2.trans e3)) _ fun H4 e4 => ⟨k, rfl, ?_⟩
  cases k with
  | false => exact q H4 (e2.trans (e3.trans e4))
  | true => exact hc rfl H4 (e.trans (e2.trans (e3.trans e4))) _ fun H5 e5 => h2 rfl H5 (e.trans (e2.trans (e3.trans (e4.trans e5)))) _ fun H6 e6 => q H6 (e2.trans (e3.trans (e4.trans (e5.trans e6))))
theorem et_chain {b : Bool} (h : Ev te σ H (.bl b)) : EvT (tTest te) σ H b := et_test h
/-! ### any, all, sum of lists just made -/
theorem ev_anyN {bs : List Bool} (ha : EvL ta σ H (bs.map V.bl)) : Ev (tCB (rAny K) (tCons ta tNil)) σ H (.bl (bs.any id)) :=
  fun H1 e Q q => ha H1 e _ fun p H2 _ e2 h2 => ⟨p, bs, rfl, sq_of h2, q H2 e2⟩
theorem ev_allN {bs : List Bool} (ha : EvL ta σ H (bs.map V.bl)) : Ev (tCB (rAll K) (tCons ta tNil)) σ H (.bl (bs.all id)) :=
  fun H1 e Q q => ha H1 e _ fun p H2 _ e2 h2 => ⟨p, bs, rfl, sq_of h2, q H2 e2⟩
theorem ev_sumN {ns : List Int} (ha : EvL ta σ H (ns.map V.int)) : Ev (tCB (rSum K) (tCons ta tNil)) σ H (.int ns.sum) :=
  fun H1 e Q q => ha H1 e _ fun p H2 _ e2 h2 => ⟨p, ns, rfl, sq_of h2, q H2 e2⟩
theorem el_eq {ys : List V} (h : EvL te σ H xs) (e : xs = ys) : EvL te σ H ys := e ▸ h
/-! ### calls of the text's defs -/
theorem ev_ca1 {R : R1} {E : XK} (ha : Ev ta σ H x) (h : ∀ H1, Ex H H1 → ∀ Q : VK, (∀ H2, Ex H1 H2 → Q z H2) → R x H1 Q E) : Ev (tCall (sp1 R) [] E (tCons ta tNil)) σ H z :=
  fun H1 e Q q => ha H1 e _ fun H2 e2 => h H2 (e.trans e2) Q fun H3 e3 => q H3 (e2.trans e3)
theorem ev_ca2 {R : R2'} {E : XK} (ha : Ev ta σ H x) (hb : Ev tb σ H y) (h : ∀ H1, Ex H H1 → ∀ Q : VK, (∀ H2, Ex H1 H2 → Q z H2) → R x y H1 Q E) : Ev (tCall (sp2 R) [] E (tCons ta (tCons tb tNil))) σ H z :=
  fun H1 e Q q => ha H1 e _ fun H2 e2 => hb H2 (e.trans e2) _ fun H3 e3 => h H3 (e.trans (e2.trans e3)) Q fun H4 e4 => q H4 (e2.trans (e3.trans e4))
theorem ev_ca3 {w : V} {R : R3} {E : XK} (ha : Ev ta σ H x) (hb : Ev tb σ H y) (hc : Ev tc σ H w) (h : ∀ H1, Ex H H1 → ∀ Q : VK, (∀ H2, Ex H1 H2 → Q z H2) → R x y w H1 Q E) : Ev (tCall (sp3 R) [] E (tCons ta (tCons tb (tCons tc tNil)))) σ H z :=
  fun H1 e Q q => ha H1 e _ fun H2 e2 => hb H2 (e.trans e2) _ fun H3 e3 => hc H3 (e.trans (e2.trans e3)) _ fun H4 e4 => h H4 (e.trans (e2.trans (e3.trans e4))) Q fun H5 e5 => q H5 (e2.trans (e3.trans (e4.trans e5)))
/-! ### data -/
mutual
theorem Dp.ex (e : Ex H H') : ∀ (d : PyData) (v : V), Dp K H v d → Dp K H' v d
  | .none, _, h => by cases h; exact .non
  | .bool b, _, h => by cases h; exact .bl b
  | .int i, _, h => by cases h; exact .int i
  | .str x, _, h => by cases h; exact .str x
  | .list ds, _, h => by
    cases h with
    | lst h1 h2 => exact .lst (ex_l e h1) (DpAll.ex e ds _ h2)
  | .tuple ds, _, h => by
    cases h with
    | tup h1 h2 => exact .tup (ex_t e h1) (DpAll.ex e ds _ h2)
  | .dict _, _, h => by cases h
theorem DpAll.ex (e : Ex H H') : ∀ (ds : List PyData) (vs : List V), DpAll K H vs ds → DpAll K H' vs ds
  | [], _, h => by cases h; exact .nil
  | d :: ds, _, h => by
    cases h with
    | cons h1 h2 => exact .cons (Dp.ex e d _ h1) (DpAll.ex e ds _ h2)
end
theorem rv_eqD {d e : PyData} (hx : Dp K H x d) (hy : Dp K H y e) (s1 : SeqAt.shaped d = true) (s2 : SeqAt.shaped e = true) : RV (rEqD K) x y H (.bl (PyData.eqv d e)) :=
  fun H1 ex Q q => ⟨d, e, Dp.ex ex d _ hx, Dp.ex ex e _ hy, s1, s2, q H1 (Ex.refl H1)⟩
theorem rv_neD {d e : PyData} (hx : Dp K H x d) (hy : Dp K H y e) (s1 : SeqAt.shaped d = true) (s2 : SeqAt.shaped e = true) : RV (rNeD K) x y H (.bl (!PyData.eqv d e)) :=
  fun H1 ex Q q => ⟨d, e, Dp.ex ex d _ hx, Dp.ex ex e _ hy, s1, s2, q H1 (Ex.refl H1)⟩
theorem dp_ints : ∀ ns : List Int, DpAll K H (ns.map V.int) (ns.map PyData.int)
  | [] => .nil
  | n :: ns => .cons (.int n) (dp_ints ns)
theorem dp_il {ns : List Int} (h : SqL K H a (ns.map V.int)) : Dp K H (.ref a) (.list (ns.map PyData.int)) := .lst h (dp_ints ns)
theorem dp_it {ns : List Int} (h : SqT K H a (ns.map V.int)) : Dp K H (.ref a) (.tuple (ns.map PyData.int)) := .tup h (dp_ints ns)
theorem canL_ints : ∀ ns : List Int, PyData.canLayAll0 (ns.map PyData.int) = true
  | [] => by simp [PyData.canLayAll0]
  | n :: ns => by simp [PyData.canLayAll0, PyData.canLay0, canL_ints ns]
theorem dep_ints : ∀ ns : List Int, PyData.depthAll (ns.map PyData.int) = 0
  | [] => by simp [PyData.depthAll]
  | n :: ns => by simp [PyData.depthAll, PyData.depth, dep_ints ns]
theorem sh_il (ns : List Int) : SeqAt.shaped (.list (ns.map PyData.int)) = true := by
  simp [SeqAt.shaped, PyData.canLay0, PyData.depth, canL_ints, dep_ints]
theorem sh_it (ns : List Int) : SeqAt.shaped (.tuple (ns.map PyData.int)) = true := by
  simp [SeqAt.shaped, PyData.canLay0, PyData.depth, canL_ints, dep_ints]
theorem eqv_ints : ∀ ns ms : List Int, PyData.eqvAll (ns.map PyData.int) (ms.map PyData.int) = decide (ns = ms) := fun ns ms => PySem.W.eqvAll_map ns ms
theorem eqv_il (ns ms : List Int) : PyData.eqv (.list (ns.map PyData.int)) (.list (ms.map PyData.int)) = decide (ns = ms) := by
  rw [PyData.eqv]
  exact eqv_ints ns ms
theorem eqv_it (ns ms : List Int) : PyData.eqv (.tuple (ns.map PyData.int)) (.tuple (ms.map PyData.int)) = decide (ns = ms) := by
  rw [PyData.eqv]
  exact eqv_ints ns ms
end
/-! ### comprehensions whose element is told item by item -/
section
variable {K : PySem.W.Frag} {σ : L2.St} {H H' : Hp} {ta tb te tc : TE} {t u : TT} {x y z v : V} {a : Addr} {xs : List V} {D : Ends} {tu tz : TS} {g : TG}
theorem et_yes : EvT tYes σ H true := fun H1 _ Q q => q H1 (Ex.refl H1)
theorem given_all (n : Nat) (v : Nat → V) : given n (fun _ => true) v = (List.range n).map v := by
  unfold given
  rw [List.filter_eq_self.mpr (fun _ _ => rfl)]
theorem given_list (ys : List V) : given ys.length (fun _ => true) (fun i => ys.getD i .non) = ys := by
  rw [given_all]
  apply List.ext_getElem
  · rw [List.length_map, List.length_range]
  · intro i h1 h2
    rw [List.getElem_map, List.getElem_range, List.getD_eq_getElem?_getD, List.getElem?_eq_getElem h2]
    rfl
theorem getD_at {ys : List V} {i : Nat} (h : i < ys.length) : ys[i]? = some (ys.getD i .non) := by
  rw [List.getD_eq_getElem?_getD, List.getElem?_eq_getElem h]
  rfl
theorem el_mapL {tl : TE} {j : Nat} {vs : List Nat} (ys : List V) (h : Ev tl σ H (.ref a)) (hx : SqL K H a xs) (hl : ys.length = xs.length) (hz : xs.length ≤ 40000) (hw : ∀ x, wipe ((wipe σ vs).set j (some x)) vs = wipe σ vs)
    (he : ∀ (i : Nat) (x y : V) H1, Ex H H1 → xs[i]? = some x → ys[i]? = some y → Ev te ((wipe σ vs).set j (some x)) H1 y) : EvL (tLc (iList K tl) (gName j) tYes te vs) σ H ys := by
  have h0 := el_lcL (K := K) (te := te) (fun _ => true) (fun i => ys.getD i .non) h hx hz hw (fun _ _ _ _ _ => et_yes) (fun i x H1 e hi _ => he i x _ H1 e hi (getD_at (by rw [hl]; exact (List.getElem?_eq_some_iff.mp hi).1)))
  rw [← hl, given_list] at h0
  exact h0
theorem el_mapNL {tl : TE} {j : Nat} {vs : List Nat} (ys : List V) (h : EvL tl σ H xs) (hl : ys.length = xs.length) (hz : xs.length ≤ 40000) (hw : ∀ x, wipe ((wipe σ vs).set j (some x)) vs = wipe σ vs)
    (he : ∀ (i : Nat) (x y : V) H1, Ex H H1 → xs[i]? = some x → ys[i]? = some y → Ev te ((wipe σ vs).set j (some x)) H1 y) : EvL (tLc (iList K tl) (gName j) tYes te vs) σ H ys := by
  have h0 := el_lcNL (K := K) (te := te) (fun _ => true) (fun i => ys.getD i .non) h hz hw (fun _ _ _ _ _ => et_yes) (fun i x H1 e hi _ => he i x _ H1 e hi (getD_at (by rw [hl]; exact (List.getElem?_eq_some_iff.mp hi).1)))
  rw [← hl, given_list] at h0
  exact h0
theorem el_lcT {tl : TE} {j : Nat} {vs : List Nat} (f : Nat → Bool) (v : Nat → V) (h : Ev tl σ H (.ref a)) (hx : SqT K H a xs) (hz : xs.length ≤ 40000) (hw : ∀ x, wipe ((wipe σ vs).set j (some x)) vs = wipe σ vs)
    (ht : ∀ (i : Nat) (x : V) H1, Ex H H1 → xs[i]? = some x → EvT t ((wipe σ vs).set j (some x)) H1 (f i)) (he : ∀ (i : Nat) (x : V) H1, Ex H H1 → xs[i]? = some x → f i = true → Ev te ((wipe σ vs).set j (some x)) H1 (v i)) :
    EvL (tLc (iTup K tl) (gName j) t te vs) σ H (given xs.length f v) := fun H0 e Q q => h H0 e _ fun H1 e1 => ⟨a, rfl, ⟨xs, ex_t (e.trans e1) hx⟩, fun Dl hD =>
  lc_tup (xs := xs) (Cw H1 f v Dl) ⟨hD, Ex.new hD, upd_same⟩ (fun i H' _ p => ex_t ((e.trans e1).trans p.2.1) hx) (fun i x H' hi p => ⟨hw x, cw_turn p (by have := (List.getElem?_eq_some_iff.mp hi).1; omega) (ht i x H1 (e.trans e1) hi) (fun hf => he i x H1 (e.trans e1) hi hf)⟩)
    (fun H' p => q Dl H' (fresh_back e1 p.1) (e1.trans p.2.1) p.2.2)⟩
theorem el_mapT {tl : TE} {j : Nat} {vs : List Nat} (ys : List V) (h : Ev tl σ H (.ref a)) (hx : SqT K H a xs) (hl : ys.length = xs.length) (hz : xs.length ≤ 40000) (hw : ∀ x, wipe ((wipe σ vs).set j (some x)) vs = wipe σ vs)
    (he : ∀ (i : Nat) (x y : V) H1, Ex H H1 → xs[i]? = some x → ys[i]? = some y → Ev te ((wipe σ vs).set j (some x)) H1 y) : EvL (tLc (iTup K tl) (gName j) tYes te vs) σ H ys := by
  have h0 := el_lcT (K := K) (te := te) (fun _ => true) (fun i => ys.getD i .non) h hx hz hw (fun _ _ _ _ _ => et_yes) (fun i x H1 e hi _ => he i x _ H1 e hi (getD_at (by rw [hl]; exact (List.getElem?_eq_some_iff.mp hi).1)))
  rw [← hl, given_list] at h0
  exact h0
/-! ### while by a word and a number that falls; two names stored at once; a pair taken apart -/
theorem s_whl (W : Nat → L2.St → Hp → Prop) (m0 : Nat) (h0 : W m0 σ H)
    (hs : ∀ m σ' H', W m σ' H' → ∃ b, EvT t σ' H' b ∧ (b = true → ∀ H1, Ex H' H1 → tu { D with nx := fun σ2 H2 => ∃ m', m' < m ∧ W m' σ2 H2, ct := fun σ2 H2 => ∃ m', m' < m ∧ W m' σ2 H2, bk := D.nx } σ' H1) ∧ (b = false → ∀ H1, Ex H' H1 → D.nx σ' H1)) : tWhile t tu D σ H :=
  s_while W m0 h0 fun m σ' H' hw => by
    obtain ⟨b, hb, h1, h2⟩ := hs m σ' H' hw
    exact ⟨b, hb, fun e H1 e1 => ⟨_, fun _ _ h => h, h1 e H1 e1⟩, h2⟩
theorem q_whl (W : Nat → L2.St → Hp → Prop) (m0 : Nat) (h0 : W m0 σ H)
    (hs : ∀ m σ' H', W m σ' H' → ∃ b, EvT t σ' H' b ∧ (b = true → ∀ H1, Ex H' H1 → tu { D with nx := fun σ2 H2 => ∃ m', m' < m ∧ W m' σ2 H2, ct := fun σ2 H2 => ∃ m', m' < m ∧ W m' σ2 H2, bk := tz D } σ' H1) ∧ (b = false → ∀ H1, Ex H' H1 → tz D σ' H1)) : tSeq (tWhile t tu) tz D σ H :=
  s_whl (D := { D with nx := tz D }) W m0 h0 hs
theorem s_par {i j : Nat} {w : V} (ha : Ev ta σ H v) (hb : Ev tb σ H w) (k : ∀ H1, Ex H H1 → D.nx ((σ.set i (some v)).set j (some w)) H1) : tPar i j (tCons ta (tCons tb tNil)) D σ H :=
  ha H (Ex.refl H) _ fun H1 e1 => hb H1 e1 _ fun H2 e2 => ⟨v, w, rfl, k H2 (e1.trans e2)⟩
theorem q_par {i j : Nat} {w : V} (ha : Ev ta σ H v) (hb : Ev tb σ H w) (k : ∀ H1, Ex H H1 → tz D ((σ.set i (some v)).set j (some w)) H1) : tSeq (tPar i j (tCons ta (tCons tb tNil))) tz D σ H :=
  s_par (D := { D with nx := tz D }) ha hb k
theorem g_tup2 {i j : Nat} {w : V} {p : Addr} {Q : L2.St → Hp → Prop} (h : SqT K H p [v, w]) (q : Q ((σ.set i (some v)).set j (some w)) H) : gTup K 2 (gCons (gName i) (gCons (gName j) gNil)) (.ref p) σ H Q :=
  ⟨p, [v, w], rfl, h, rfl, v, [w], rfl, w, [], rfl, rfl, q⟩
/-- a, b = e, e a tuple that is read, or a new one -/
theorem q_tup2 {i j : Nat} {w : V} {p : Addr} (h : Ev te σ H (.ref p)) (hp : SqT K H p [v, w]) (k : ∀ H1, Ex H H1 → tz D ((σ.set i (some v)).set j (some w)) H1) : tSeq (tAsg te (gTup K 2 (gCons (gName i) (gCons (gName j) gNil)))) tz D σ H :=
  h H (Ex.refl H) _ fun H1 e => g_tup2 (ex_t e hp) (k H1 e)
theorem q_tup2N {i j : Nat} {w : V} (h : EvU te σ H [v, w]) (k : ∀ H1, Ex H H1 → tz D ((σ.set i (some v)).set j (some w)) H1) : tSeq (tAsg te (gTup K 2 (gCons (gName i) (gCons (gName j) gNil)))) tz D σ H :=
  h H (Ex.refl H) _ fun p H1 _ e h1 => g_tup2 (st_of h1) (k H1 e)
def RetU (xs : List V) (H : Hp) (Q : VK) : Prop := ∀ p H2, H p = none → Ex H H2 → H2 p = some (.tup xs) → Q (.ref p) H2
theorem RetU.go {Q : VK} (k : RetU xs H Q) (e : Ex H H') {p : Addr} {H2 : Hp} (hp : H' p = none) (e2 : Ex H' H2) (h : H2 p = some (.tup xs)) : Q (.ref p) H2 := k p H2 (fresh_back e hp) (e.trans e2) h
end
theorem small_nn {n : Nat} (h : n ≤ 100000) : n ≤ sizeLine := sz_of h
/-- a list that was new is changed: what was known ahead stays; tuples stay -/
theorem sqT_mut {K : PySem.W.Frag} {H : Hp} {l t : Addr} {xs ys : List V} {o : HO} (hl : H l = some (.lst xs)) (h : SqT K H t ys) : SqT K (upd H l o) t ys := by
  rcases h with (h | ⟨u, h⟩) | h
  · exact .inl (.inl (by rw [upd_ne (ne_of h hl (by intro z; cases z))]; exact h))
  · exact .inl (.inr ⟨u, by rw [upd_ne (ne_of h hl (by intro z; cases z))]; exact h⟩)
  · exact .inr h
theorem nat_of {z : Int} (h : 0 ≤ z) : ∃ n : Nat, z = (n : Int) := Int.eq_ofNat_of_zero_le h
end Sv

set_option linter.all false
/-! MCrt: plain Lean: rests by several moduli. -/
namespace Sv
theorem bez : ∀ a b : Nat, ∃ u v : Int, u * (a : Int) + v * (b : Int) = ((Nat.gcd a b : Nat) : Int) := by
  intro a b
  induction a, b using Nat.gcd.induction with
  | H0 n => exact ⟨0, 1, by simp⟩
  | H1 m n hm ih =>
    obtain ⟨u, v, h⟩ := ih
    rw [Nat.gcd_rec m n]
    refine ⟨v - u * ((n / m : Nat) : Int), u, ?_⟩
    have e : (n : Int) = ((n % m : Nat) : Int) + (m : Int) * ((n / m : Nat) : Int) := by
      rw [← Int.natCast_mul, ← Int.natCast_add]
      congr 1
      exact (Nat.mod_add_div n m).symm
    rw [← h]
    generalize ((n / m : Nat) : Int) = k at e ⊢
    generalize ((n % m : Nat) : Int) = l at e ⊢
    rw [e, Int.sub_mul, Int.mul_add]
    have : u * ((m : Int) * k) = u * k * (m : Int) := by
      rw [Int.mul_assoc, Int.mul_comm k]
    omega
theorem gcd_lcm_dvd {a b m x : Nat} (h1 : Nat.gcd a m ∣ x) (h2 : Nat.gcd b m ∣ x) : Nat.gcd (Nat.lcm a b) m ∣ x := by
  have hd1 : Nat.gcd (Nat.lcm a b) m ∣ Nat.lcm a b := Nat.gcd_dvd_left _ _
  have hd2 : Nat.gcd (Nat.lcm a b) m ∣ m := Nat.gcd_dvd_right _ _
  generalize Nat.gcd (Nat.lcm a b) m = d at hd1 hd2 ⊢
  by_cases d0 : d = 0
  · subst d0
    have : m = 0 := Nat.eq_zero_of_zero_dvd hd2
    subst this
    rw [Nat.gcd_zero_right] at h1 h2
    exact Nat.dvd_trans hd1 (Nat.lcm_dvd h1 h2)
  · have hd : 0 < d := Nat.pos_of_ne_zero d0
    have k1 : Nat.gcd a d ∣ x := Nat.dvd_trans (Nat.dvd_gcd (Nat.gcd_dvd_left _ _) (Nat.dvd_trans (Nat.gcd_dvd_right _ _) hd2)) h1
    have k2 : Nat.gcd b d ∣ x := Nat.dvd_trans (Nat.dvd_gcd (Nat.gcd_dvd_left _ _) (Nat.dvd_trans (Nat.gcd_dvd_right _ _) hd2)) h2
    have e1 : Nat.gcd (Nat.gcd a d) (Nat.gcd b d) ∣ Nat.gcd a d := Nat.gcd_dvd_left _ _
    have e2 : Nat.gcd (Nat.gcd a d) (Nat.gcd b d) ∣ Nat.gcd b d := Nat.gcd_dvd_right _ _
    have ep : 0 < Nat.gcd (Nat.gcd a d) (Nat.gcd b d) := Nat.gcd_pos_of_pos_left _ (Nat.gcd_pos_of_pos_right _ hd)
    have key : d * Nat.gcd (Nat.gcd a d) (Nat.gcd b d) ∣ Nat.gcd a d * Nat.gcd b d := by
      generalize Nat.gcd (Nat.gcd a d) (Nat.gcd b d) = e at e1 e2
      rw [← Nat.gcd_mul_right]
      refine Nat.dvd_gcd ?_ (Nat.mul_dvd_mul_left d e2)
      rw [← Nat.gcd_mul_left]
      refine Nat.dvd_gcd ?_ ?_
      · rw [← Nat.gcd_mul_lcm a b, Nat.mul_comm]
        exact Nat.mul_dvd_mul (Nat.dvd_gcd (Nat.dvd_trans e1 (Nat.gcd_dvd_left _ _)) (Nat.dvd_trans e2 (Nat.gcd_dvd_left _ _))) hd1
      · rw [Nat.mul_comm]
        exact Nat.mul_dvd_mul (Nat.dvd_trans e1 (Nat.gcd_dvd_left _ _)) (Nat.dvd_refl d)
    rw [← Nat.gcd_mul_lcm (Nat.gcd a d) (Nat.gcd b d), Nat.mul_comm d] at key
    exact Nat.dvd_trans (Nat.dvd_of_mul_dvd_mul_left ep key) (Nat.lcm_dvd k1 k2)
def lcmL : List (Nat × Nat) → Nat
  | [] => 1
  | p :: ps => Nat.lcm p.2 (lcmL ps)
theorem lcmL_dvd {x : Nat} : ∀ {ps : List (Nat × Nat)}, lcmL ps ∣ x ↔ ∀ p ∈ ps, p.2 ∣ x
  | [] => by simp [lcmL]
  | p :: ps => by
    unfold lcmL
    constructor
    · intro h q hq
      rcases List.mem_cons.mp hq with e | e
      · rw [e]
        exact Nat.dvd_trans (Nat.dvd_lcm_left _ _) h
      · exact (lcmL_dvd (ps := ps)).mp (Nat.dvd_trans (Nat.dvd_lcm_right _ _) h) q e
    · intro h
      exact Nat.lcm_dvd (h p List.mem_cons_self) ((lcmL_dvd (ps := ps)).mpr fun q hq => h q (List.mem_cons_of_mem _ hq))
theorem lcmL_mem {ps : List (Nat × Nat)} {p : Nat × Nat} (h : p ∈ ps) : p.2 ∣ lcmL ps := lcmL_dvd.mp (Nat.dvd_refl _) p h
theorem lcmL_pos : ∀ {ps : List (Nat × Nat)}, (∀ p ∈ ps, 0 < p.2) → 0 < lcmL ps
  | [], _ => Nat.one_pos
  | p :: ps, h => Nat.lcm_pos (h p List.mem_cons_self) (lcmL_pos fun q hq => h q (List.mem_cons_of_mem _ hq))
theorem lcmL_snoc (ps : List (Nat × Nat)) (p : Nat × Nat) : lcmL (ps ++ [p]) = Nat.lcm (lcmL ps) p.2 := by
  refine Nat.dvd_antisymm ?_ ?_
  · refine lcmL_dvd.mpr fun q hq => ?_
    rcases List.mem_append.mp hq with e | e
    · exact Nat.dvd_trans (lcmL_mem e) (Nat.dvd_lcm_left _ _)
    · rw [List.mem_singleton.mp e]
      exact Nat.dvd_lcm_right _ _
  · exact Nat.lcm_dvd (lcmL_dvd.mpr fun q hq => lcmL_mem (List.mem_append_left _ hq)) (lcmL_mem (List.mem_append_right _ (List.mem_singleton.mpr rfl)))
theorem lcmL_rev (ps : List (Nat × Nat)) : lcmL ps.reverse = lcmL ps :=
  Nat.dvd_antisymm (lcmL_dvd.mpr fun q hq => lcmL_mem (List.mem_reverse.mp hq)) (lcmL_dvd.mpr fun q hq => lcmL_mem (List.mem_reverse.mpr hq))
theorem lcm_by (M m : Nat) : M / Nat.gcd M m * m = Nat.lcm M m := by
  unfold Nat.lcm
  obtain ⟨k, hk⟩ := Nat.gcd_dvd_left M m
  by_cases g0 : Nat.gcd M m = 0
  · rw [g0, Nat.div_zero, Nat.div_zero, Nat.zero_mul]
  · have gp := Nat.pos_of_ne_zero g0
    have e1 : M / Nat.gcd M m = k := by
      conv => lhs; lhs; rw [hk]
      exact Nat.mul_div_cancel_left k gp
    have e2 : M * m / Nat.gcd M m = k * m := by
      conv => lhs; lhs; rw [hk, Nat.mul_assoc]
      exact Nat.mul_div_cancel_left _ gp
    rw [e1, e2]
def Sol (ps : List (Nat × Nat)) (z : Nat) : Prop := ∀ p ∈ ps, z % p.2 = p.1
theorem mod_dvd {z r m : Nat} (h : z % m = r) : (m : Int) ∣ (z : Int) - (r : Int) := by
  refine ⟨((z / m : Nat) : Int), ?_⟩
  have := Nat.mod_add_div z m
  rw [h] at this
  rw [← Int.natCast_mul]
  omega
theorem mod_of_dvd {z r m : Nat} (h : (m : Int) ∣ (z : Int) - (r : Int)) (hr : r < m) : z % m = r := by
  have h1 : (z : Int) % (m : Int) = (r : Int) % (m : Int) := Int.emod_eq_emod_iff_emod_sub_eq_zero.mpr (Int.emod_eq_zero_of_dvd h)
  rw [← Int.natCast_emod, ← Int.natCast_emod, Nat.mod_eq_of_lt hr] at h1
  exact Int.ofNat.inj h1
theorem sol_dvd {ps : List (Nat × Nat)} {z z' : Nat} (h : Sol ps z) (h' : Sol ps z') : (lcmL ps : Int) ∣ (z : Int) - (z' : Int) := by
  refine Int.ofNat_dvd_left.mpr (lcmL_dvd.mpr fun p hp => Int.ofNat_dvd_left.mp ?_)
  have a := mod_dvd (h p hp)
  have b := mod_dvd (h' p hp)
  have e : (z : Int) - (z' : Int) = ((z : Int) - (p.1 : Int)) - ((z' : Int) - (p.1 : Int)) := by omega
  rw [e]
  exact Int.dvd_sub a b
theorem sol_uniq {ps : List (Nat × Nat)} {z z' : Nat} (h : Sol ps z) (h' : Sol ps z') (hz : z < lcmL ps) (hz' : z' < lcmL ps) : z = z' := by
  have d := sol_dvd h h'
  have h1 : (z : Int) % (lcmL ps : Int) = (z' : Int) % (lcmL ps : Int) := Int.emod_eq_emod_iff_emod_sub_eq_zero.mpr (Int.emod_eq_zero_of_dvd d)
  rw [← Int.natCast_emod, ← Int.natCast_emod, Nat.mod_eq_of_lt hz, Nat.mod_eq_of_lt hz'] at h1
  exact Int.ofNat.inj h1
theorem sol_sub {ps qs : List (Nat × Nat)} {z : Nat} (h : Sol ps z) (hs : ∀ p ∈ qs, p ∈ ps) : Sol qs z := fun p hp => h p (hs p hp)
theorem sol_rev {ps : List (Nat × Nat)} {z : Nat} : Sol ps.reverse z ↔ Sol ps z :=
  ⟨fun h => sol_sub h fun _ hp => List.mem_reverse.mpr hp, fun h => sol_sub h fun _ hp => List.mem_reverse.mp hp⟩
/-- all numbers leave the two: the rests go together -/
theorem sol_gcd {z R r M m : Nat} (h1 : (M : Int) ∣ (z : Int) - (R : Int)) (h2 : z % m = r) : ((Nat.gcd M m : Nat) : Int) ∣ (r : Int) - (R : Int) := by
  have a : ((Nat.gcd M m : Nat) : Int) ∣ (z : Int) - (R : Int) := Int.dvd_trans (Int.natCast_dvd_natCast.mpr (Nat.gcd_dvd_left M m)) h1
  have b : ((Nat.gcd M m : Nat) : Int) ∣ (z : Int) - (r : Int) := Int.dvd_trans (Int.natCast_dvd_natCast.mpr (Nat.gcd_dvd_right M m)) (mod_dvd h2)
  have e : (r : Int) - (R : Int) = ((z : Int) - (R : Int)) - ((z : Int) - (r : Int)) := by omega
  rw [e]
  exact Int.dvd_sub a b
/-- a step that meets the next rest -/
theorem step_some {R r M m : Nat} (hm : 0 < m) (h : ((Nat.gcd M m : Nat) : Int) ∣ (r : Int) - (R : Int)) : ∃ s : Nat, s < m / Nat.gcd M m ∧ (m : Int) ∣ ((R : Int) + (s : Int) * (M : Int)) - (r : Int) := by
  obtain ⟨u, v, e⟩ := bez M m
  obtain ⟨t, ht⟩ := h
  obtain ⟨M', hM⟩ := Nat.gcd_dvd_left M m
  obtain ⟨m', hm'⟩ := Nat.gcd_dvd_right M m
  generalize hg : Nat.gcd M m = g at *
  have gp : 0 < g := by
    rcases Nat.eq_zero_or_pos g with z | z
    · rw [z, Nat.zero_mul] at hm'
      omega
    · exact z
  have mp : 0 < m' := by
    rcases Nat.eq_zero_or_pos m' with z | z
    · rw [z, Nat.mul_zero] at hm'
      omega
    · exact z
  have e1 : m / g = m' := by
    rw [hm']
    exact Nat.mul_div_cancel_left m' gp
  rw [e1]
  have mp' : (0 : Int) < (m' : Int) := Int.natCast_pos.mpr mp
  have n0 := Int.emod_nonneg (t * u) (Int.ne_of_gt mp')
  have n1 := Int.emod_lt_of_pos (t * u) mp'
  refine ⟨((t * u) % (m' : Int)).toNat, by omega, ?_⟩
  rw [Int.toNat_of_nonneg n0]
  have e2 := Int.emod_add_mul_ediv (t * u) (m' : Int)
  generalize (t * u) % (m' : Int) = s at *
  generalize (t * u) / (m' : Int) = k at *
  -- s = t u - m' k ; r - R = g t ; u M + v m = g
  refine ⟨-(t * v) - k * (M' : Int), ?_⟩
  have hMi : (M : Int) = (g : Int) * (M' : Int) := by rw [hM, Int.natCast_mul]
  have hmi : (m : Int) = (g : Int) * (m' : Int) := by rw [hm', Int.natCast_mul]
  have hs : s = t * u - (m' : Int) * k := by omega
  have hr : (r : Int) = (R : Int) + (g : Int) * t := by omega
  have e3 : (g : Int) * t = t * u * (M : Int) + t * v * (m : Int) := by
    rw [← e, Int.add_mul]
    have a1 : u * (M : Int) * t = t * u * (M : Int) := by rw [Int.mul_comm, ← Int.mul_assoc]
    have a2 : v * (m : Int) * t = t * v * (m : Int) := by rw [Int.mul_comm, ← Int.mul_assoc]
    rw [a1, a2]
  have e4 : (m' : Int) * k * (M : Int) = (m : Int) * (k * (M' : Int)) := by
    rw [hMi, hmi, Int.mul_assoc, Int.mul_assoc, Int.mul_left_comm k, Int.mul_left_comm (m' : Int)]
  rw [hs, hr, e3, Int.sub_mul, e4, Int.mul_sub, Int.mul_neg, Int.mul_comm (m : Int) (t * v)]
  omega
theorem sol_next {ps : List (Nat × Nat)} {R r m s : Nat} (h : Sol ps R) (hr : r < m) (hd : (m : Int) ∣ ((R : Int) + (s : Int) * ((lcmL ps : Nat) : Int)) - (r : Int)) : Sol (ps ++ [(r, m)]) (R + s * lcmL ps) := by
  intro p hp
  rcases List.mem_append.mp hp with e | e
  · obtain ⟨k, hk⟩ := lcmL_mem e
    rw [hk, ← Nat.mul_assoc, Nat.mul_comm s p.2, Nat.mul_assoc, Nat.add_mul_mod_self_left]
    exact h p e
  · rw [List.mem_singleton.mp e]
    refine mod_of_dvd ?_ hr
    rw [Int.natCast_add, Int.natCast_mul]
    exact hd
/-- each two go together: all do -/
theorem gcd_lcmL {m x : Nat} : ∀ {ps : List (Nat × Nat)}, (∀ p ∈ ps, Nat.gcd p.2 m ∣ x) → Nat.gcd (lcmL ps) m ∣ x
  | [], _ => by
    show Nat.gcd 1 m ∣ x
    rw [Nat.gcd_one_left]
    exact Nat.one_dvd x
  | p :: ps, h => gcd_lcm_dvd (h p List.mem_cons_self) (gcd_lcmL fun q hq => h q (List.mem_cons_of_mem _ hq))
def Pairw (ps : List (Nat × Nat)) : Prop := ∀ p ∈ ps, ∀ q ∈ ps, ((Nat.gcd p.2 q.2 : Nat) : Int) ∣ (p.1 : Int) - (q.1 : Int)
theorem pairw_sol : ∀ {ps : List (Nat × Nat)}, (∀ p ∈ ps, p.1 < p.2) → Pairw ps → ∃ z, Sol ps z
  | [], _, _ => ⟨0, fun _ h => by cases h⟩
  | p :: ps, hv, hp => by
    obtain ⟨z, hz⟩ := pairw_sol (ps := ps) (fun q hq => hv q (List.mem_cons_of_mem _ hq)) fun a ha b hb => hp a (List.mem_cons_of_mem _ ha) b (List.mem_cons_of_mem _ hb)
    have hpm : p.1 < p.2 := hv p List.mem_cons_self
    have d : ((Nat.gcd (lcmL ps) p.2 : Nat) : Int) ∣ (p.1 : Int) - (z : Int) := by
      refine Int.ofNat_dvd_left.mpr (gcd_lcmL fun q hq => Int.ofNat_dvd_left.mp ?_)
      have a := hp p List.mem_cons_self q (List.mem_cons_of_mem _ hq)
      have b := mod_dvd (hz q hq)
      have c : ((Nat.gcd q.2 p.2 : Nat) : Int) ∣ (z : Int) - (q.1 : Int) := Int.dvd_trans (Int.natCast_dvd_natCast.mpr (Nat.gcd_dvd_left q.2 p.2)) b
      rw [Nat.gcd_comm] at a
      have e : (p.1 : Int) - (z : Int) = ((p.1 : Int) - (q.1 : Int)) - ((z : Int) - (q.1 : Int)) := by omega
      rw [e]
      exact Int.dvd_sub a c
    obtain ⟨s, _, hs⟩ := step_some (by omega) d
    have n := sol_next hz hpm hs
    exact ⟨_, fun q hq => n q (by
      rcases List.mem_cons.mp hq with e | e
      · exact List.mem_append_right _ (by rw [e]; exact List.mem_singleton.mpr rfl)
      · exact List.mem_append_left _ e)⟩
theorem sol_pairw {ps : List (Nat × Nat)} {z : Nat} (h : Sol ps z) : Pairw ps := by
  intro p hp q hq
  have a : ((Nat.gcd p.2 q.2 : Nat) : Int) ∣ (z : Int) - (p.1 : Int) := Int.dvd_trans (Int.natCast_dvd_natCast.mpr (Nat.gcd_dvd_left _ _)) (mod_dvd (h p hp))
  have b : ((Nat.gcd p.2 q.2 : Nat) : Int) ∣ (z : Int) - (q.1 : Int) := Int.dvd_trans (Int.natCast_dvd_natCast.mpr (Nat.gcd_dvd_right _ _)) (mod_dvd (h q hq))
  have e : (p.1 : Int) - (q.1 : Int) = ((z : Int) - (q.1 : Int)) - ((z : Int) - (p.1 : Int)) := by omega
  rw [e]
  exact Int.dvd_sub b a
end Sv

set_option Elab.async false
set_option linter.all false
set_option maxRecDepth 100000
set_option maxHeartbeats 4000000
namespace Sv
open PySem PySem.Spec PyProof.Rows L2 Evl
local macro_rules | `(tactic| walk_at "ev") => `(tactic| (repeat' (first | exact ev_var rfl | exact ev_c | exact rv_I0 | exact ea_nil | exact ru_neg | exact rv_eq rfl | exact rv_ne rfl | apply ev_op | apply rv_I | apply ev_un | apply et_test | apply et_B | apply et_not | apply ea_cons | apply ev_maxI | apply ev_minI)))
/-! ### a cell of the script, a drawn number -/
def cellS (ns : List Int) (k : Nat) : Int := if ns = [] then (k : Int) * 7919 else ns.getD (k % ns.length) 0 + ((k / ns.length : Nat) : Int) * 104729
def dP1 : Int := 340282366920938463463374607431768211507
def drawn (c k : Int) : Int :=
  let m1 := (c * 6364136223846793005 + (k + 1) * 1442695040888963407) % 340282366920938463463374607431768211507
  let m2 := m1 * m1 % 340282366920938463463374607431768211297
  let m3 := (m2 % 18446744073709551557 + 1) * (m2 / 18446744073709551557 + 1) * m2
  m3 % 340282366920938463463374607431768211507
theorem drawn_nn (c k : Int) : 0 ≤ drawn c k := Int.emod_nonneg _ (by decide)
theorem drawn_lt (c k : Int) : drawn c k < 340282366920938463463374607431768211507 := Int.emod_lt_of_pos _ (by decide)
def R__law_cell (G : Pm) : R2' := fun x y H Q _ => ∃ (a : Addr) (ns : List Int) (k : Nat), x = .ref a ∧ y = .int (k : Int) ∧ SqL G.K H a (ns.map V.int) ∧ ns.length ≤ 63 ∧ k ≤ 1000 ∧ RetV (.int (cellS ns k)) H Q
def R__law_drawn (G : Pm) : R2' := fun x y H Q _ => ∃ c k : Int, x = .int c ∧ y = .int k ∧ 0 ≤ k ∧ k ≤ 1000000 ∧ RetV (.int (drawn c k)) H Q
abbrev n__law_cell : List Str := ["_law_script", "_law_k"]
abbrev p__law_cell : List Str := ["_law_script", "_law_k"]
def sp__law_cell (G : Pm) : Sp := sp2 (R__law_cell G)
def t__law_cell (G : Pm) (E : XK) : TS :=
  (tSeq (tIfS (tTest (tOp (rEqD G.K) (tVar 0) (tLst tNil)))
  (tRet (tOp oMul (tVar 1) (tC (.int 7919))))
  tNext)
  (tRet (tOp oAdd (tOp (rIxL G.K) (tVar 0) (tOp oMod (tVar 1) (tCB (bLenQ G.K) (tCons (tVar 0) tNil)))) (tOp oMul (tOp oDiv (tVar 1) (tCB (bLenQ G.K) (tCons (tVar 0) tNil))) (tC (.int 104729))))))
def P__law_cell (G : Pm) : Prop := ∀ x0 x1 H Q E, R__law_cell G x0 x1 H Q E → t__law_cell G E (dn Q) (start n__law_cell [x0, x1]) H
abbrev n__law_drawn : List Str := ["_law_cell_here", "_law_k", "_law_more"]
abbrev p__law_drawn : List Str := ["_law_cell_here", "_law_k"]
def sp__law_drawn (G : Pm) : Sp := sp2 (R__law_drawn G)
def t__law_drawn (G : Pm) (E : XK) : TS :=
  (tSeq (tAsg (tOp oMod (tOp oAdd (tOp oMul (tVar 0) (tC (.int 6364136223846793005))) (tOp oMul (tOp oAdd (tVar 1) (tC (.int 1))) (tC (.int 1442695040888963407)))) (tC (.int 340282366920938463463374607431768211507))) (gName 2))
  (tSeq (tAsg (tOp oMod (tOp oMul (tVar 2) (tVar 2)) (tC (.int 340282366920938463463374607431768211297))) (gName 2))
  (tSeq (tAsg (tOp oMul (tOp oMul (tOp oAdd (tOp oMod (tVar 2) (tC (.int 18446744073709551557))) (tC (.int 1))) (tOp oAdd (tOp oDiv (tVar 2) (tC (.int 18446744073709551557))) (tC (.int 1)))) (tVar 2)) (gName 2))
  (tRet (tOp oMod (tVar 2) (tC (.int 340282366920938463463374607431768211507)))))))
def P__law_drawn (G : Pm) : Prop := ∀ x0 x1 H Q E, R__law_drawn G x0 x1 H Q E → t__law_drawn G E (dn Q) (start n__law_drawn [x0, x1]) H
theorem cm_r {i j : Int} (h1 : -(2 ^ 64) < j) (h2 : j < 2 ^ 64) : CM i j := .inl (.inr ⟨h1, h2⟩)
theorem cm_l {i j : Int} (h1 : -(2 ^ 64) < i) (h2 : i < 2 ^ 64) : CM i j := .inl (.inl ⟨h1, h2⟩)
theorem cdiv_w {i j : Int} (h : 0 < j) (h2 : j < 2 ^ 62) : CDivW i j := wide_div (b := 62) h (by omega) (by decide) (by decide)
theorem pure__law_cell (G : Pm) : P__law_cell G := by
  intro x0 x1 H Q E h
  obtain ⟨a, ns, k, rfl, rfl, hS, hl, hk, q⟩ := h
  refine q_when (b := decide (ns = [])) ?_ (fun hb H1 e1 => ?_) (fun hb H1 e1 => ?_)
  · refine et_test (ev_is (ev_opL (ev_var rfl) (el_lst ea_nil (Nat.zero_le _)) fun p H1 h1 e1 => rv_eqD (dp_il (ex_l e1 hS)) (dp_il (ns := []) (sq_of h1)) (sh_il _) (sh_il _)) ?_)
    rw [eqv_il]
  · have e0 : ns = [] := of_decide_eq_true hb
    refine s_ret (v := .int ((k : Int) * 7919)) ?_ fun H2 e2 => ?_
    · walk_at "ev"
      exact cm_r (by decide) (by decide)
    · have := q.go (e1.trans e2)
      unfold cellS at this
      rw [if_pos e0] at this
      exact this
  · have e0 : ns ≠ [] := of_decide_eq_false hb
    have lp : 0 < ns.length := List.length_pos_iff.mpr e0
    have lq : (0 : Int) < ((ns.map V.int).length : Int) := by
      rw [List.length_map]
      omega
    have hS1 := ex_l e1 hS
    have hm : k % ns.length < ns.length := Nat.mod_lt _ lp
    refine s_ret (v := .int (cellS ns k)) ?_ fun H2 e2 => q.go (e1.trans e2)
    refine ev_is (ev_op (ev_op (ev_var rfl) (ev_op (ev_var rfl) (ev_lenL (ev_var rfl) hS1) (rv_I lq)) (rv_ixL hS1 (v := .int (ns.getD (k % ns.length) 0)) ?_)) (ev_op (ev_op (ev_var rfl) (ev_lenL (ev_var rfl) hS1) (rv_I (cdiv_w lq ?_))) ev_c (rv_I (cm_r (by decide) (by decide)))) rv_I0) ?_
    · rw [List.length_map, ← Int.natCast_emod]
      refine atI_nat ?_
      rw [List.getElem?_map, List.getElem?_eq_getElem hm, List.getD_eq_getElem?_getD, List.getElem?_eq_getElem hm]
      rfl
    · rw [List.length_map]
      omega
    · rw [List.length_map, ← Int.natCast_ediv]
      unfold cellS
      rw [if_neg e0]
theorem two_128 : (340282366920938463463374607431768211507 : Int) < 2 ^ 129 := by decide
theorem na_lt {i : Int} {n : Nat} (h0 : 0 ≤ i) (h : i < 2 ^ n) : i.natAbs < 2 ^ n := by
  have e : ((2 ^ n : Nat) : Int) = (2 : Int) ^ n := by
    rw [Int.natCast_pow]
    rfl
  omega
theorem pure__law_drawn (G : Pm) : P__law_drawn G := by
  intro x0 x1 H Q E h
  obtain ⟨c, k, rfl, rfl, k0, k1, q⟩ := h
  have a0 : 0 ≤ (c * 6364136223846793005 + (k + 1) * 1442695040888963407) % 340282366920938463463374607431768211507 := Int.emod_nonneg _ (by decide)
  have a1 : (c * 6364136223846793005 + (k + 1) * 1442695040888963407) % 340282366920938463463374607431768211507 < 2 ^ 129 := Int.lt_trans (Int.emod_lt_of_pos _ (by decide)) two_128
  refine q_asg (v := .int ((c * 6364136223846793005 + (k + 1) * 1442695040888963407) % 340282366920938463463374607431768211507)) ?_ fun H1 e1 => ?_
  · walk_at "ev"
    · exact cm_r (by decide) (by decide)
    · exact cm_r (by decide) (by decide)
    · decide
  generalize hm1 : (c * 6364136223846793005 + (k + 1) * 1442695040888963407) % 340282366920938463463374607431768211507 = m1 at *
  have b0 : 0 ≤ m1 * m1 % 340282366920938463463374607431768211297 := Int.emod_nonneg _ (by decide)
  have b1 : m1 * m1 % 340282366920938463463374607431768211297 < 340282366920938463463374607431768211297 := Int.emod_lt_of_pos _ (by decide)
  refine q_asg (v := .int (m1 * m1 % 340282366920938463463374607431768211297)) ?_ fun H2 e2 => ?_
  · walk_at "ev"
    · exact .inr (wide_mul (a := 129) (b := 129) (na_lt a0 a1) (na_lt a0 a1) (by decide) (by decide) (by decide))
    · decide
  generalize hm2 : m1 * m1 % 340282366920938463463374607431768211297 = m2 at *
  refine q_asg (v := .int ((m2 % 18446744073709551557 + 1) * (m2 / 18446744073709551557 + 1) * m2)) ?_ fun H3 e3 => ?_
  · have d0 : 0 ≤ m2 % 18446744073709551557 := Int.emod_nonneg _ (by decide)
    have d1 : m2 % 18446744073709551557 < 18446744073709551557 := Int.emod_lt_of_pos _ (by decide)
    have f0 : 0 ≤ m2 / 18446744073709551557 := by omega
    have f1 : m2 / 18446744073709551557 < 2 ^ 65 := by omega
    walk_at "ev"
    · decide
    · exact wide_div (b := 64) (by decide) (by decide) (by decide) (by decide)
    · exact cm_l (by omega) (by omega)
    · refine .inr (wide_mul (a := 200) (b := 129) (Nat.lt_of_lt_of_le (wide_lt (a := 65) (b := 66) (na_lt (by omega) (by omega)) (na_lt (by omega) (by omega))) (by decide)) (na_lt b0 (by omega)) (by decide) (by decide) (by decide))
  refine s_ret (v := .int (drawn c k)) ?_ fun H4 e4 => q.go (((e1.trans e2).trans e3).trans e4)
  refine ev_is (v := .int ((m2 % 18446744073709551557 + 1) * (m2 / 18446744073709551557 + 1) * m2 % 340282366920938463463374607431768211507)) ?_ ?_
  · walk_at "ev"
    decide
  · unfold drawn
    rw [hm1]
    dsimp only
    rw [hm2]
end Sv

set_option Elab.async false
set_option linter.all false
set_option maxRecDepth 100000
set_option maxHeartbeats 4000000
namespace Sv
open PySem PySem.Spec PyProof.Rows L2 Evl
local macro_rules | `(tactic| walk_at "ev") => `(tactic| (repeat' (first | exact ev_var rfl | exact ev_c | exact rv_I0 | exact ea_nil | exact ru_neg | exact rv_eq rfl | exact rv_ne rfl | apply ev_op | apply rv_I | apply ev_un | apply et_test | apply et_B | apply et_not | apply ea_cons | apply ev_maxI | apply ev_minI)))
/-! ### rests: the specs -/
inductive Rows (K : PySem.W.Frag) (H : Hp) : List V → List (Nat × Nat) → Prop
  | nil : Rows K H [] []
  | cons {t : Addr} {p : Nat × Nat} {xs : List V} {ps : List (Nat × Nat)} : SqT K H t [.int (p.1 : Int), .int (p.2 : Int)] → Rows K H xs ps → Rows K H (.ref t :: xs) (p :: ps)
theorem Rows.ex {K : PySem.W.Frag} {H H' : Hp} (e : Ex H H') : ∀ {xs : List V} {ps : List (Nat × Nat)}, Rows K H xs ps → Rows K H' xs ps
  | _, _, .nil => .nil
  | _, _, .cons h r => .cons (ex_t e h) (r.ex e)
theorem Rows.len {K : PySem.W.Frag} {H : Hp} : ∀ {xs : List V} {ps : List (Nat × Nat)}, Rows K H xs ps → xs.length = ps.length
  | _, _, .nil => rfl
  | _, _, .cons _ r => congrArg (· + 1) r.len
theorem Rows.app {K : PySem.W.Frag} {H : Hp} : ∀ {xs ys : List V} {ps qs : List (Nat × Nat)}, Rows K H xs ps → Rows K H ys qs → Rows K H (xs ++ ys) (ps ++ qs)
  | _, _, _, _, .nil, s => s
  | _, _, _, _, .cons h r, s => .cons h (r.app s)
theorem Rows.rev {K : PySem.W.Frag} {H : Hp} : ∀ {xs : List V} {ps : List (Nat × Nat)}, Rows K H xs ps → Rows K H xs.reverse ps.reverse
  | _, _, .nil => .nil
  | _, _, .cons h r => by
    rw [List.reverse_cons, List.reverse_cons]
    exact r.rev.app (.cons h .nil)
theorem Rows.at {K : PySem.W.Frag} {H : Hp} : ∀ {xs : List V} {ps : List (Nat × Nat)} {i : Nat} {x : V}, Rows K H xs ps → xs[i]? = some x → ∃ t p, x = .ref t ∧ ps[i]? = some p ∧ SqT K H t [.int (p.1 : Int), .int (p.2 : Int)]
  | _, _, _, _, .nil, h => by simp at h
  | _, _, 0, x, .cons (t := t) (p := p) h r, e => by
    simp at e
    exact ⟨t, p, e.symm, rfl, h⟩
  | _, _, i + 1, x, .cons h r, e => r.at (by simpa using e)
def pd (p : Nat × Nat) : PyData := .tuple [.int (p.1 : Int), .int (p.2 : Int)]
theorem Rows.dp {K : PySem.W.Frag} {H : Hp} : ∀ {xs : List V} {ps : List (Nat × Nat)}, Rows K H xs ps → DpAll K H xs (ps.map pd)
  | _, _, .nil => .nil
  | _, _, .cons h r => .cons (.tup h (.cons (.int _) (.cons (.int _) .nil))) r.dp
theorem can_pd : ∀ ps : List (Nat × Nat), PyData.canLayAll0 (ps.map pd) = true
  | [] => by simp [PyData.canLayAll0]
  | p :: ps => by simp [PyData.canLayAll0, PyData.canLay0, pd, can_pd ps]
theorem dep_pd : ∀ ps : List (Nat × Nat), PyData.depthAll (ps.map pd) ≤ 1
  | [] => by simp [PyData.depthAll]
  | p :: ps => by
    have := dep_pd ps
    simp [PyData.depthAll, PyData.depth, pd] at *
    omega
theorem sh_rows (ps : List (Nat × Nat)) : SeqAt.shaped (.list (ps.map pd)) = true := by
  have := dep_pd ps
  simp [SeqAt.shaped, PyData.canLay0, PyData.depth, can_pd]
  omega
def RowsAt (K : PySem.W.Frag) (H : Hp) (a : Addr) (ps : List (Nat × Nat)) : Prop := ∃ xs, SqL K H a xs ∧ Rows K H xs ps
theorem RowsAt.ex {K : PySem.W.Frag} {H H' : Hp} {a : Addr} {ps : List (Nat × Nat)} (e : Ex H H') (h : RowsAt K H a ps) : RowsAt K H' a ps := by
  obtain ⟨xs, h1, h2⟩ := h
  exact ⟨xs, ex_l e h1, h2.ex e⟩
/-- what met tells of ps -/
def Told (K : PySem.W.Frag) (H : Hp) (v : V) (ps : List (Nat × Nat)) : Prop :=
  ((¬ ∃ z, Sol ps z) ∧ v = .non) ∨ ∃ (R : Nat) (t : Addr), Sol ps R ∧ R < lcmL ps ∧ v = .ref t ∧ SqT K H t [.int (R : Int), .int (lcmL ps : Int)]
theorem Told.ex {K : PySem.W.Frag} {H H' : Hp} {v : V} {ps : List (Nat × Nat)} (e : Ex H H') (h : Told K H v ps) : Told K H' v ps := by
  rcases h with h | ⟨R, t, h1, h2, h3, h4⟩
  · exact .inl h
  · exact .inr ⟨R, t, h1, h2, h3, ex_t e h4⟩
def Good (ps : List (Nat × Nat)) : Prop := ∀ p ∈ ps, p.1 < p.2 ∧ p.2 ≤ 2000
def R_common (_ : Pm) : R2' := fun x y H Q _ => ∃ a b : Nat, x = .int (a : Int) ∧ y = .int (b : Int) ∧ RetV (.int ((Nat.gcd a b : Nat) : Int)) H Q
def R__law_common : Pm → R2' := R_common
def R_is_pair (G : Pm) : R1 := fun x H Q _ => ∃ (t : Addr) (p : Nat × Nat), x = .ref t ∧ SqT G.K H t [.int (p.1 : Int), .int (p.2 : Int)] ∧ p.1 < p.2 ∧ p.2 ≤ 2000 ∧ RetV (.bl true) H Q
def R_met (G : Pm) : R1 := fun x H Q _ => ∃ (a : Addr) (ps : List (Nat × Nat)), x = .ref a ∧ RowsAt G.K H a ps ∧ ps.length ≤ 6 ∧ Good ps ∧ ∀ v H2, Ex H H2 → Told G.K H2 v ps → Q v H2
def R__law_against (G : Pm) : R1 := fun x H Q _ => ∃ (a : Addr) (ps : List (Nat × Nat)), x = .ref a ∧ RowsAt G.K H a ps ∧ Good ps ∧ ∀ b : Bool, (b = true ↔ ¬ Pairw ps) → RetV (.bl b) H Q
def R_law (G : Pm) : R1 := fun v H Q _ => ∃ (a : Addr) (ns : List Int), v = .ref a ∧ SqL G.K H a (ns.map V.int) ∧ ns.length ≤ 63 ∧ (∀ z ∈ ns, Builtin.Int.intBits z ≤ 1048576) ∧ ∀ H', Q (.bl true) H'
abbrev n_common : List Str := ["one", "other"]
abbrev p_common : List Str := ["one", "other"]
def sp_common (G : Pm) : Sp := sp2 (R_common G)
def t_common (G : Pm) (E : XK) : TS :=
  (tSeq (tWhile (tTest (tOp cGt (tVar 1) (tC (.int 0))))
  (tPar 0 1 (tCons (tVar 1) (tCons (tOp oMod (tVar 0) (tVar 1)) tNil))))
  (tRet (tVar 0)))
def P_common (G : Pm) : Prop := ∀ x0 x1 H Q E, R_common G x0 x1 H Q E → t_common G E (dn Q) (start n_common [x0, x1]) H
abbrev n_is_pair : List Str := ["thing", "rest", "modulus", "one"]
abbrev p_is_pair : List Str := ["thing"]
def sp_is_pair (G : Pm) : Sp := sp1 (R_is_pair G)
def t_is_pair (G : Pm) (E : XK) : TS :=
  (tSeq (tIfS (tOr (tNot (tB (tCB (rIsi G.K) (tCons (tVar 0) (tCons (tC (.ty "tuple")) tNil))))) (tTest (tOp rNe (tCB (bLenQ G.K) (tCons (tVar 0) tNil)) (tC (.int 2)))))
  (tRet (tC (.bl false)))
  tNext)
  (tSeq (tAsg (tVar 0) (gTup G.K 2 (gCons (gName 1) (gCons (gName 2) gNil))))
  (tSeq (tIfS (tB (tCB (rAny G.K) (tCons (tLc (iTup G.K (tVar 0)) (gName 3) tYes (tOrV (tNotV (tCB (rIsi G.K) (tCons (tVar 3) (tCons (tC (.ty "int")) tNil)))) (tCB (rIsi G.K) (tCons (tVar 3) (tCons (tC (.ty "bool")) tNil)))) [3]) tNil)))
  (tRet (tC (.bl false)))
  tNext)
  (tRet (tAndV (tChain cLe cLe (tC (.int 1)) (tVar 2) (tC (.int 2000))) (tChain cLe cLt (tC (.int 0)) (tVar 1) (tVar 2)))))))
def P_is_pair (G : Pm) : Prop := ∀ x0 H Q E, R_is_pair G x0 H Q E → t_is_pair G E (dn Q) (start n_is_pair [x0]) H
abbrev n_met : List Str := ["pairs", "rest", "modulus", "own", "other", "by", "step", "pair"]
abbrev p_met : List Str := ["pairs"]
def sp_met (G : Pm) : Sp := sp1 (R_met G)
def t_met (G : Pm) (E : XK) : TS :=
  (tSeq (tIfS (tOr (tNot (tB (tCB (rIsi G.K) (tCons (tVar 0) (tCons (tC (.ty "list")) tNil))))) (tOr (tTest (tOp cGt (tCB (bLenQ G.K) (tCons (tVar 0) tNil)) (tC (.int 6)))) (tNot (tB (tCB (rAll G.K) (tCons (tLc (iList G.K (tVar 0)) (gName 7) tYes (tCall (sp_is_pair G) [] E0 (tCons (tVar 7) tNil)) [7]) tNil))))))
  (tRaise G.BadNumber E)
  tNext)
  (tSeq (tAsg (tTup (tCons (tC (.int 0)) (tCons (tC (.int 1)) tNil))) (gTup G.K 2 (gCons (gName 1) (gCons (gName 2) gNil))))
  (tSeq (tFor (iList G.K (tVar 0)) (gTup G.K 2 (gCons (gName 3) (gCons (gName 4) gNil)))
  (tSeq (tAsg (tCall (sp_common G) [] E (tCons (tVar 2) (tCons (tVar 4) tNil))) (gName 5))
  (tSeq (tIfS (tTest (tOp rNe (tOp oMod (tOp oSub (tVar 3) (tVar 1)) (tVar 5)) (tC (.int 0))))
  (tRet (tC .non))
  tNext)
  (tSeq (tAsg (tC (.int 0)) (gName 6))
  (tSeq (tWhile (tTest (tOp rNe (tOp oMod (tOp oSub (tOp oAdd (tVar 1) (tOp oMul (tVar 6) (tVar 2))) (tVar 3)) (tVar 4)) (tC (.int 0))))
  (tAsg (tOp oAdd (tVar 6) (tC (.int 1))) (gName 6)))
  (tSeq (tAsg (tOp oAdd (tVar 1) (tOp oMul (tVar 6) (tVar 2))) (gName 1))
  (tAsg (tOp oMul (tOp oDiv (tVar 2) (tVar 5)) (tVar 4)) (gName 2))))))))
  (tRet (tTup (tCons (tVar 1) (tCons (tVar 2) tNil)))))))
def P_met (G : Pm) : Prop := ∀ x0 H Q E, R_met G x0 H Q E → t_met G E (dn Q) (start n_met [x0]) H
abbrev n__law_common : List Str := ["_law_one", "_law_other"]
abbrev p__law_common : List Str := ["_law_one", "_law_other"]
def sp__law_common (G : Pm) : Sp := sp2 (R__law_common G)
def t__law_common (G : Pm) (E : XK) : TS :=
  (tSeq (tWhile (tTest (tOp cGt (tVar 1) (tC (.int 0))))
  (tPar 0 1 (tCons (tVar 1) (tCons (tOp oMod (tVar 0) (tVar 1)) tNil))))
  (tRet (tVar 0)))
def P__law_common (G : Pm) : Prop := ∀ x0 x1 H Q E, R__law_common G x0 x1 H Q E → t__law_common G E (dn Q) (start n__law_common [x0, x1]) H
abbrev n__law_against : List Str := ["_law_pairs", "_law_rest", "_law_modulus", "_law_other", "_law_far", "_law_both"]
abbrev p__law_against : List Str := ["_law_pairs"]
def sp__law_against (G : Pm) : Sp := sp1 (R__law_against G)
def t__law_against (G : Pm) (E : XK) : TS :=
  (tSeq (tFor (iList G.K (tVar 0)) (gTup G.K 2 (gCons (gName 1) (gCons (gName 2) gNil)))
  (tFor (iList G.K (tVar 0)) (gTup G.K 2 (gCons (gName 3) (gCons (gName 4) gNil)))
  (tSeq (tAsg (tCall (sp__law_common G) [] E (tCons (tVar 2) (tCons (tVar 4) tNil))) (gName 5))
  (tIfS (tTest (tOp rNe (tOp oMod (tOp oSub (tVar 1) (tVar 3)) (tVar 5)) (tC (.int 0))))
  (tRet (tC (.bl true)))
  tNext))))
  (tRet (tC (.bl false))))
def P__law_against (G : Pm) : Prop := ∀ x0 H Q E, R__law_against G x0 H Q E → t__law_against G E (dn Q) (start n__law_against [x0]) H
/-! ### common -/
theorem gcd_loop {tz : TS} {D : Ends} {H : Hp} (a b : Nat) (k : ∀ H1, Ex H H1 → ∀ y : Nat, tz D [some (.int ((Nat.gcd a b : Nat) : Int)), some (.int (y : Int))] H1) :
    tSeq (tWhile (tTest (tOp cGt (tVar 1) (tC (.int 0)))) (tPar 0 1 (tCons (tVar 1) (tCons (tOp oMod (tVar 0) (tVar 1)) tNil)))) tz D [some (.int (a : Int)), some (.int (b : Int))] H := by
  refine q_whl (fun m σ' H' => ∃ a' b' : Nat, σ' = [some (.int (a' : Int)), some (.int (b' : Int))] ∧ m = b' ∧ Nat.gcd a' b' = Nat.gcd a b ∧ Ex H H') b ⟨a, b, rfl, rfl, rfl, Ex.refl H⟩ ?_
  rintro m σ' H' ⟨a', b', rfl, rfl, hg, e⟩
  refine ⟨decide ((0 : Int) < (m : Int)), ?_, fun hb H1 e1 => ?_, fun hb H1 e1 => ?_⟩
  · walk_at "ev"
  · have hp : 0 < m := by
      have := of_decide_eq_true hb
      omega
    refine s_par (v := .int (m : Int)) (w := .int ((a' % m : Nat) : Int)) (ev_var rfl) ?_ fun H2 e2 => ?_
    · rw [Int.natCast_emod]
      walk_at "ev"
      omega
    · refine ⟨a' % m, Nat.mod_lt _ hp, m, a' % m, rfl, rfl, ?_, (e.trans e1).trans e2⟩
      rw [← hg, Nat.gcd_comm a' m, Nat.gcd_rec m a', Nat.gcd_comm]
  · have h0 : m = 0 := by
      have := of_decide_eq_false hb
      omega
    subst h0
    rw [Nat.gcd_zero_right] at hg
    have := k H1 (e.trans e1) 0
    rw [← hg] at this
    exact this
theorem pure_common (G : Pm) : P_common G := by
  intro x0 x1 H Q E h
  obtain ⟨a, b, rfl, rfl, q⟩ := h
  exact gcd_loop a b fun H1 e1 y => s_ret (ev_var rfl) fun H2 e2 => q.go (e1.trans e2)
theorem pure__law_common (G : Pm) : P__law_common G := by
  intro x0 x1 H Q E h
  obtain ⟨a, b, rfl, rfl, q⟩ := h
  exact gcd_loop a b fun H1 e1 y => s_ret (ev_var rfl) fun H2 e2 => q.go (e1.trans e2)
/-! ### is_pair -/
theorem pure_is_pair (G : Pm) : P_is_pair G := by
  intro x0 H Q E h
  obtain ⟨t, ⟨r, m⟩, rfl, hS, h1, h2, q⟩ := h
  dsimp only at *
  refine q_when (b := !true || !decide (V.int (([V.int (r : Int), V.int (m : Int)]).length : Int) = V.int 2)) ?_ (fun hb H1 e1 => by simp at hb) fun hb H1 e1 => ?_
  · refine et_or (et_not (et_B (ev_isi (ev_var rfl) (fun H1 e => ty_t (ex_t e hS)) (by decide +kernel)))) fun _ => et_test (ev_op (ev_lenT (ev_var rfl) hS) ev_c (rv_ne rfl))
  refine q_tup2 (ev_var rfl) (ex_t e1 hS) fun H2 e2 => ?_
  have hS2 := ex_t (e1.trans e2) hS
  refine q_when (b := [false, false].any id) ?_ (fun hb H1 e1 => by simp at hb) fun hb H3 e3 => ?_
  · refine et_B (ev_anyN (el_mapT [.bl false, .bl false] (ev_var rfl) hS2 rfl (by show 2 ≤ 40000; decide) (fun x => rfl) ?_))
    intro i x y H1 e hi hy
    have hx : ∃ n : Int, x = .int n := by
      match i, hi with
      | 0, hi => exact ⟨_, (Option.some.inj hi).symm⟩
      | 1, hi => exact ⟨_, (Option.some.inj hi).symm⟩
    have hyy : y = .bl false := by
      match i, hy with
      | 0, hy => exact (Option.some.inj hy).symm
      | 1, hy => exact (Option.some.inj hy).symm
    obtain ⟨n, rfl⟩ := hx
    subst hyy
    exact ev_orV (a := !true) (b := false) (ev_notV (ev_isi (ev_var rfl) (fun H1 e => .base (.int n)) (by decide +kernel))) fun _ => ev_isi (ev_var rfl) (fun H1 e => .base (.int n)) (by decide +kernel)
  refine s_ret (v := .bl true) ?_ fun H4 e4 => q.go (((e1.trans e2).trans e3).trans e4)
  refine ev_is (ev_andV (ev_chain ev_c (ev_var rfl) rv_I0 (fun _ => ev_c) fun _ => rv_I0) fun _ => ev_chain ev_c (ev_var rfl) rv_I0 (fun _ => ev_var rfl) fun _ => rv_I0) ?_
  congr 1
  have a1 : (1 : Int) ≤ (m : Int) := by omega
  have a2 : (m : Int) ≤ 2000 := by omega
  have a3 : (0 : Int) ≤ (r : Int) := by omega
  have a4 : (r : Int) < (m : Int) := by omega
  simp [a1, a2, a3, a4]
/-! ### met -/
theorem bl_rep (n : Nat) : (List.replicate n true).map V.bl = List.replicate n (.bl true) := List.map_replicate
theorem rep_at {n i : Nat} {x y : V} (h : (List.replicate n x)[i]? = some y) : y = x := (List.mem_replicate.mp (List.mem_of_getElem? h)).2
theorem good_take {ps : List (Nat × Nat)} (h : Good ps) (i : Nat) : ∀ p ∈ ps.take i, 0 < p.2 := fun p hp => by
  have := (h p (List.mem_of_mem_take hp)).1
  omega
theorem lcm_le : ∀ qs : List (Nat × Nat), (∀ p ∈ qs, p.1 < p.2 ∧ p.2 ≤ 2000) → lcmL qs ≤ 2000 ^ qs.length
  | [], _ => Nat.le_refl _
  | p :: qs, h => by
    have h1 := (h p List.mem_cons_self).2
    have h2 := lcm_le qs fun q hq => h q (List.mem_cons_of_mem _ hq)
    have h3 : lcmL (p :: qs) ≤ p.2 * lcmL qs := Nat.div_le_self _ _
    refine Nat.le_trans h3 (Nat.le_trans (Nat.mul_le_mul h1 h2) ?_)
    rw [List.length_cons, Nat.pow_succ, Nat.mul_comm]
    exact Nat.le_refl _
theorem lcm_lt {ps : List (Nat × Nat)} (h : Good ps) (hl : ps.length ≤ 6) : lcmL ps ≤ 2000 ^ 6 := Nat.le_trans (lcm_le ps h) (Nat.pow_le_pow_right (by decide) hl)
theorem dvd_dec {g : Nat} {z : Int} (hg : 0 < g) : (!decide (V.int (z % (g : Int)) = V.int 0)) = false ↔ (g : Int) ∣ z := by
  rw [Bool.not_eq_false', decide_eq_true_iff]
  constructor
  · intro h
    exact Int.dvd_of_emod_eq_zero (V.int.inj h)
  · intro h
    rw [Int.emod_eq_zero_of_dvd h]
theorem pure_met (G : Pm) : P_met G := by
  intro x0 H Q E h
  obtain ⟨a, ps, rfl, ⟨xs, hS, hR⟩, hl, hG, q⟩ := h
  have hlen : xs.length = ps.length := hR.len
  have h6 : xs.length ≤ 6 := by omega
  refine q_when (b := !true || (decide ((6 : Int) < (xs.length : Int)) || !(List.replicate xs.length true).all id)) ?_ (fun hb H1 e1 => ?_) fun hb H1 e1 => ?_
  · refine et_or (et_not (et_B (ev_isi (ev_var rfl) (fun H1 e => ty_l (ex_l e hS)) (by decide +kernel)))) fun _ => et_or (et_test (ev_op (ev_lenL (ev_var rfl) hS) ev_c rv_I0)) fun _ => et_not (et_B (ev_allN ?_))
    rw [bl_rep]
    refine el_mapL _ (ev_var rfl) hS (List.length_replicate ..) (by omega) (fun x => rfl) fun i x y H1 e hi hy => ?_
    rw [rep_at hy]
    obtain ⟨t, p, rfl, hp, hT⟩ := hR.at hi
    have := hG p (List.mem_of_getElem? hp)
    exact ev_ca1 (ev_var rfl) fun H2 e2 Q' q' => ⟨t, p, rfl, ex_t (e.trans e2) hT, this.1, this.2, q'⟩
  · have : ¬ ((6 : Int) < (xs.length : Int)) := by omega
    simp [this] at hb
  refine q_tup2N (eu_tup (ea_cons ev_c (ea_cons ev_c ea_nil)) (by show 2 ≤ 100000; decide)) fun H2 e2 => ?_
  have E2 := e1.trans e2
  refine q_forL (ev_var rfl) (ex_l E2 hS) (fun i σ' H' => ∃ (R : Nat) (y3 y4 y5 y6 y7 : Option V), σ' = [some (.ref a), some (.int (R : Int)), some (.int (lcmL (ps.take i) : Int)), y3, y4, y5, y6, y7] ∧ Sol (ps.take i) R ∧ R < lcmL (ps.take i) ∧ Ex H H')
    (fun H3 e3 => ⟨0, _, _, _, _, _, rfl, fun _ h => by simp at h, by simp [lcmL], E2.trans e3⟩) (fun i σ' H' _ ⟨R, _, _, _, _, _, _, _, _, e⟩ => ex_l e hS) ?_ ?_
  · rintro i x σ' H' hi ⟨R, y3, y4, y5, y6, y7, rfl, hR1, hR2, e⟩
    obtain ⟨t, ⟨r, m⟩, rfl, hp, hT⟩ := hR.at hi
    have hpm := hG _ (List.mem_of_getElem? hp)
    dsimp only at hpm hT
    have hm : 0 < m := by omega
    have hM : 0 < lcmL (ps.take i) := lcmL_pos (good_take hG i)
    have hMb : lcmL (ps.take i) ≤ 2000 ^ 6 := lcm_lt (fun p hp => hG p (List.mem_of_mem_take hp)) (Nat.le_trans (List.length_take_le' _ _) hl)
    have htk : ps.take (i + 1) = ps.take i ++ [(r, m)] := by
      rw [List.take_add_one, hp]
      rfl
    generalize hMe : lcmL (ps.take i) = M at *
    have hg : 0 < Nat.gcd M m := Nat.gcd_pos_of_pos_left _ hM
    refine g_tup2 (ex_t e hT) ?_
    refine q_asg (v := .int ((Nat.gcd M m : Nat) : Int)) (ev_ca2 (ev_var rfl) (ev_var rfl) fun H3 e3 Q' q' => ⟨M, m, rfl, rfl, q'⟩) fun H3 e3 => ?_
    refine q_when (b := !decide (V.int (((r : Int) - (R : Int)) % ((Nat.gcd M m : Nat) : Int)) = V.int 0)) ?_ (fun hb H4 e4 => ?_) fun hb H4 e4 => ?_
    · walk_at "ev"
      omega
    · refine s_ret (v := .non) ev_c fun H5 e5 => q _ _ (((e.trans e3).trans e4).trans e5) (.inl ⟨?_, rfl⟩)
      rintro ⟨z, hz⟩
      have d1 : (M : Int) ∣ (z : Int) - (R : Int) := by
        rw [← hMe]
        exact sol_dvd (sol_sub hz fun p hp => List.mem_of_mem_take hp) hR1
      have d2 := sol_gcd (r := r) (m := m) d1 (hz (r, m) (List.mem_of_getElem? hp))
      rw [(dvd_dec hg).mpr d2] at hb
      cases hb
    · have d := (dvd_dec hg).mp hb
      obtain ⟨s0, hs0, hd0⟩ := step_some hm d
      refine q_asg (v := .int 0) ev_c fun H5 e5 => ?_
      refine q_whl (fun k σ' H' => ∃ s : Nat, σ' = [some (.ref a), some (.int (R : Int)), some (.int (M : Int)), some (.int (r : Int)), some (.int (m : Int)), some (.int ((Nat.gcd M m : Nat) : Int)), some (.int (s : Int)), y7] ∧ s + k = s0 ∧ Ex H H') s0 ⟨0, rfl, by omega, ((e.trans e3).trans e4).trans e5⟩ ?_
      rintro k σ' H' ⟨s, rfl, hk, e'⟩
      have hsb : (s : Int) < 2 ^ 62 := by
        have : m / Nat.gcd M m ≤ m := Nat.div_le_self _ _
        omega
      refine ⟨!decide (V.int (((R : Int) + (s : Int) * (M : Int) - (r : Int)) % (m : Int)) = V.int 0), ?_, fun hb H6 e6 => ?_, fun hb H6 e6 => ?_⟩
      · walk_at "ev"
        · exact cm_l (by omega) (by omega)
        · omega
      · have hne : s ≠ s0 := by
          rintro rfl
          rw [(dvd_dec hm).mpr hd0] at hb
          cases hb
        refine s_asg (v := .int ((s + 1 : Nat) : Int)) ?_ fun H7 e7 => ⟨k - 1, by omega, s + 1, rfl, by omega, (e'.trans e6).trans e7⟩
        rw [Int.natCast_add]
        walk_at "ev"
      · have hd := (dvd_dec hm).mp hb
        have hR3 : Sol (ps.take (i + 1)) (R + s * M) := by
          rw [htk]
          have := sol_next (ps := ps.take i) (R := R) (r := r) (m := m) (s := s) hR1 hpm.1 (by rw [hMe]; exact hd)
          rw [hMe] at this
          exact this
        have hlc : lcmL (ps.take (i + 1)) = M / Nat.gcd M m * m := by
          rw [htk, lcmL_snoc, hMe, lcm_by]
        have hlt : R + s * M < lcmL (ps.take (i + 1)) := by
          rw [hlc, Nat.div_mul_right_comm (Nat.gcd_dvd_left M m), Nat.mul_div_assoc _ (Nat.gcd_dvd_right M m)]
          have h1 : s + 1 ≤ m / Nat.gcd M m := by omega
          have h2 := Nat.mul_le_mul_left M h1
          rw [Nat.mul_add, Nat.mul_comm M s] at h2
          omega
        refine q_asg (v := .int ((R + s * M : Nat) : Int)) ?_ fun H7 e7 => ?_
        · rw [Int.natCast_add, Int.natCast_mul]
          walk_at "ev"
          exact cm_l (by omega) (by omega)
        refine s_asg (v := .int (lcmL (ps.take (i + 1)) : Int)) ?_ fun H8 e8 => ⟨R + s * M, _, _, _, _, _, rfl, hR3, hlt, ((e'.trans e6).trans e7).trans e8⟩
        rw [hlc, Int.natCast_mul, Int.natCast_ediv]
        have hgm : Nat.gcd M m ≤ m := Nat.gcd_le_right _ hm
        walk_at "ev"
        · exact cdiv_w (by omega) (by omega)
        · exact cm_r (by omega) (by omega)
  · rintro σ' H' ⟨R, y3, y4, y5, y6, y7, rfl, hR1, hR2, e⟩
    rw [hlen, List.take_length] at hR1 hR2
    refine s_retU (xs := [.int (R : Int), .int (lcmL ps : Int)]) (eu_tup ?_ (by show 2 ≤ 100000; decide)) fun p H3 _ e3 h3 => q _ _ (e.trans e3) (.inr ⟨R, p, hR1, hR2, rfl, st_of h3⟩)
    rw [hlen, List.take_length]
    walk_at "ev"
/-! ### _law_against -/
theorem pure__law_against (G : Pm) : P__law_against G := by
  intro x0 H Q E h
  obtain ⟨a, ps, rfl, ⟨xs, hS, hR⟩, hG, q⟩ := h
  have hlen : xs.length = ps.length := hR.len
  refine q_forL (ev_var rfl) hS (fun i σ' H' => ∃ (y1 y2 y3 y4 y5 : Option V), σ' = [some (.ref a), y1, y2, y3, y4, y5] ∧ (∀ p ∈ ps.take i, ∀ r ∈ ps, ((Nat.gcd p.2 r.2 : Nat) : Int) ∣ (p.1 : Int) - (r.1 : Int)) ∧ Ex H H')
    (fun H1 e1 => ⟨_, _, _, _, _, rfl, fun _ h => by simp at h, e1⟩) (fun i σ' H' _ ⟨_, _, _, _, _, _, _, e⟩ => ex_l e hS) ?_ ?_
  · rintro i x σ' H' hi ⟨y1, y2, y3, y4, y5, rfl, hI, e⟩
    obtain ⟨t, ⟨r, m⟩, rfl, hp, hT⟩ := hR.at hi
    have hpm := hG _ (List.mem_of_getElem? hp)
    have htk : ps.take (i + 1) = ps.take i ++ [(r, m)] := by
      rw [List.take_add_one, hp]
      rfl
    dsimp only at hpm hT
    refine g_tup2 (ex_t e hT) ?_
    refine s_forL (ev_var rfl) (ex_l e hS) (fun j σ' H' => ∃ (y3 y4 y5 : Option V), σ' = [some (.ref a), some (.int (r : Int)), some (.int (m : Int)), y3, y4, y5] ∧ (∀ q ∈ ps.take j, ((Nat.gcd m q.2 : Nat) : Int) ∣ (r : Int) - (q.1 : Int)) ∧ Ex H H')
      (fun H1 e1 => ⟨_, _, _, rfl, fun _ h => by simp at h, e.trans e1⟩) (fun i σ' H' _ ⟨_, _, _, _, _, e⟩ => ex_l e hS) ?_ ?_
    · rintro j x σ' H' hj ⟨y3, y4, y5, rfl, hJ, e⟩
      obtain ⟨t, ⟨r', m'⟩, rfl, hp', hT'⟩ := hR.at hj
      have hpm' := hG _ (List.mem_of_getElem? hp')
      have htk' : ps.take (j + 1) = ps.take j ++ [(r', m')] := by
        rw [List.take_add_one, hp']
        rfl
      dsimp only at hpm' hT'
      have hg : 0 < Nat.gcd m m' := Nat.gcd_pos_of_pos_left _ (by omega)
      refine g_tup2 (ex_t e hT') ?_
      refine q_asg (v := .int ((Nat.gcd m m' : Nat) : Int)) (ev_ca2 (ev_var rfl) (ev_var rfl) fun H3 e3 Q' q' => ⟨m, m', rfl, rfl, q'⟩) fun H3 e3 => ?_
      refine s_when (b := !decide (V.int (((r : Int) - (r' : Int)) % ((Nat.gcd m m' : Nat) : Int)) = V.int 0)) ?_ (fun hb H4 e4 => ?_) fun hb H4 e4 => ?_
      · walk_at "ev"
        omega
      · refine s_ret (v := .bl true) ev_c fun H5 e5 => q true ?_ _ (((e.trans e3).trans e4).trans e5)
        refine ⟨fun _ hP => ?_, fun _ => rfl⟩
        have := hP _ (List.mem_of_getElem? hp) _ (List.mem_of_getElem? hp')
        rw [(dvd_dec hg).mpr this] at hb
        cases hb
      · refine ⟨_, _, _, rfl, fun q hq => ?_, (e.trans e3).trans e4⟩
        rw [htk'] at hq
        rcases List.mem_append.mp hq with z | z
        · exact hJ q z
        · rw [List.mem_singleton.mp z]
          exact (dvd_dec hg).mp hb
    · rintro σ' H' ⟨y3, y4, y5, rfl, hJ, e⟩
      rw [hlen, List.take_length] at hJ
      refine ⟨_, _, _, _, _, rfl, fun p hp r hr => ?_, e⟩
      rw [htk] at hp
      rcases List.mem_append.mp hp with z | z
      · exact hI p z r hr
      · rw [List.mem_singleton.mp z]
        exact hJ r hr
  · rintro σ' H' ⟨y1, y2, y3, y4, y5, rfl, hI, e⟩
    rw [hlen, List.take_length] at hI
    exact s_ret (v := .bl false) ev_c fun H1 e1 => q false ⟨fun h => (by cases h), fun h => (h hI).elim⟩ _ (e.trans e1)
end Sv

set_option Elab.async false
set_option linter.all false
set_option maxRecDepth 100000
set_option maxHeartbeats 4000000
namespace Sv
open PySem PySem.Spec PyProof.Rows L2 Evl
local macro_rules | `(tactic| walk_at "ev") => `(tactic| (repeat' (first | exact ev_var rfl | exact ev_c | exact rv_I0 | exact ea_nil | exact ru_neg | exact rv_eq rfl | exact rv_ne rfl | apply ev_op | apply rv_I | apply ev_un | apply et_test | apply et_B | apply et_not | apply ea_cons | apply ev_maxI | apply ev_minI)))
abbrev n_law : List Str := ["_law_script", "_law_k", "_law_more", "_law_number", "_law_pairs", "_law_j", "_law_here", "_law_modulus", "_law_rest", "_law_kept", "_law_told", "_law_whole"]
abbrev p_law : List Str := ["_law_script"]
def sp_law (G : Pm) : Sp := sp1 (R_law G)
def t_law (G : Pm) (E : XK) : TS :=
  (tSeq (tFor (iRng1 (tCons (tCB bMax2 (tCons (tC (.int 1)) (tCons (tCB bMin2 (tCons (tC (.int 4)) (tCons (tCB (bLenQ G.K) (tCons (tVar 0) tNil)) tNil))) tNil))) tNil)) (gName 1)
  (tSeq (tAsg (tCall (sp__law_drawn G) [] E (tCons (tCall (sp__law_cell G) [] E (tCons (tVar 0) (tCons (tVar 1) tNil))) (tCons (tVar 1) tNil))) (gName 2))
  (tSeq (tAsg (tOp oMod (tOp oDiv (tVar 2) (tC (.int 64))) (tOp oPow (tC (.int 10)) (tC (.int 9)))) (gName 3))
  (tSeq (tAsg (tLst tNil) (gName 4))
  (tSeq (tFor (iRng1 (tCons (tOp oMod (tVar 2) (tC (.int 7))) tNil)) (gName 5)
  (tSeq (tAsg (tCall (sp__law_drawn G) [] E (tCons (tVar 2) (tCons (tOp oAdd (tC (.int 10)) (tVar 5)) tNil))) (gName 6))
  (tSeq (tAsg (tOp oAdd (tC (.int 1)) (tOp oMod (tVar 6) (tOp (rIxL G.K) (tLst (tCons (tC (.int 6)) (tCons (tC (.int 30)) (tCons (tC (.int 2000)) tNil)))) (tOp oMod (tOp oDiv (tVar 2) (tC (.int 8))) (tC (.int 3)))))) (gName 7))
  (tSeq (tAsg (tOp (rIxL G.K) (tLst (tCons (tOp oMod (tVar 3) (tVar 7)) (tCons (tOp oMod (tOp oDiv (tVar 6) (tC (.int 4096))) (tVar 7)) tNil))) (tCB bInt1 (tCons (tOp rEq (tOp oMod (tOp oDiv (tVar 6) (tOp oPow (tC (.int 2)) (tC (.int 40)))) (tC (.int 6))) (tC (.int 0))) tNil))) (gName 8))
  (tDrop (tBM G.K "list" rAppend (tVar 4) (tCons (tTup (tCons (tVar 8) (tCons (tVar 7) tNil))) tNil)))))))
  (tSeq (tPar 9 10 (tCons (tCB (bListOf G.K) (tCons (tVar 4) tNil)) (tCons (tCall (sp_met G) [] E (tCons (tVar 4) tNil)) tNil)))
  (tSeq (tIfS (tOr (tTest (tOp (rNeD G.K) (tVar 4) (tVar 9))) (tTest (tOp (rNeD G.K) (tCall (sp_met G) [] E (tCons (tRevL G.K (tVar 4)) tNil)) (tVar 10))))
  (tRet (tC (.bl false)))
  tNext)
  (tSeq (tIfS (tTest (tOp rNe (tIsN (tVar 10)) (tCall (sp__law_against G) [] E (tCons (tVar 4) tNil))))
  (tRet (tC (.bl false)))
  tNext)
  (tSeq (tIfS (tB (tIsN (tVar 10)))
  tCont
  tNext)
  (tSeq (tAsg (tC (.int 1)) (gName 11))
  (tSeq (tFor (iList G.K (tVar 4)) (gTup G.K 2 (gCons (gName 8) (gCons (gName 7) gNil)))
  (tSeq (tIfS (tTest (tOp rNe (tOp oMod (tOp (rIxT G.K) (tVar 10) (tC (.int 0))) (tVar 7)) (tVar 8)))
  (tRet (tC (.bl false)))
  tNext)
  (tAsg (tOp oDiv (tOp oMul (tVar 11) (tVar 7)) (tCall (sp__law_common G) [] E (tCons (tVar 11) (tCons (tVar 7) tNil)))) (gName 11))))
  (tIfS (tOr (tTest (tOp rNe (tOp (rIxT G.K) (tVar 10) (tC (.int 1))) (tVar 11))) (tNot (tTest (tChain cLe cLt (tC (.int 0)) (tOp (rIxT G.K) (tVar 10) (tC (.int 0))) (tVar 11)))))
  (tRet (tC (.bl false)))
  tNext))))))))))))
  (tRet (tOp (rEqD G.K) (tCall (sp_met G) [] E (tCons (tLst tNil) tNil)) (tTup (tCons (tC (.int 0)) (tCons (tC (.int 1)) tNil))))))
def P_law (G : Pm) : Prop := ∀ x0 H Q E, R_law G x0 H Q E → t_law G E (dn Q) (start n_law [x0]) H
/-! ### the law -/
theorem Rows.mut {K : PySem.W.Frag} {H : Hp} {l : Addr} {zs : List V} {o : HO} (hl : H l = some (.lst zs)) : ∀ {xs : List V} {ps : List (Nat × Nat)}, Rows K H xs ps → Rows K (upd H l o) xs ps
  | _, _, .nil => .nil
  | _, _, .cons h r => .cons (sqT_mut hl h) (r.mut hl)
/-- two tellings of the same rests, in whatever turn, are alike -/
theorem told_eq {K : PySem.W.Frag} {H : Hp} {v v' : V} {ps : List (Nat × Nat)} (h : Told K H v ps) (h' : Told K H v' ps.reverse) : ∃ d, Dp K H v d ∧ Dp K H v' d ∧ SeqAt.shaped d = true ∧ PyData.eqv d d = true := by
  rcases h with ⟨h1, rfl⟩ | ⟨R, t, a1, a2, rfl, a4⟩
  · rcases h' with ⟨_, rfl⟩ | ⟨R', t', b1, _, _, _⟩
    · exact ⟨.none, .non, .non, rfl, rfl⟩
    · exact (h1 ⟨R', sol_rev.mp b1⟩).elim
  · rcases h' with ⟨h1, rfl⟩ | ⟨R', t', b1, b2, rfl, b4⟩
    · exact (h1 ⟨R, sol_rev.mpr a1⟩).elim
    · rw [lcmL_rev] at b2 b4
      have e : R' = R := sol_uniq (sol_rev.mp b1) a1 b2 a2
      subst e
      refine ⟨.tuple ([(R' : Int), (lcmL ps : Int)].map PyData.int), dp_it a4, dp_it b4, sh_it _, ?_⟩
      rw [eqv_it]
      exact decide_eq_true rfl
theorem pure_law (G : Pm) : P_law G := by
  intro x0 H0 Q E h
  obtain ⟨a, ns, rfl, hS, hl, _, q⟩ := h
  have hlN : (ns.map V.int).length ≤ 63 := by
    rw [List.length_map]
    exact hl
  refine q_forR1 (n := if (if ((ns.map V.int).length : Int) < 4 then ((ns.map V.int).length : Int) else 4) > 1 then (if ((ns.map V.int).length : Int) < 4 then ((ns.map V.int).length : Int) else 4) else 1)
    (ea_cons (ev_maxI ev_c (ev_minI ev_c (ev_lenL (ev_var rfl) hS))) ea_nil) (by omega)
    (fun i σ' H' => ∃ y1 y2 y3 y4 y5 y6 y7 y8 y9 y10 y11 : Option V, σ' = [some (.ref a), y1, y2, y3, y4, y5, y6, y7, y8, y9, y10, y11] ∧ Ex H0 H') (fun H1 e1 => ⟨_, _, _, _, _, _, _, _, _, _, _, rfl, e1⟩) ?_ ?_
  · rintro i σ' H hi ⟨y1, y2, y3, y4, y5, y6, y7, y8, y9, y10, y11, rfl, eH⟩
    have hi4 : i ≤ 4 := by omega
    have hSH := ex_l eH hS
    -- more
    refine q_asg (v := .int (drawn (cellS ns i) (i : Int))) (ev_ca2 (ev_ca2 (ev_var rfl) (ev_var rfl) fun H1 e1 Q' q' => ⟨a, ns, i, rfl, rfl, ex_l e1 hSH, hl, by omega, q'⟩) (ev_var rfl) fun H1 e1 Q' q' => ⟨_, _, rfl, rfl, by omega, by omega, q'⟩) fun H1 e1 => ?_
    have m0 := drawn_nn (cellS ns i) (i : Int)
    have m1 := drawn_lt (cellS ns i) (i : Int)
    generalize drawn (cellS ns i) (i : Int) = M at *
    obtain ⟨N, hN⟩ : ∃ n : Nat, M / 64 % (10 ^ (9 : Int).toNat) = (n : Int) := nat_of (Int.emod_nonneg _ (by decide))
    refine q_asg (v := .int (N : Int)) ?_ fun H2 e2 => ?_
    · rw [← hN]
      walk_at "ev"
      · exact cdiv_w (by decide) (by decide)
      · exact ⟨by decide, by decide, by decide⟩
      · decide
    refine q_asgL (el_lst ea_nil (Nat.zero_le _)) fun l H3 l0 e3 h3 => ?_
    have E3 := (e1.trans e2).trans e3
    have lH : H l = none := fresh_back (e1.trans e2) l0
    refine q_forR1 (n := M % 7) ?_ (by omega)
      (fun j σ' H' => ∃ (y5 y6 y7 y8 y9 y10 y11 : Option V) (xs : List V) (ps : List (Nat × Nat)), σ' = [some (.ref a), some (.int (i : Int)), some (.int M), some (.int (N : Int)), some (.ref l), y5, y6, y7, y8, y9, y10, y11] ∧ Ex H H' ∧ H' l = some (.lst xs) ∧ Rows G.K H' xs ps ∧ Good ps ∧ ps.length = j)
      (fun H4 e4 => ⟨_, _, _, _, _, _, _, [], [], rfl, E3.trans e4, e4 l _ h3, .nil, fun _ h => by simp at h, rfl⟩) ?_ ?_
    · walk_at "ev"
      decide
    · rintro j σ' H4 hj ⟨y5, y6, y7, y8, y9, y10, y11, xs, ps, rfl, e4, h4, hR, hG, hjl⟩
      refine q_asg (v := .int (drawn M (10 + (j : Int)))) (ev_ca2 (ev_var rfl) (ev_op ev_c (ev_var rfl) rv_I0) fun H1 e1 Q' q' => ⟨_, _, rfl, rfl, by omega, by omega, q'⟩) fun H5 e5 => ?_
      have d0 := drawn_nn M (10 + (j : Int))
      have d1 := drawn_lt M (10 + (j : Int))
      generalize drawn M (10 + (j : Int)) = D at *
      -- the modulus
      obtain ⟨c, hc, c0, c1⟩ : ∃ c : Int, atI [V.int 6, V.int 30, V.int 2000] (M / 8 % 3) = some (.int c) ∧ 1 ≤ c ∧ c ≤ 2000 := by
        have : M / 8 % 3 = 0 ∨ M / 8 % 3 = 1 ∨ M / 8 % 3 = 2 := by omega
        rcases this with e | e | e <;> rw [e]
        · exact ⟨6, rfl, by decide, by decide⟩
        · exact ⟨30, rfl, by decide, by decide⟩
        · exact ⟨2000, rfl, by decide, by decide⟩
      have r0 := Int.emod_nonneg D (show c ≠ 0 by omega)
      have r1 := Int.emod_lt_of_pos D (show 0 < c by omega)
      obtain ⟨m, hm⟩ := nat_of (z := 1 + D % c) (by omega)
      refine q_asg (v := .int (m : Int)) ?_ fun H6 e6 => ?_
      · rw [← hm]
        refine ev_op ev_c (ev_op (ev_var rfl) (ev_opL1 (el_lst (ea_cons ev_c (ea_cons ev_c (ea_cons ev_c ea_nil))) (by show 3 ≤ 100000; decide)) (fun H1 _ => ev_op (ev_op (ev_var rfl) ev_c (rv_I (cdiv_w (by decide) (by decide)))) ev_c (rv_I (by decide))) fun p H1 h1 _ => rv_ixL (sq_of h1) hc) (rv_I (by omega))) rv_I0
      -- the rest
      have mp : 0 < m := by omega
      have n0 := Int.emod_nonneg (N : Int) (show (m : Int) ≠ 0 by omega)
      have n1 := Int.emod_lt_of_pos (N : Int) (show (0 : Int) < m by omega)
      have k0 := Int.emod_nonneg (D / 4096) (show (m : Int) ≠ 0 by omega)
      have k1 := Int.emod_lt_of_pos (D / 4096) (show (0 : Int) < m by omega)
      obtain ⟨r, hr, hrm⟩ : ∃ r : Nat, atI [V.int ((N : Int) % (m : Int)), V.int (D / 4096 % (m : Int))] (if decide (V.int (D / 2 ^ (40 : Int).toNat % 6) = V.int 0) = true then 1 else 0) = some (.int (r : Int)) ∧ r < m := by
        cases decide (V.int (D / 2 ^ (40 : Int).toNat % 6) = V.int 0) with
        | true =>
          obtain ⟨r, hr⟩ := nat_of k0
          exact ⟨r, by rw [← hr]; rfl, by omega⟩
        | false =>
          obtain ⟨r, hr⟩ := nat_of n0
          exact ⟨r, by rw [← hr]; rfl, by omega⟩
      refine q_asg (v := .int (r : Int)) ?_ fun H7 e7 => ?_
      · refine ev_opL1 (el_lst (ea_cons (ev_op (ev_var rfl) (ev_var rfl) (rv_I (by omega))) (ea_cons (ev_op (ev_op (ev_var rfl) ev_c (rv_I (cdiv_w (by decide) (by decide)))) (ev_var rfl) (rv_I (by omega))) ea_nil)) (by show 2 ≤ 100000; decide)) (fun H1 _ => ev_intB (k := decide (V.int (D / 2 ^ (40 : Int).toNat % 6) = V.int 0)) ?_) fun p H1 h1 _ => rv_ixL (sq_of h1) hr
        walk_at "ev"
        · exact ⟨by decide, by decide, by decide⟩
        · exact cdiv_w (by decide) (by decide)
        · decide
      -- the pair
      have E7 := (e5.trans e6).trans e7
      refine s_appU (E7 l _ h4) (ev_var rfl) (eu_tup (ea_cons (ev_var rfl) (ea_cons (ev_var rfl) ea_nil)) (by show 2 ≤ 100000; decide)) (by have := hR.len; omega) fun p H8 _ e8 h8 => ?_
      have hl8 : H8 l = some (.lst xs) := (E7.trans e8) l _ h4
      refine ⟨_, _, _, _, _, _, _, xs ++ [.ref p], ps ++ [(r, m)], rfl, Ex.mut ((e4.trans E7).trans e8) lH, upd_same, (Rows.mut hl8 (hR.ex (E7.trans e8))).app (.cons (sqT_mut hl8 (st_of h8)) .nil), fun z hz => ?_, by rw [List.length_append, hjl]; rfl⟩
      rcases List.mem_append.mp hz with z1 | z1
      · exact hG z z1
      · rw [List.mem_singleton.mp z1]
        exact ⟨hrm, by omega⟩
    · rintro σ' H4 ⟨y5, y6, y7, y8, y9, y10, y11, xs, ps, rfl, e4, h4, hR, hG, hjl⟩
      have hp6 : ps.length ≤ 6 := by omega
      -- kept, told
      refine el_listOf (ev_var rfl) (sq_of h4) H4 (Ex.refl H4) _ fun kp H5 _ e5 h5 => ?_
      refine ⟨.ref l, rfl, l, ps, rfl, ⟨xs, sq_of (e5 l _ h4), hR.ex e5⟩, hp6, hG, fun v H6 e6 hT => ⟨.ref kp, v, rfl, ?_⟩⟩
      have E6 := e5.trans e6
      have hRA : RowsAt G.K H6 l ps := ⟨xs, sq_of (E6 l _ h4), hR.ex E6⟩
      have hRB : RowsAt G.K H6 kp ps := ⟨xs, sq_of (e6 kp _ h5), hR.ex E6⟩
      have hD : ∀ {p : Addr} {H1 : Hp}, RowsAt G.K H1 p ps → Dp G.K H1 (.ref p) (.list (ps.map pd)) := fun ⟨xs, h1, h2⟩ => .lst h1 h2.dp
      have hEq : PyData.eqv (.list (ps.map pd)) (.list (ps.map pd)) = true := SeqAt.eqv_refl _ (SeqAt.canLay_of_shaped (sh_rows ps))
      show tSeq _ _ _ [some (.ref a), some (.int (i : Int)), some (.int M), some (.int (N : Int)), some (.ref l), y5, y6, y7, y8, some (.ref kp), some v, y11] H6
      refine q_when (b := false || false) (et_or (et_test (ev_is (ev_op (ev_var rfl) (ev_var rfl) (rv_neD (hD hRA) (hD hRB) (sh_rows ps) (sh_rows ps))) (by rw [hEq]; rfl))) fun _ => ?_) (fun hb => by cases hb) fun _ H7 e7 => ?_
      · intro H1 e1 Q' q'
        unfold tTest tOp tCall tCons
        refine el_rev (ev_var rfl) (sq_of ((E6.trans e1) l _ h4)) H1 (Ex.refl H1) _ fun rp H2 _ e2 h2 => ?_
        refine ⟨rp, ps.reverse, rfl, ⟨xs.reverse, sq_of h2, (hR.ex ((E6.trans e1).trans e2)).rev⟩, by rw [List.length_reverse]; exact hp6, fun p hp => hG p (List.mem_reverse.mp hp), fun v' H3 e3 hT' => ?_⟩
        obtain ⟨d, d1, d2, d3, d4⟩ := told_eq (hT.ex ((e1.trans e2).trans e3)) hT'
        refine ⟨v, rfl, d, d, d2, d1, d3, d3, _, rfl, ?_⟩
        rw [d4]
        exact q' H3 (e2.trans e3)
      have hT7 := hT.ex e7
      have hRA7 := hRA.ex e7
      have hb0 : decide (v = .non) = true ↔ ¬ Pairw ps := by
        rw [decide_eq_true_iff]
        rcases hT with ⟨h1, rfl⟩ | ⟨R, t, h1, _, rfl, _⟩
        · exact ⟨fun _ hP => h1 (pairw_sol (fun p hp => (hG p hp).1) hP), fun _ => rfl⟩
        · exact ⟨fun z => (by cases z), fun z => (z (sol_pairw h1)).elim⟩
      refine q_when (b := false) (et_is (et_test (ev_op (ev_isN (ev_var rfl)) (ev_ca1 (z := .bl (decide (v = .non))) (ev_var rfl) fun H1 e1 Q' q' => ⟨l, ps, rfl, hRA7.ex e1, hG, fun b hb => ?_⟩) (rv_ne rfl))) (by simp)) (fun hb => by cases hb) fun _ H8 e8 => ?_
      · have : b = decide (v = .non) := by
          rw [Bool.eq_iff_iff, hb, hb0]
        rw [this]
        exact q'
      have hT8 := hT7.ex e8
      have E8 : Ex H H8 := ((e4.trans E6).trans e7).trans e8
      refine q_when (b := decide (v = .non)) (et_B (ev_isN (ev_var rfl))) (fun hb H9 e9 => ⟨_, _, _, _, _, _, _, _, _, _, _, rfl, (eH.trans E8).trans e9⟩) fun hb H9 e9 => ?_
      have hT9 := hT8.ex e9
      rcases hT9 with ⟨_, rfl⟩ | ⟨R, t, s1, s2, rfl, s4⟩
      · cases hb
      have E9 := E8.trans e9
      refine q_asg (v := .int 1) ev_c fun H10 e10 => ?_
      have E10 := E9.trans e10
      have E6' := ((e7.trans e8).trans e9).trans e10
      refine q_forL (ev_var rfl) (sq_of (E6' l _ (E6 l _ h4))) (fun j σ' H' => ∃ (y7 y8 : Option V), σ' = [some (.ref a), some (.int (i : Int)), some (.int M), some (.int (N : Int)), some (.ref l), y5, y6, y7, y8, some (.ref kp), some (.ref t), some (.int (lcmL (ps.take j) : Int))] ∧ Ex H10 H')
        (fun H1 e1 => ⟨_, _, rfl, e1⟩) (fun j σ' H' _ ⟨_, _, _, e⟩ => ex_l e (sq_of (E6' l _ (E6 l _ h4)))) ?_ ?_
      · rintro j x σ' H11 hj ⟨y7, y8, rfl, e11⟩
        obtain ⟨tp, ⟨r, m⟩, rfl, hp, hTp⟩ := (hR.ex ((E6.trans E6').trans e11)).at hj
        have hpm := hG _ (List.mem_of_getElem? hp)
        have htk : ps.take (j + 1) = ps.take j ++ [(r, m)] := by
          rw [List.take_add_one, hp]
          rfl
        dsimp only at hpm hTp
        have hm : 0 < m := by omega
        have hW : 0 < lcmL (ps.take j) := lcmL_pos (good_take hG j)
        have hWb : lcmL (ps.take j) ≤ 2000 ^ 6 := lcm_lt (fun p hp => hG p (List.mem_of_mem_take hp)) (Nat.le_trans (List.length_take_le' _ _) hp6)
        refine g_tup2 hTp ?_
        have hs : (R : Int) % (m : Int) = (r : Int) := by
          rw [← Int.natCast_emod]
          exact congrArg _ (s1 (r, m) (List.mem_of_getElem? hp))
        have s4' := ex_t (e10.trans e11) s4
        refine q_when (b := false) (et_is (et_test (ev_op (ev_op (ev_op (ev_var rfl) ev_c (rv_ixT s4' (v := .int (R : Int)) rfl)) (ev_var rfl) (rv_I (by omega))) (ev_var rfl) (rv_ne rfl))) (by rw [hs]; simp)) (fun hb => by cases hb) fun _ H12 e12 => ?_
        have hg : 0 < Nat.gcd (lcmL (ps.take j)) m := Nat.gcd_pos_of_pos_left _ hW
        have hgm : Nat.gcd (lcmL (ps.take j)) m ≤ m := Nat.gcd_le_right _ hm
        refine s_asg (v := .int (lcmL (ps.take (j + 1)) : Int)) ?_ fun H13 e13 => ⟨_, _, rfl, (e11.trans e12).trans e13⟩
        rw [htk, lcmL_snoc]
        show Ev _ _ _ (.int ((lcmL (ps.take j) * m / Nat.gcd (lcmL (ps.take j)) m : Nat) : Int))
        rw [Int.natCast_ediv, Int.natCast_mul]
        refine ev_op (ev_op (ev_var rfl) (ev_var rfl) (rv_I (cm_r (by omega) (by omega)))) (ev_ca2 (z := .int ((Nat.gcd (lcmL (ps.take j)) m : Nat) : Int)) (ev_var rfl) (ev_var rfl) fun H1 e1 Q' q' => ⟨lcmL (ps.take j), m, rfl, rfl, q'⟩) (rv_I (cdiv_w (by omega) (by omega)))
      · rintro σ' H11 ⟨y7, y8, rfl, e11⟩
        have s4' := ex_t (e10.trans e11) s4
        have hlen : xs.length = ps.length := hR.len
        rw [hlen, List.take_length]
        refine s_when (b := false) (et_is (et_or (et_test (ev_op (ev_op (ev_var rfl) ev_c (rv_ixT s4' (v := .int (lcmL ps : Int)) rfl)) (ev_var rfl) (rv_ne rfl))) fun _ => et_not (et_chain (ev_chain ev_c (ev_op (ev_var rfl) ev_c (rv_ixT s4' (v := .int (R : Int)) rfl)) rv_I0 (fun _ => ev_var rfl) fun _ => rv_I0))) ?_) (fun hb => by cases hb) fun _ H12 e12 => ⟨_, _, _, _, _, _, _, _, _, _, _, rfl, ((eH.trans E10).trans e11).trans e12⟩
        have a1 : (0 : Int) ≤ (R : Int) := by omega
        have a2 : (R : Int) < (lcmL ps : Int) := by omega
        simp [a1, a2, s2]
  · rintro σ' H1 ⟨y1, y2, y3, y4, y5, y6, y7, y8, y9, y10, y11, rfl, e1⟩
    unfold tRet tOp tCall tCons
    refine el_lst ea_nil (Nat.zero_le _) H1 (Ex.refl H1) _ fun p H2 _ e2 h2 => ?_
    refine ⟨p, [], rfl, ⟨[], sq_of h2, .nil⟩, Nat.zero_le _, fun _ h => (by cases h), fun v H3 e3 hT => ?_⟩
    rcases hT with ⟨h1, _⟩ | ⟨R, t, _, hR, rfl, hS4⟩
    · exact (h1 ⟨0, fun _ h => by cases h⟩).elim
    · have : R = 0 := by
        have : lcmL [] = 1 := rfl
        omega
      subst this
      refine ⟨by show 2 ≤ sizeLine; decide, fun t' ht' => ⟨_, _, dp_it (ns := [0, 1]) (ex_t (Ex.new ht') hS4), dp_it (ns := [0, 1]) (st_of upd_same), sh_it _, sh_it _, ?_⟩⟩
      rw [eqv_it]
      exact q _
end Sv

set_option Elab.async false
set_option linter.all false
set_option maxRecDepth 100000
set_option maxHeartbeats 4000000
namespace Sv
open PySem PySem.Spec PyProof.Rows L2 Evl
def topS (i : Nat) : Stmt := PySem.Challenge.pw_sievewright_k62_whole_rests_together.main.body.getD i (.Pass ⟨0, 0, 0, 0⟩)
section
variable {P : Program} {w : World} {G : Pm} {mg : Str → Option Value} {base : Heap}
abbrev s_common : Stmt := topS 4
theorem sc_common : FnScope n_common p_common (defScope s_common) := ⟨rfl, rfl, rfl, by decide +kernel, rfl, by decide +kernel, by decide +kernel⟩
theorem ok_common (D_common : DefAt G.K mg "common" s_common) (HP : P_common G) : Ok P w G.K mg base (CXN P w) 1 "common" p_common (sp_common G) :=
  mk_ok D_common sc_common (fun _ _ _ _ _ _ us hl => match us, hl with | [_, _], _ => rfl) sp2_len (t_common G)
    (fun vs H Q E h => match vs, h with | [x0, x1], h => HP x0 x1 H Q E h)
    (fun f cdv A outer s H E hr =>
  (pss_cons (ps_while (L2.passes_of rfl) (pt_cmpR op_gt (pv 1) pe_int (nomark _))
  (pss_one (ps_par (i := 0) (j := 1) rfl sc_common.nd rfl rfl (by decide) rfl rfl (pa_cons (pv 1) (pa_cons (pe_op op_mod (pv 0) (pv 1)) pa_nil)) (by rfl))))
  (pss_one (ps_ret (pv 0)))))
abbrev s_is_pair : Stmt := topS 8
theorem sc_is_pair : FnScope n_is_pair p_is_pair (defScope s_is_pair) := ⟨rfl, rfl, rfl, by decide +kernel, rfl, by decide +kernel, by decide +kernel⟩
theorem ok_is_pair (D_is_pair : DefAt G.K mg "is_pair" s_is_pair) (m_tuple : mg "tuple" = none) (m_isinstance : mg "isinstance" = none) (m_len : mg "len" = none) (m_int : mg "int" = none) (m_bool : mg "bool" = none) (m_any : mg "any" = none) (c_MOST_MODULUS : ∃ t, mg "MOST_MODULUS" = some (.int 2000 t)) (HP : P_is_pair G) : Ok P w G.K mg base (CXN P w) 1 "is_pair" p_is_pair (sp_is_pair G) :=
  mk_ok D_is_pair sc_is_pair (fun _ _ _ _ _ _ us hl => match us, hl with | [_], _ => rfl) sp1_len (t_is_pair G)
    (fun vs H Q E h => match vs, h with | [x0], h => HP x0 H Q E h)
    (fun f cdv A outer s H E hr =>
  (pss_cons (ps_if (PW.pt (pw_or (pt_not (pt_val (pe_callB call_isi (by rfl) m_isinstance (by decide +kernel) (pa_cons (pv 0) (pa_cons (pe_bltn (v := .ty "tuple") (by rfl) m_tuple (by decide +kernel) rfl) pa_nil))))) (pw_or1 (pt_cmpR op_ne (pe_callB call_len_seq (by rfl) m_len (by decide +kernel) (pa_cons (pv 0) pa_nil)) pe_int (nomark _)))))
  (pss_one (ps_ret pe_bl))
  pss_nil)
  (pss_cons (ps_asg (pv 0) (pg_tup rfl (pgs_cons (pg_name (i := 1) sc_is_pair.nd rfl (Or.inl rfl)) (pgs_cons (pg_name (i := 2) sc_is_pair.nd rfl (Or.inl rfl)) pgs_nil))))
  (pss_cons (ps_if (pt_val (pe_callB (cr_any rfl) (by rfl) m_any (by decide +kernel) (pa_cons (pe_lc (own := [("one", 3)]) rfl sc_is_pair.nd (pi_tup (pv 0)) (blkOk_by (N := n_is_pair) (sc := defScope s_is_pair) (by decide +kernel)) (fun _ _ _ _ _ => (pg_name (i := 3) sc_is_pair.nd rfl (Or.inl rfl))) (fun _ _ _ _ _ => pts_nil) (fun _ _ _ _ _ => (pe_or (pe_not (pe_callB call_isi (by rfl) m_isinstance (by decide +kernel) (pa_cons (pv 3) (pa_cons (pe_bltn (v := .ty "int") (by rfl) m_int (by decide +kernel) rfl) pa_nil)))) (pe_one (pe_callB call_isi (by rfl) m_isinstance (by decide +kernel) (pa_cons (pv 3) (pa_cons (pe_bltn (v := .ty "bool") (by rfl) m_bool (by decide +kernel) rfl) pa_nil))))))) pa_nil)))
  (pss_one (ps_ret pe_bl))
  pss_nil)
  (pss_one (ps_ret (pe_and (pe_chain op_le op_le pe_int (pv 2) (pe_glob (by rfl) c_MOST_MODULUS.choose_spec ⟨_, rfl⟩)) (pe_one (pe_chain op_le op_lt pe_int (pv 1) (pv 2))))))))))
abbrev s_met : Stmt := topS 9
theorem sc_met : FnScope n_met p_met (defScope s_met) := ⟨rfl, rfl, rfl, by decide +kernel, rfl, by decide +kernel, by decide +kernel⟩
theorem ok_met (D_met : DefAt G.K mg "met" s_met) (C_is_pair : Ok P w G.K mg base (CXN P w) 1 "is_pair" p_is_pair (sp_is_pair G)) (C_common : Ok P w G.K mg base (CXN P w) 1 "common" p_common (sp_common G)) (m_list : mg "list" = none) (m_isinstance : mg "isinstance" = none) (m_len : mg "len" = none) (m_all : mg "all" = none) (x_BadNumber : ErrAt G.K mg "BadNumber" G.BadNumber) (c_MOST_PAIRS : ∃ t, mg "MOST_PAIRS" = some (.int 6 t)) (HP : P_met G) : Ok P w G.K mg base (CXN P w) 2 "met" p_met (sp_met G) :=
  mk_ok D_met sc_met (fun _ _ _ _ _ _ us hl => match us, hl with | [_], _ => rfl) sp1_len (t_met G)
    (fun vs H Q E h => match vs, h with | [x0], h => HP x0 H Q E h)
    (fun f cdv A outer s H E hr =>
  (pss_cons (ps_if (PW.pt (pw_or (pt_not (pt_val (pe_callB call_isi (by rfl) m_isinstance (by decide +kernel) (pa_cons (pv 0) (pa_cons (pe_bltn (v := .ty "list") (by rfl) m_list (by decide +kernel) rfl) pa_nil))))) (pw_or (pt_cmpR op_gt (pe_callB call_len_seq (by rfl) m_len (by decide +kernel) (pa_cons (pv 0) pa_nil)) (pe_glob (by rfl) c_MOST_PAIRS.choose_spec ⟨_, rfl⟩) (nomark _)) (pw_or1 (pt_not (pt_val (pe_callB (cr_all rfl) (by rfl) m_all (by decide +kernel) (pa_cons (pe_lc (own := [("pair", 7)]) rfl sc_met.nd (pi_list (pv 0)) (blkOk_by (N := n_met) (sc := defScope s_met) (by decide +kernel)) (fun _ _ _ _ _ => (pg_name (i := 7) sc_met.nd rfl (Or.inl rfl))) (fun _ _ _ _ _ => pts_nil) (fun _ _ _ _ _ => (pe_ok C_is_pair hr (by decide) (by rfl) psn (pa_cons (pv 7) pa_nil)))) pa_nil))))))))
  (pss_one (ps_raiseN x_BadNumber (by rfl) rfl rfl rfl rfl rfl))
  pss_nil)
  (pss_cons (ps_asg (pe_tup (pa_cons pe_int (pa_cons pe_int pa_nil))) (pg_tup rfl (pgs_cons (pg_name (i := 1) sc_met.nd rfl (Or.inl rfl)) (pgs_cons (pg_name (i := 2) sc_met.nd rfl (Or.inl rfl)) pgs_nil))))
  (pss_cons (ps_for (L2.passes_of rfl) rfl (pi_list (pv 0)) (pg_tup rfl (pgs_cons (pg_name (i := 3) sc_met.nd rfl (Or.inl rfl)) (pgs_cons (pg_name (i := 4) sc_met.nd rfl (Or.inl rfl)) pgs_nil)))
  (pss_cons (ps_set (i := 5) sc_met.nd rfl (Or.inl rfl) (pe_ok C_common hr (by decide) (by rfl) (psx rfl rfl rfl rfl) (pa_cons (pv 2) (pa_cons (pv 4) pa_nil))))
  (pss_cons (ps_if (pt_cmpR op_ne (pe_op op_mod (pe_op op_sub (pv 3) (pv 1)) (pv 5)) pe_int (nomark _))
  (pss_one (ps_ret pe_non))
  pss_nil)
  (pss_cons (ps_set (i := 6) sc_met.nd rfl (Or.inl rfl) pe_int)
  (pss_cons (ps_while (L2.passes_of rfl) (pt_cmpR op_ne (pe_op op_mod (pe_op op_sub (pe_op op_add (pv 1) (pe_op op_mulA (pv 6) (pv 2))) (pv 3)) (pv 4)) pe_int (nomark _))
  (pss_one (ps_set (i := 6) sc_met.nd rfl (Or.inl rfl) (pe_op op_add (pv 6) pe_int))))
  (pss_cons (ps_set (i := 1) sc_met.nd rfl (Or.inl rfl) (pe_op op_add (pv 1) (pe_op op_mulA (pv 6) (pv 2))))
  (pss_one (ps_set (i := 2) sc_met.nd rfl (Or.inl rfl) (pe_op op_mulA (pe_op op_fdivW (pv 2) (pv 5)) (pv 4))))))))))
  (pss_one (ps_ret (pe_tup (pa_cons (pv 1) (pa_cons (pv 2) pa_nil)))))))))
abbrev s__law_cell : Stmt := topS 11
theorem sc__law_cell : FnScope n__law_cell p__law_cell (defScope s__law_cell) := ⟨rfl, rfl, rfl, by decide +kernel, rfl, by decide +kernel, by decide +kernel⟩
theorem ok__law_cell (D__law_cell : DefAt G.K mg "_law_cell" s__law_cell) (m_len : mg "len" = none) (HP : P__law_cell G) : Ok P w G.K mg base (CXN P w) 1 "_law_cell" p__law_cell (sp__law_cell G) :=
  mk_ok D__law_cell sc__law_cell (fun _ _ _ _ _ _ us hl => match us, hl with | [_, _], _ => rfl) sp2_len (t__law_cell G)
    (fun vs H Q E h => match vs, h with | [x0, x1], h => HP x0 x1 H Q E h)
    (fun f cdv A outer s H E hr =>
  (pss_cons (ps_if (pt_cmpR (op_eqD hr.units) (pv 0) (pe_lst pa_nil) (nomark _))
  (pss_one (ps_ret (pe_op op_mulA (pv 1) pe_int)))
  pss_nil)
  (pss_one (ps_ret (pe_op op_add (pe_ix ix_list (pv 0) (pe_op op_mod (pv 1) (pe_callB call_len_seq (by rfl) m_len (by decide +kernel) (pa_cons (pv 0) pa_nil))) (fun _ _ => rfl)) (pe_op op_mulA (pe_op op_fdivW (pv 1) (pe_callB call_len_seq (by rfl) m_len (by decide +kernel) (pa_cons (pv 0) pa_nil))) pe_int))))))
abbrev s__law_drawn : Stmt := topS 12
theorem sc__law_drawn : FnScope n__law_drawn p__law_drawn (defScope s__law_drawn) := ⟨rfl, rfl, rfl, by decide +kernel, rfl, by decide +kernel, by decide +kernel⟩
theorem ok__law_drawn (D__law_drawn : DefAt G.K mg "_law_drawn" s__law_drawn) (HP : P__law_drawn G) : Ok P w G.K mg base (CXN P w) 1 "_law_drawn" p__law_drawn (sp__law_drawn G) :=
  mk_ok D__law_drawn sc__law_drawn (fun _ _ _ _ _ _ us hl => match us, hl with | [_, _], _ => rfl) sp2_len (t__law_drawn G)
    (fun vs H Q E h => match vs, h with | [x0, x1], h => HP x0 x1 H Q E h)
    (fun f cdv A outer s H E hr =>
  (pss_cons (ps_set (i := 2) sc__law_drawn.nd rfl (Or.inl rfl) (pe_op op_mod (pe_op op_add (pe_op op_mulA (pv 0) pe_int) (pe_op op_mulA (pe_op op_add (pv 1) pe_int) pe_int)) pe_int))
  (pss_cons (ps_set (i := 2) sc__law_drawn.nd rfl (Or.inl rfl) (pe_op op_mod (pe_op op_mulA (pv 2) (pv 2)) pe_int))
  (pss_cons (ps_set (i := 2) sc__law_drawn.nd rfl (Or.inl rfl) (pe_op op_mulA (pe_op op_mulA (pe_op op_add (pe_op op_mod (pv 2) pe_int) pe_int) (pe_op op_add (pe_op op_fdivW (pv 2) pe_int) pe_int)) (pv 2)))
  (pss_one (ps_ret (pe_op op_mod (pv 2) pe_int)))))))
abbrev s__law_common : Stmt := topS 13
theorem sc__law_common : FnScope n__law_common p__law_common (defScope s__law_common) := ⟨rfl, rfl, rfl, by decide +kernel, rfl, by decide +kernel, by decide +kernel⟩
theorem ok__law_common (D__law_common : DefAt G.K mg "_law_common" s__law_common) (HP : P__law_common G) : Ok P w G.K mg base (CXN P w) 1 "_law_common" p__law_common (sp__law_common G) :=
  mk_ok D__law_common sc__law_common (fun _ _ _ _ _ _ us hl => match us, hl with | [_, _], _ => rfl) sp2_len (t__law_common G)
    (fun vs H Q E h => match vs, h with | [x0, x1], h => HP x0 x1 H Q E h)
    (fun f cdv A outer s H E hr =>
  (pss_cons (ps_while (L2.passes_of rfl) (pt_cmpR op_gt (pv 1) pe_int (nomark _))
  (pss_one (ps_par (i := 0) (j := 1) rfl sc__law_common.nd rfl rfl (by decide) rfl rfl (pa_cons (pv 1) (pa_cons (pe_op op_mod (pv 0) (pv 1)) pa_nil)) (by rfl))))
  (pss_one (ps_ret (pv 0)))))
abbrev s__law_against : Stmt := topS 14
theorem sc__law_against : FnScope n__law_against p__law_against (defScope s__law_against) := ⟨rfl, rfl, rfl, by decide +kernel, rfl, by decide +kernel, by decide +kernel⟩
theorem ok__law_against (D__law_against : DefAt G.K mg "_law_against" s__law_against) (C__law_common : Ok P w G.K mg base (CXN P w) 1 "_law_common" p__law_common (sp__law_common G)) (HP : P__law_against G) : Ok P w G.K mg base (CXN P w) 2 "_law_against" p__law_against (sp__law_against G) :=
  mk_ok D__law_against sc__law_against (fun _ _ _ _ _ _ us hl => match us, hl with | [_], _ => rfl) sp1_len (t__law_against G)
    (fun vs H Q E h => match vs, h with | [x0], h => HP x0 H Q E h)
    (fun f cdv A outer s H E hr =>
  (pss_cons (ps_for (L2.passes_of rfl) rfl (pi_list (pv 0)) (pg_tup rfl (pgs_cons (pg_name (i := 1) sc__law_against.nd rfl (Or.inl rfl)) (pgs_cons (pg_name (i := 2) sc__law_against.nd rfl (Or.inl rfl)) pgs_nil)))
  (pss_one (ps_for (L2.passes_of rfl) rfl (pi_list (pv 0)) (pg_tup rfl (pgs_cons (pg_name (i := 3) sc__law_against.nd rfl (Or.inl rfl)) (pgs_cons (pg_name (i := 4) sc__law_against.nd rfl (Or.inl rfl)) pgs_nil)))
  (pss_cons (ps_set (i := 5) sc__law_against.nd rfl (Or.inl rfl) (pe_ok C__law_common hr (by decide) (by rfl) (psx rfl rfl rfl rfl) (pa_cons (pv 2) (pa_cons (pv 4) pa_nil))))
  (pss_one (ps_if (pt_cmpR op_ne (pe_op op_mod (pe_op op_sub (pv 1) (pv 3)) (pv 5)) pe_int (nomark _))
  (pss_one (ps_ret pe_bl))
  pss_nil))))))
  (pss_one (ps_ret pe_bl))))
abbrev s_law : Stmt := topS 15
theorem sc_law : FnScope n_law p_law (defScope s_law) := ⟨rfl, rfl, rfl, by decide +kernel, rfl, by decide +kernel, by decide +kernel⟩
theorem ok_law {f : Addr} {fd : FuncData} (F_law : Fun G.K "law" "law" s_law f fd) (C__law_drawn : Ok P w G.K mg base (CXN P w) 1 "_law_drawn" p__law_drawn (sp__law_drawn G)) (C__law_cell : Ok P w G.K mg base (CXN P w) 1 "_law_cell" p__law_cell (sp__law_cell G)) (C_met : Ok P w G.K mg base (CXN P w) 2 "met" p_met (sp_met G)) (C__law_against : Ok P w G.K mg base (CXN P w) 2 "_law_against" p__law_against (sp__law_against G)) (C__law_common : Ok P w G.K mg base (CXN P w) 1 "_law_common" p__law_common (sp__law_common G)) (m_len : mg "len" = none) (m_min : mg "min" = none) (m_max : mg "max" = none) (m_range : mg "range" = none) (m_int : mg "int" = none) (m_list : mg "list" = none) (HP : P_law G) : FnOk P w G.K mg base (CXN P w) 3 f fd p_law (sp_law G) :=
  mk_fn F_law sc_law sp1_len (t_law G)
    (fun vs H Q E h => match vs, h with | [x0], h => HP x0 H Q E h)
    (fun cdv A outer s H E hr =>
  (pss_cons (ps_for (L2.passes_of rfl) rfl (pi_range1 (by rfl) m_range (pa_cons (pe_callB (call_max2 rfl) (by rfl) m_max (by decide +kernel) (pa_cons pe_int (pa_cons (pe_callB (call_min2 rfl) (by rfl) m_min (by decide +kernel) (pa_cons pe_int (pa_cons (pe_callB call_len_seq (by rfl) m_len (by decide +kernel) (pa_cons (pv 0) pa_nil)) pa_nil))) pa_nil))) pa_nil)) (pg_name (i := 1) sc_law.nd rfl (Or.inl rfl))
  (pss_cons (ps_set (i := 2) sc_law.nd rfl (Or.inl rfl) (pe_ok C__law_drawn hr (by decide) (by rfl) (psx rfl rfl rfl rfl) (pa_cons (pe_ok C__law_cell hr (by decide) (by rfl) (psx rfl rfl rfl rfl) (pa_cons (pv 0) (pa_cons (pv 1) pa_nil))) (pa_cons (pv 1) pa_nil))))
  (pss_cons (ps_set (i := 3) sc_law.nd rfl (Or.inl rfl) (pe_op op_mod (pe_op op_fdivW (pv 2) pe_int) (pe_op op_pow pe_int pe_int)))
  (pss_cons (ps_set (i := 4) sc_law.nd rfl (Or.inl rfl) (pe_lst pa_nil))
  (pss_cons (ps_for (L2.passes_of rfl) rfl (pi_range1 (by rfl) m_range (pa_cons (pe_op op_mod (pv 2) pe_int) pa_nil)) (pg_name (i := 5) sc_law.nd rfl (Or.inl rfl))
  (pss_cons (ps_set (i := 6) sc_law.nd rfl (Or.inl rfl) (pe_ok C__law_drawn hr (by decide) (by rfl) (psx rfl rfl rfl rfl) (pa_cons (pv 2) (pa_cons (pe_op op_add pe_int (pv 5)) pa_nil))))
  (pss_cons (ps_set (i := 7) sc_law.nd rfl (Or.inl rfl) (pe_op op_add pe_int (pe_op op_mod (pv 6) (pe_ix ix_list (pe_lst (pa_cons pe_int (pa_cons pe_int (pa_cons pe_int pa_nil)))) (pe_op op_mod (pe_op op_fdivW (pv 2) pe_int) pe_int) (fun _ _ => rfl)))))
  (pss_cons (ps_set (i := 8) sc_law.nd rfl (Or.inl rfl) (pe_ix ix_list (pe_lst (pa_cons (pe_op op_mod (pv 3) (pv 7)) (pa_cons (pe_op op_mod (pe_op op_fdivW (pv 6) pe_int) (pv 7)) pa_nil))) (pe_callTy call_int1 (by rfl) m_int (by decide +kernel) (pa_cons (pe_cmpR op_eq (pe_op op_mod (pe_op op_fdivW (pv 6) (pe_op op_pow pe_int pe_int)) pe_int) pe_int (nomark _)) pa_nil)) (fun _ _ => rfl)))
  (pss_one (ps_expr (pe_bm PySem.F.plainAttrs_list PySem.F.slot_list_append PySem.F.type_list_append mt_append (pv 4) (pa_cons (pe_tup (pa_cons (pv 8) (pa_cons (pv 7) pa_nil))) pa_nil))))))))
  (pss_cons (ps_par (i := 9) (j := 10) rfl sc_law.nd rfl rfl (by decide) rfl rfl (pa_cons (pe_callTy call_list_of (by rfl) m_list (by decide +kernel) (pa_cons (pv 4) pa_nil)) (pa_cons (pe_ok C_met hr (by decide) (by rfl) (psx rfl rfl rfl rfl) (pa_cons (pv 4) pa_nil)) pa_nil)) (by rfl))
  (pss_cons (ps_if (PW.pt (pw_or (pt_cmpR (op_neD hr.units) (pv 4) (pv 9) (nomark _)) (pw_or1 (pt_cmpR (op_neD hr.units) (pe_ok C_met hr (by decide) (by rfl) (psx rfl rfl rfl rfl) (pa_cons (pe_revl (pv 4)) pa_nil)) (pv 10) (nomark _)))))
  (pss_one (ps_ret pe_bl))
  pss_nil)
  (pss_cons (ps_if (pt_cmpR op_ne (pe_cmp (pc_isN (pv 10)) rfl) (pe_ok C__law_against hr (by decide) (by rfl) (psx rfl rfl rfl rfl) (pa_cons (pv 4) pa_nil)) (nomark _))
  (pss_one (ps_ret pe_bl))
  pss_nil)
  (pss_cons (ps_if (pt_cmp (pc_isN (pv 10)) rfl)
  (pss_one ps_continue)
  pss_nil)
  (pss_cons (ps_set (i := 11) sc_law.nd rfl (Or.inl rfl) pe_int)
  (pss_cons (ps_for (L2.passes_of rfl) rfl (pi_list (pv 4)) (pg_tup rfl (pgs_cons (pg_name (i := 8) sc_law.nd rfl (Or.inl rfl)) (pgs_cons (pg_name (i := 7) sc_law.nd rfl (Or.inl rfl)) pgs_nil)))
  (pss_cons (ps_if (pt_cmpR op_ne (pe_op op_mod (pe_ix ix_tup (pv 10) pe_int (fun _ _ => rfl)) (pv 7)) (pv 8) (nomark _))
  (pss_one (ps_ret pe_bl))
  pss_nil)
  (pss_one (ps_set (i := 11) sc_law.nd rfl (Or.inl rfl) (pe_op op_fdivW (pe_op op_mulA (pv 11) (pv 7)) (pe_ok C__law_common hr (by decide) (by rfl) (psx rfl rfl rfl rfl) (pa_cons (pv 11) (pa_cons (pv 7) pa_nil))))))))
  (pss_one (ps_if (PW.pt (pw_or (pt_cmpR op_ne (pe_ix ix_tup (pv 10) pe_int (fun _ _ => rfl)) (pv 11) (nomark _)) (pw_or1 (pt_not (pt_chain op_le op_lt pe_int (pe_ix ix_tup (pv 10) pe_int (fun _ _ => rfl)) (pv 11))))))
  (pss_one (ps_ret pe_bl))
  pss_nil)))))))))))))
  (pss_one (ps_ret (pe_cmpR (op_eqD hr.units) (pe_ok C_met hr (by decide) (by rfl) (psx rfl rfl rfl rfl) (pa_cons (pe_lst pa_nil) pa_nil)) (pe_tup (pa_cons pe_int (pa_cons pe_int pa_nil))) (nomark _))))))
end
theorem all_mk {P : Program} {w : World} {K : PySem.W.Frag} {h : Heap} {mg : Str → Option Value} {fa : Addr} (X : K.In h) (GX : h.Ns mainGlobals mg) (hfa : mg "law" = some (.ref fa))
    {f0 : Addr} {od0 an0 : Option Addr} {sl0 : Array (Option Value)} {oc0 kV0 dc0 pm0 cd0 ct0 : Value}
    (a0 : PySem.W.nsIn K mainGlobals "common" = some (some (.ref f0))) (l0 : K.lookup f0 = some ⟨oc0, od0, .func (PySem.W.fnOf "common" "common" (defArgs s_common) (defBody s_common) (defScope s_common) .none kV0 dc0 pm0 an0 cd0 ct0), sl0⟩) (c0 : PySem.W.codeIn K cd0 "common" = true) (k0 : PySem.W.keepIn K (.ref f0) = true)
    {f1 : Addr} {od1 an1 : Option Addr} {sl1 : Array (Option Value)} {oc1 kV1 dc1 pm1 cd1 ct1 : Value}
    (a1 : PySem.W.nsIn K mainGlobals "is_pair" = some (some (.ref f1))) (l1 : K.lookup f1 = some ⟨oc1, od1, .func (PySem.W.fnOf "is_pair" "is_pair" (defArgs s_is_pair) (defBody s_is_pair) (defScope s_is_pair) .none kV1 dc1 pm1 an1 cd1 ct1), sl1⟩) (c1 : PySem.W.codeIn K cd1 "is_pair" = true) (k1 : PySem.W.keepIn K (.ref f1) = true)
    {f2 : Addr} {od2 an2 : Option Addr} {sl2 : Array (Option Value)} {oc2 kV2 dc2 pm2 cd2 ct2 : Value}
    (a2 : PySem.W.nsIn K mainGlobals "met" = some (some (.ref f2))) (l2 : K.lookup f2 = some ⟨oc2, od2, .func (PySem.W.fnOf "met" "met" (defArgs s_met) (defBody s_met) (defScope s_met) .none kV2 dc2 pm2 an2 cd2 ct2), sl2⟩) (c2 : PySem.W.codeIn K cd2 "met" = true) (k2 : PySem.W.keepIn K (.ref f2) = true)
    {f3 : Addr} {od3 an3 : Option Addr} {sl3 : Array (Option Value)} {oc3 kV3 dc3 pm3 cd3 ct3 : Value}
    (a3 : PySem.W.nsIn K mainGlobals "_law_cell" = some (some (.ref f3))) (l3 : K.lookup f3 = some ⟨oc3, od3, .func (PySem.W.fnOf "_law_cell" "_law_cell" (defArgs s__law_cell) (defBody s__law_cell) (defScope s__law_cell) .none kV3 dc3 pm3 an3 cd3 ct3), sl3⟩) (c3 : PySem.W.codeIn K cd3 "_law_cell" = true) (k3 : PySem.W.keepIn K (.ref f3) = true)
    {f4 : Addr} {od4 an4 : Option Addr} {sl4 : Array (Option Value)} {oc4 kV4 dc4 pm4 cd4 ct4 : Value}
    (a4 : PySem.W.nsIn K mainGlobals "_law_drawn" = some (some (.ref f4))) (l4 : K.lookup f4 = some ⟨oc4, od4, .func (PySem.W.fnOf "_law_drawn" "_law_drawn" (defArgs s__law_drawn) (defBody s__law_drawn) (defScope s__law_drawn) .none kV4 dc4 pm4 an4 cd4 ct4), sl4⟩) (c4 : PySem.W.codeIn K cd4 "_law_drawn" = true) (k4 : PySem.W.keepIn K (.ref f4) = true)
    {f5 : Addr} {od5 an5 : Option Addr} {sl5 : Array (Option Value)} {oc5 kV5 dc5 pm5 cd5 ct5 : Value}
    (a5 : PySem.W.nsIn K mainGlobals "_law_common" = some (some (.ref f5))) (l5 : K.lookup f5 = some ⟨oc5, od5, .func (PySem.W.fnOf "_law_common" "_law_common" (defArgs s__law_common) (defBody s__law_common) (defScope s__law_common) .none kV5 dc5 pm5 an5 cd5 ct5), sl5⟩) (c5 : PySem.W.codeIn K cd5 "_law_common" = true) (k5 : PySem.W.keepIn K (.ref f5) = true)
    {f6 : Addr} {od6 an6 : Option Addr} {sl6 : Array (Option Value)} {oc6 kV6 dc6 pm6 cd6 ct6 : Value}
    (a6 : PySem.W.nsIn K mainGlobals "_law_against" = some (some (.ref f6))) (l6 : K.lookup f6 = some ⟨oc6, od6, .func (PySem.W.fnOf "_law_against" "_law_against" (defArgs s__law_against) (defBody s__law_against) (defScope s__law_against) .none kV6 dc6 pm6 an6 cd6 ct6), sl6⟩) (c6 : PySem.W.codeIn K cd6 "_law_against" = true) (k6 : PySem.W.keepIn K (.ref f6) = true)
    {f7 : Addr} {od7 an7 : Option Addr} {sl7 : Array (Option Value)} {oc7 kV7 dc7 pm7 cd7 ct7 : Value}
    (a7 : PySem.W.nsIn K mainGlobals "law" = some (some (.ref f7))) (l7 : K.lookup f7 = some ⟨oc7, od7, .func (PySem.W.fnOf "law" "law" (defArgs s_law) (defBody s_law) (defScope s_law) .none kV7 dc7 pm7 an7 cd7 ct7), sl7⟩) (c7 : PySem.W.codeIn K cd7 "law" = true) (k7 : PySem.W.keepIn K (.ref f7) = true)
    {eBadNumber : Addr} (gBadNumber : PySem.W.nsIn K mainGlobals "BadNumber" = some (some (.ref eBadNumber))) (xBadNumber : PySem.W.excIn K eBadNumber [.type "ValueError", .type "Exception", .type "BaseException", .type "object"] "ValueError.__new__" = true) (kkBadNumber : PySem.W.keepIn K (.ref eBadNumber) = true) (bBadNumber : PySem.W.subIn K (.ref eBadNumber) (.type "BaseException") = some true) (tBadNumber : PySem.W.typeIn K (.ref eBadNumber) = some (.type "type"))
    (z_tuple : PySem.W.nsIn K mainGlobals "tuple" = some none)    (z_isinstance : PySem.W.nsIn K mainGlobals "isinstance" = some none)    (z_len : PySem.W.nsIn K mainGlobals "len" = some none)    (z_int : PySem.W.nsIn K mainGlobals "int" = some none)    (z_bool : PySem.W.nsIn K mainGlobals "bool" = some none)    (z_any : PySem.W.nsIn K mainGlobals "any" = some none)    (z_list : PySem.W.nsIn K mainGlobals "list" = some none)    (z_all : PySem.W.nsIn K mainGlobals "all" = some none)    (z_min : PySem.W.nsIn K mainGlobals "min" = some none)    (z_max : PySem.W.nsIn K mainGlobals "max" = some none)    (z_range : PySem.W.nsIn K mainGlobals "range" = some none) {tkMOST_MODULUS : Tok} (vMOST_MODULUS : PySem.W.nsIn K mainGlobals "MOST_MODULUS" = some (some (.int 2000 tkMOST_MODULUS))) {tkMOST_PAIRS : Tok} (vMOST_PAIRS : PySem.W.nsIn K mainGlobals "MOST_PAIRS" = some (some (.int 6 tkMOST_PAIRS))) :
    ∃ G : Pm, G.K = K ∧ ∃ fd : FuncData, (∀ (s : Shared) (u : Value), BindsTo s fd ⟨[u], []⟩ [("_law_script", u)]) ∧
      ∀ base : Heap, G.K.In base → base.Ns mainGlobals mg → FnOk P w G.K mg base (CXN P w) 3 fa fd ["_law_script"] (sp1 (fun v H Q _ => ∃ (a : Addr) (ns : List Int), v = .ref a ∧ SqL G.K H a (ns.map V.int) ∧ ns.length ≤ 63 ∧ (∀ z ∈ ns, Builtin.Int.intBits z ≤ 1048576) ∧ ∀ H', Q (.bl true) H')) := by
  have e := hfa.symm.trans (PySem.W.mg_of X GX a7)
  cases e
  refine ⟨{ K := K, BadNumber := eBadNumber }, rfl, PySem.W.fnOf "law" "law" (defArgs s_law) (defBody s_law) (defScope s_law) .none kV7 dc7 pm7 an7 cd7 ct7, fun s u => .of_eq rfl, fun base _ _ => ?_⟩
  have F_law := fun_mk (st := s_law) l7 c7 k7
  have m_tuple : mg "tuple" = none := PySem.W.mg_none_of X GX z_tuple
  have m_isinstance : mg "isinstance" = none := PySem.W.mg_none_of X GX z_isinstance
  have m_len : mg "len" = none := PySem.W.mg_none_of X GX z_len
  have m_int : mg "int" = none := PySem.W.mg_none_of X GX z_int
  have m_bool : mg "bool" = none := PySem.W.mg_none_of X GX z_bool
  have m_any : mg "any" = none := PySem.W.mg_none_of X GX z_any
  have m_list : mg "list" = none := PySem.W.mg_none_of X GX z_list
  have m_all : mg "all" = none := PySem.W.mg_none_of X GX z_all
  have m_min : mg "min" = none := PySem.W.mg_none_of X GX z_min
  have m_max : mg "max" = none := PySem.W.mg_none_of X GX z_max
  have m_range : mg "range" = none := PySem.W.mg_none_of X GX z_range
  have x_BadNumber : ErrAt K mg "BadNumber" eBadNumber := ⟨PySem.W.mg_of X GX gBadNumber, xBadNumber, kkBadNumber, bBadNumber, tBadNumber⟩
  have c_MOST_MODULUS := (⟨_, PySem.W.mg_of X GX vMOST_MODULUS⟩ : ∃ t, mg "MOST_MODULUS" = some (.int 2000 t))
  have c_MOST_PAIRS := (⟨_, PySem.W.mg_of X GX vMOST_PAIRS⟩ : ∃ t, mg "MOST_PAIRS" = some (.int 6 t))
  have C_common := ok_common (P := P) (w := w) (G := { K := K, BadNumber := eBadNumber }) (base := base) (defAt_mk X GX a0 l0 c0 k0)  (pure_common _)
  have C_is_pair := ok_is_pair (P := P) (w := w) (G := { K := K, BadNumber := eBadNumber }) (base := base) (defAt_mk X GX a1 l1 c1 k1) m_tuple m_isinstance m_len m_int m_bool m_any c_MOST_MODULUS (pure_is_pair _)
  have C_met := ok_met (P := P) (w := w) (G := { K := K, BadNumber := eBadNumber }) (base := base) (defAt_mk X GX a2 l2 c2 k2) C_is_pair C_common m_list m_isinstance m_len m_all x_BadNumber c_MOST_PAIRS (pure_met _)
  have C__law_cell := ok__law_cell (P := P) (w := w) (G := { K := K, BadNumber := eBadNumber }) (base := base) (defAt_mk X GX a3 l3 c3 k3) m_len (pure__law_cell _)
  have C__law_drawn := ok__law_drawn (P := P) (w := w) (G := { K := K, BadNumber := eBadNumber }) (base := base) (defAt_mk X GX a4 l4 c4 k4)  (pure__law_drawn _)
  have C__law_common := ok__law_common (P := P) (w := w) (G := { K := K, BadNumber := eBadNumber }) (base := base) (defAt_mk X GX a5 l5 c5 k5)  (pure__law_common _)
  have C__law_against := ok__law_against (P := P) (w := w) (G := { K := K, BadNumber := eBadNumber }) (base := base) (defAt_mk X GX a6 l6 c6 k6) C__law_common (pure__law_against _)
  exact ok_law (G := { K := K, BadNumber := eBadNumber }) F_law C__law_drawn C__law_cell C_met C__law_against C__law_common m_len m_min m_max m_range m_int m_list (pure_law _)
end Sv
open PySem PySem.W PyProof.Rows
set_option maxHeartbeats 0 in
theorem PySem.Challenge.cw_sievewright_k62_whole_rests_together_holds : PySem.Challenge.rw_sievewright_k62_whole_rests_together.Holds := by
  w_on; o_law; k_head; (case hw => w_witness2)
  k_fill
  refine Sv.walk_law (l := PySem.Challenge.rw_sievewright_k62_whole_rests_together) (n := 63) (k := 3) (x := "_law_script") rfl (by decide) rfl ⟨rfl, by decide, by decide⟩ (fun w h Y => PySem.W.kIn_of Y) ?F
  case F =>
    intro w mg fa h KX GX hmg
    refine' Sv.all_mk KX GX hmg ?a0 ?l0 ?c0 ?k0 ?a1 ?l1 ?c1 ?k1 ?a2 ?l2 ?c2 ?k2 ?a3 ?l3 ?c3 ?k3 ?a4 ?l4 ?c4 ?k4 ?a5 ?l5 ?c5 ?k5 ?a6 ?l6 ?c6 ?k6 ?a7 ?l7 ?c7 ?k7 ?gBadNumber ?xBadNumber ?kkBadNumber ?bBadNumber ?tBadNumber ?z_tuple ?z_isinstance ?z_len ?z_int ?z_bool ?z_any ?z_list ?z_all ?z_min ?z_max ?z_range ?vMOST_MODULUS ?vMOST_PAIRS
    (case a0 => k_is)
    (case l0 => k_is)
    (case c0 => k_is)
    (case k0 => k_is)
    (case a1 => k_is)
    (case l1 => k_is)
    (case c1 => k_is)
    (case k1 => k_is)
    (case a2 => k_is)
    (case l2 => k_is)
    (case c2 => k_is)
    (case k2 => k_is)
    (case a3 => k_is)
    (case l3 => k_is)
    (case c3 => k_is)
    (case k3 => k_is)
    (case a4 => k_is)
    (case l4 => k_is)
    (case c4 => k_is)
    (case k4 => k_is)
    (case a5 => k_is)
    (case l5 => k_is)
    (case c5 => k_is)
    (case k5 => k_is)
    (case a6 => k_is)
    (case l6 => k_is)
    (case c6 => k_is)
    (case k6 => k_is)
    (case a7 => k_is)
    (case l7 => k_is)
    (case c7 => k_is)
    (case k7 => k_is)
    (case gBadNumber => k_is)
    (case xBadNumber => k_exc)
    (case kkBadNumber => k_is)
    (case bBadNumber => k_is)
    (case tBadNumber => k_is)
    (case z_tuple => k_is)
    (case z_isinstance => k_is)
    (case z_len => k_is)
    (case z_int => k_is)
    (case z_bool => k_is)
    (case z_any => k_is)
    (case z_list => k_is)
    (case z_all => k_is)
    (case z_min => k_is)
    (case z_max => k_is)
    (case z_range => k_is)
    (case vMOST_MODULUS => k_is)
    (case vMOST_PAIRS => k_is)
