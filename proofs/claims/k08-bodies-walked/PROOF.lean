import PyProof.Rows.All
import Wide.All
import OpenK.AllK
import Wide.FinOn
import HandS.ForMost
import HandS.Evl
import HandS.SortInts
import HandS.IsInst
import HandS.TupAny
import HandS.TupMul
import HandS.Wide
import HandS.EndBits
import HandS.Deep
import HandS.Conv
import HandS.SetFor
import PySem.Challenge.RW_unravel_k08_bodies_walked
set_option Elab.async false
set_option linter.all false
set_option maxRecDepth 100000
set_option maxHeartbeats 4000000
/-! Own base over the hand layer: defs by name, readings that keep what is known, data -/
namespace U
open PySem PySem.Spec PyProof.Rows L2 Evl

/-! ### defs by name -/
def DefAt (K : PySem.W.Frag) (mg : Str → Option Value) (x : Str) (st : Stmt) : Prop :=
  ∃ f fd, Fun K x x st f fd ∧ mg x = some (.ref f)
def Cal (P : Program) (w : World) (K : PySem.W.Frag) (mg : Str → Option Value) (base : Heap) (CX : CXT) (k : Nat) (x : Str) (ps : List Str) (sp : Sp) : Prop :=
  ∃ f fd, FnOk P w K mg base CX k f fd ps sp ∧ mg x = some (.ref f) ∧ PySem.W.keepIn K (.ref f) = true ∧ Binds K fd ps []
section
variable {P : Program} {w : World} {K : PySem.W.Frag} {mg : Str → Option Value} {base : Heap}
theorem cal_of {x : Str} {st : Stmt} {N ps : List Str} {k : Nat} {sp : Sp} (D : DefAt K mg x st) (S : FnScope N ps (defScope st))
    (hb : ∀ (kV doc pm : Value) (an : Option Addr) (cdv ct : Value) (us : List Value), us.length = ps.length → bindArgs (PySem.W.fnOf x x (defArgs st) (defBody st) (defScope st) .none kV doc pm an cdv ct) ⟨us, []⟩ = pure (ps.zip us))
    (len : ∀ vs H Q E, sp vs H Q E → vs.length = ps.length)
    (body : ∀ (f : Addr) (cdv : Value) (A : Around) (outer : List Env) (s : Shared) (H : Hp) (vs : List V) (Q : VK) (E : XK), Room k (A.deeper (envOfC x (defScope st) s.heap.objs.size f cdv)) → sp vs H Q E →
      ∃ t, PSs (cxOf CX0 P w K mg base N x (defScope st) f cdv A outer s H E).nox (defBody st) t ∧ t { nx := fun _ H' => Q .non H', rt := Q } (start N vs) H) :
    Cal P w K mg base CX0 (k + 1) x ps sp := by
  obtain ⟨f, fd, F, hm⟩ := D
  exact ⟨f, fd, F.ok S len (body f), hm, F.kp, F.binds hb⟩
theorem Cal.mono {CX : CXT} {j k : Nat} {x : Str} {ps : List Str} {sp : Sp} (c : Cal P w K mg base CX j x ps sp) (h : j ≤ k) : Cal P w K mg base CX k x ps sp := by
  obtain ⟨f, fd, F, a, b, d⟩ := c
  exact ⟨f, fd, F.mono h, a, b, d⟩
theorem Cal.imp {CX : CXT} {k : Nat} {x : Str} {ps : List Str} {sp sp' : Sp} (c : Cal P w K mg base CX k x ps sp) (h : ∀ vs H Q E, sp' vs H Q E → sp vs H Q E) : Cal P w K mg base CX k x ps sp' := by
  obtain ⟨f, fd, F, a, b, d⟩ := c
  exact ⟨f, fd, F.imp h, a, b, d⟩
end
section
variable {X : Cx} {CX : CXT} {k : Nat} {ps : List Str} {sp : Sp} {E : XK} {x : Str} {p pos : Pos} {e : Expr} {es : List Expr} {t : TA}
theorem pe_cal (c : Cal X.prog X.w X.K X.mg X.base CX k x ps sp) (hr : Room k X.A) (hg : Gl X x) (hx : Passes CX X E) (ha : PA X (e :: es) t)
    (hdb : (x == ("__debug__" : Str)) = false := by decide) (he : starEach (e :: es) X.env = (false, eval e X.env) :: starEach es X.env := by rfl) (hpl : (backTo pos (starEach es X.env)).any (·.1) = false := by rfl) :
    PE X (.Call (.Name x p) (e :: es) [] pos) (tCall sp [] E t) := by
  obtain ⟨f, fd, F, hm, hk, hb⟩ := c
  exact pe_call F hr hg hm hk hb .nil hx ha hdb he hpl
theorem pe_globI {n : Int} (hg : Gl X x) (hm : ∃ t, X.mg x = some (.int n t)) (hd : (x == ("__debug__" : Str)) = false := by decide) : PE X (.Name x pos) (tC (.int n)) := by
  obtain ⟨t, hm⟩ := hm
  exact pe_glob hg hm ⟨t, rfl⟩ hd
/-- a * b, of any factors whose product is not beyond the model's own line -/
theorem op_mulA : OpR X (binaryOp .Mult) (rI IntMulOk fun i j => .int (i * j)) := opI fun _ _ _ _ _ _ _ hc q => mul_int q hc
end
/-! ### the rules, the written part named (within a comprehension the context is another) -/
section
variable {X : Cx} {K : PySem.W.Frag}
theorem k_ix_list (h : X.K = K) : IxR X (rIxL K) := h ▸ ix_list
theorem k_ix_tup (h : X.K = K) : IxR X (rIxT K) := h ▸ ix_tup
theorem k_sl_list (h : X.K = K) : SlR X (rSlL K) := h ▸ sl_list
theorem k_sl_tup (h : X.K = K) : SlR X (rSlA K) := h ▸ sl_tupA
theorem k_in_seq (h : X.K = K) : OpR X (compareOp .In) (rIn K false) := h ▸ op_in_seq
theorem k_notIn_seq (h : X.K = K) : OpR X (compareOp .NotIn) (rIn K true) := h ▸ op_notIn_seq
theorem k_catA (h : X.K = K) : OpR X (binaryOp .Add) (rCatA K) := h ▸ op_catA
theorem k_repT (h : X.K = K) : OpR X (binaryOp .Mult) (rRepT K) := h ▸ op_repT
theorem k_eqD (h : X.K = K) (hu : X.A.units + 64 < cLine) : OpR X (compareOp .Eq) (rEqD K) := h ▸ op_eqD hu
theorem k_neD (h : X.K = K) (hu : X.A.units + 64 < cLine) : OpR X (compareOp .NotEq) (rNeD K) := h ▸ op_neD hu
theorem k_len_seq (h : X.K = K) : CallR X (.builtin "len") (rLenS K) := h ▸ call_len_seq
theorem k_list_of (h : X.K = K) : CallR X (.type "list") (rListS K) := h ▸ call_list_of
theorem k_isi (h : X.K = K) : CallR X (.builtin "isinstance") (rIsi K) := h ▸ call_isi
theorem k_sortedI (h : X.K = K) : CallR X (.builtin "sorted") (rSortedI K) := h ▸ cr_sortedI
theorem k_any (h : X.K = K) (hc : X.calm = true) : CallR X (.builtin "any") (rAny K) := h ▸ cr_any hc
theorem k_all (h : X.K = K) (hc : X.calm = true) : CallR X (.builtin "all") (rAll K) := h ▸ cr_all hc
theorem k_index (h : X.K = K) : MtR X "list.index" (rIndex K) := h ▸ mt_index
theorem k_indexD (h : X.K = K) (hu : X.A.units + 65 < cLine) : MtR X "list.index" (rIndexD K) := h ▸ mt_indexD hu
theorem k_lcount (h : X.K = K) : MtR X "list.count" (rCntI K) := h ▸ mt_lcount
end
theorem mulok_l {i j : Int} (h1 : -(2 ^ 64) < i) (h2 : i < 2 ^ 64) : IntMulOk i j := CMul.ok (Or.inl ⟨h1, h2⟩)
theorem mulok_r {i j : Int} (h1 : -(2 ^ 64) < j) (h2 : j < 2 ^ 64) : IntMulOk i j := CMul.ok (Or.inr ⟨h1, h2⟩)
theorem mulok_bits {i j : Int} {a b : Nat} (hi : Builtin.Int.intBits i ≤ a) (hj : Builtin.Int.intBits j ≤ b) (h : a + b ≤ 100000000) : IntMulOk i j := by
  have e : bitsLine = 134217728 := by decide
  unfold IntMulOk
  intro z
  rw [Bool.and_eq_true] at z
  have z2 := z.2
  unfold Builtin.Int.intTooBig at z2
  have z3 := of_decide_eq_true z2
  rw [e] at z3
  omega

/-- the law's own promise -/
def BitsAll (ns : List Int) : Prop := ∀ z ∈ ns, Builtin.Int.intBits z ≤ 1048576
def spLaw (K : PySem.W.Frag) : Sp := fun vs H Q _ => ∃ (a : Addr) (ns : List Int), vs = [.ref a] ∧ SqL K H a (ns.map V.int) ∧ ns.length ≤ 63 ∧ BitsAll ns ∧ ∀ H', Q (.bl true) H'
theorem spLaw_in {K : PySem.W.Frag} {H : Hp} {a : Addr} {ns : List Int} {E : XK} (hS : SqL K H a (ns.map V.int)) (hl : ns.length ≤ 63) (hb : BitsAll ns) : spLaw K [.ref a] H (fun v _ => v = .bl true) E := ⟨a, ns, rfl, hS, hl, hb, fun _ => rfl⟩

/-! ### readings with a relation -/
def EvR (te : TE) (σ : L2.St) (H : Hp) (R : Hp → V → Hp → Prop) : Prop := ∀ H1, Ex H H1 → ∀ Q : VK, (∀ v H2, Ex H1 H2 → R H1 v H2 → Q v H2) → te σ H1 Q
def EvAR (ta : TA) (σ : L2.St) (H : Hp) (R : List V → Hp → Prop) : Prop := ∀ H1, Ex H H1 → ∀ Q : List V → Hp → Prop, (∀ vs H2, Ex H1 H2 → R vs H2 → Q vs H2) → ta σ H1 Q
/-- a def's promise by what is asked of the arguments and what is told of the answer; g: what is meant -/
def FSp {G : Type} (pre : G → List V → Hp → Prop) (R : G → Hp → V → Hp → Prop) : Sp := fun vs H Q _ => ∃ g, pre g vs H ∧ ∀ v H', Ex H H' → R g H v H' → Q v H'
section
variable {K : PySem.W.Frag} {σ : L2.St} {H H' : Hp} {ta tb te tx : TE} {t u : TT} {x y z v : V} {r : R2} {D : Ends} {tu tw tz : TS}
theorem EvR.mono {R : Hp → V → Hp → Prop} (e : Ex H H') (h : EvR te σ H R) : EvR te σ H' R := fun H1 a Q q => h H1 (e.trans a) Q q
theorem EvR.imp {R R' : Hp → V → Hp → Prop} (h : EvR te σ H R) (f : ∀ H1 v H2, Ex H H1 → Ex H1 H2 → R H1 v H2 → R' H1 v H2) : EvR te σ H R' := fun H1 a Q q => h H1 a Q fun v H2 e r => q v H2 e (f H1 v H2 a e r)
theorem _root_.Evl.Ev.toR (h : Ev te σ H v) : EvR te σ H (fun _ x _ => x = v) := fun H1 a Q q => h H1 a Q fun H2 e => q v H2 e rfl
theorem _root_.Evl.EvL.toR {xs : List V} (h : EvL te σ H xs) : EvR te σ H (fun H1 x H2 => ∃ p, x = .ref p ∧ H1 p = none ∧ H2 p = some (.lst xs)) := fun H1 a Q q => h H1 a Q fun p H2 hp e h2 => q _ H2 e ⟨p, rfl, hp, h2⟩
theorem _root_.Evl.EvU.toR {xs : List V} (h : EvU te σ H xs) : EvR te σ H (fun H1 x H2 => ∃ p, x = .ref p ∧ H1 p = none ∧ H2 p = some (.tup xs)) := fun H1 a Q q => h H1 a Q fun p H2 hp e h2 => q _ H2 e ⟨p, rfl, hp, h2⟩
theorem EvR.ev (h : EvR te σ H (fun _ x _ => x = v)) : Ev te σ H v := fun H1 a Q q => h H1 a Q fun w H2 e r => by
  subst r
  exact q H2 e
theorem EvR.l {xs : List V} (h : EvR te σ H (fun H1 x H2 => ∃ p, x = .ref p ∧ H1 p = none ∧ H2 p = some (.lst xs))) : EvL te σ H xs := fun H1 a Q q => h H1 a Q fun w H2 e r => by
  obtain ⟨p, rfl, hp, h2⟩ := r
  exact q p H2 hp e h2
theorem ear_nil : EvAR tNil σ H (fun vs _ => vs = []) := fun H1 _ Q q => q [] H1 (Ex.refl H1) rfl
theorem ear_of {ta : TA} {vs : List V} (h : EvA ta σ H vs) : EvAR ta σ H (fun ws _ => ws = vs) := fun H1 a Q q => h H1 a Q fun H2 e => q vs H2 e rfl
theorem ear_cons {tr : TA} {R1 : Hp → V → Hp → Prop} {R : List V → Hp → Prop} (h : EvR te σ H R1) (hr : ∀ H1 x H2, Ex H H1 → Ex H1 H2 → R1 H1 x H2 → EvAR tr σ H2 (fun vs H3 => R (x :: vs) H3)) : EvAR (tCons te tr) σ H R := fun H1 e Q q =>
  h H1 e _ fun x H2 e2 r1 => hr H1 x H2 e e2 r1 H2 (Ex.refl H2) _ fun vs H3 e3 r => q _ H3 (e2.trans e3) r
/-- a call of a def that keeps an FSp -/
theorem ev_callR {G : Type} {pre : G → List V → Hp → Prop} {R : G → Hp → V → Hp → Prop} {E : XK} {ta : TA} {Ra : List V → Hp → Prop} (g : G) (h : EvAR ta σ H Ra) (hp : ∀ vs H1, Ex H H1 → Ra vs H1 → pre g vs H1) (hR : ∀ (H1 H2 H3 : Hp) v, Ex H1 H2 → R g H2 v H3 → R g H1 v H3) :
    EvR (tCall (FSp pre R) [] E ta) σ H (R g) := fun H1 e Q q => h H1 e _ fun vs H2 e2 ra => ⟨g, by
    rw [List.append_nil]
    exact hp vs H2 (e.trans e2) ra, fun v H3 e3 r => q v H3 (e2.trans e3) (hR H1 H2 H3 v e2 r)⟩
theorem ev_callA {G : Type} {pre : G → List V → Hp → Prop} {R : G → Hp → V → Hp → Prop} {E : XK} {ta : TA} {vs : List V} (g : G) (h : EvA ta σ H vs) (hp : ∀ H1, Ex H H1 → pre g vs H1) (hR : ∀ (H1 H2 H3 : Hp) v, Ex H1 H2 → R g H2 v H3 → R g H1 v H3) :
    EvR (tCall (FSp pre R) [] E ta) σ H (R g) := ev_callR g (ear_of h) (fun ws H1 e q => by
    subst q
    exact hp H1 e) hR
theorem ev_callV {G : Type} {pre : G → List V → Hp → Prop} {f : G → V} {E : XK} {ta : TA} {vs : List V} (g : G) (h : EvA ta σ H vs) (hp : ∀ H1, Ex H H1 → pre g vs H1) :
    Ev (tCall (FSp pre fun g _ v _ => v = f g) [] E ta) σ H (f g) := EvR.ev (ev_callA g h hp fun _ _ _ _ _ q => q)
/-- statements -/
theorem s_asgR {i : Nat} {R : Hp → V → Hp → Prop} (h : EvR te σ H R) (k : ∀ v H1, Ex H H1 → R H v H1 → D.nx (σ.set i (some v)) H1) : tAsg te (gName i) D σ H := h H (Ex.refl H) _ fun v H1 e r => k v H1 e r
theorem q_asgR {i : Nat} {R : Hp → V → Hp → Prop} (h : EvR te σ H R) (k : ∀ v H1, Ex H H1 → R H v H1 → tz D (σ.set i (some v)) H1) : tSeq (tAsg te (gName i)) tz D σ H := s_asgR (D := { D with nx := tz D }) h k
theorem s_retR {R : Hp → V → Hp → Prop} (h : EvR te σ H R) (k : ∀ v H1, Ex H H1 → R H v H1 → D.rt v H1) : tRet te D σ H := h H (Ex.refl H) _ fun v H1 e r => k v H1 e r
theorem s_dropR {R : Hp → V → Hp → Prop} (h : EvR te σ H R) (k : ∀ v H1, Ex H H1 → R H v H1 → D.nx σ H1) : tDrop te D σ H := h H (Ex.refl H) _ fun v H1 e r => k v H1 e r
theorem q_dropR {R : Hp → V → Hp → Prop} (h : EvR te σ H R) (k : ∀ v H1, Ex H H1 → R H v H1 → tz D σ H1) : tSeq (tDrop te) tz D σ H := s_dropR (D := { D with nx := tz D }) h k
/-- any expression, then the rest by its value -/
theorem ev_bind {R1 : Hp → V → Hp → Prop} {R : Hp → V → Hp → Prop} {r : V → Hp → VK → Prop} (h : EvR te σ H R1) (k : ∀ x H1 H2, Ex H H1 → Ex H1 H2 → R1 H1 x H2 → ∀ Q : VK, (∀ v H3, Ex H2 H3 → R H1 v H3 → Q v H3) → r x H2 Q) :
    EvR (fun σ H Q => te σ H fun x H1 => r x H1 Q) σ H R := fun H1 e Q q => h H1 e _ fun x H2 e2 r1 => k x H1 H2 e e2 r1 Q fun v H3 e3 rr => q v H3 (e2.trans e3) rr
theorem evr_op {R1 R2 R : Hp → V → Hp → Prop} {r : L2.R2} (ha : EvR ta σ H R1) (hb : ∀ x H1 H2, Ex H H1 → Ex H1 H2 → R1 H1 x H2 → EvR tb σ H2 R2)
    (hr : ∀ x y H1 H2 H3, Ex H H1 → Ex H1 H2 → R1 H1 x H2 → Ex H2 H3 → R2 H2 y H3 → ∀ Q : VK, (∀ v H4, Ex H3 H4 → R H1 v H4 → Q v H4) → r x y H3 Q) : EvR (tOp r ta tb) σ H R := fun H1 e Q q =>
  ha H1 e _ fun x H2 e2 r1 => hb x H1 H2 e e2 r1 H2 (Ex.refl H2) _ fun y H3 e3 r2 => hr x y H1 H2 H3 e e2 r1 e3 r2 Q fun v H4 e4 rr => q v H4 ((e2.trans e3).trans e4) rr

/-! ### further values -/
theorem rv_I0b {g : Int → Int → V} {i j : Int} {w : V} (h : g i j = w) : RV (rI0 g) (.int i) (.int j) H w := by
  subst h
  exact rv_I0
theorem rv_mulA {i j : Int} (h : IntMulOk i j) : RV (rI IntMulOk fun i j => .int (i * j)) (.int i) (.int j) H (.int (i * j)) := rv_I h
theorem rv_modN {i j : Int} (h : 0 < j) : RV (rI (fun _ j => j ≠ 0) fun i j => .int (i.fmod j)) (.int i) (.int j) H (.int (i % j)) := by
  have q := rv_I (H := H) (C := fun (_ j : Int) => j ≠ 0) (g := fun i j => .int (i.fmod j)) (i := i) (j := j) (by omega)
  have e : i.fmod j = i % j := Int.fmod_eq_emod_of_nonneg i (by omega)
  rw [show V.int (i % j) = V.int (i.fmod j) by rw [e]]
  exact q
theorem rv_fdivN {i j : Int} (h : 0 < j) (h2 : j.natAbs < 1073741824) : RV (rI CDivN fun i j => .int (i.fdiv j)) (.int i) (.int j) H (.int (i / j)) := by
  have q := rv_I (H := H) (C := CDivN) (g := fun i j => .int (i.fdiv j)) (i := i) (j := j) ⟨by omega, h2⟩
  have e : i.fdiv j = i / j := Int.fdiv_eq_ediv_of_nonneg i (by omega)
  rw [show V.int (i / j) = V.int (i.fdiv j) by rw [e]]
  exact q
theorem rv_pow {i j : Int} (h : CPow i j) : RV (rI CPow fun i j => .int (i ^ j.toNat)) (.int i) (.int j) H (.int (i ^ j.toNat)) := rv_I h
def rMin2 : List V → Hp → VK → Prop := fun xs H Q => ∃ i j, xs = [.int i, .int j] ∧ Q (.int (if j < i then j else i)) H
theorem ev_min2 {i j : Int} (ha : Ev ta σ H (.int i)) (hb : Ev tb σ H (.int j)) : Ev (tCB rMin2 (tCons ta (tCons tb tNil))) σ H (.int (if j < i then j else i)) := fun H1 e Q q =>
  ha H1 e _ fun H2 e2 => hb H2 (e.trans e2) _ fun H3 e3 => ⟨i, j, rfl, q H3 (e2.trans e3)⟩
theorem ev_lenT {p : Addr} {xs : List V} (ha : Ev ta σ H (.ref p)) (h : SqT K H p xs) : Ev (tCB (rLenS K) (tCons ta tNil)) σ H (.int (xs.length : Int)) := fun H1 e Q q =>
  ha H1 e _ fun H2 e2 => ⟨p, xs, rfl, Or.inr (ex_t (e.trans e2) h), q H2 e2⟩
theorem ev_notT {b : Bool} (h : EvT t σ H b) : EvT (tNot t) σ H (!b) := et_not h
theorem ev_isi {n a : String} {b : Bool} (hx : Ev ta σ H x) (ty : ∀ H1, Ex H H1 → TyX K H1 x (.type a)) (h : kitB a n = some b) : Ev (tCB (rIsi K) (tCons ta (tCons (tC (.ty n)) tNil))) σ H (.bl b) := fun H1 e Q q =>
  hx H1 e _ fun H2 e2 => ⟨x, .ty n, .type a, .type n, b, rfl, .ty n, ty H2 (e.trans e2), kit_ty h, q H2 e2⟩
theorem kb_ii : kitB "int" "int" = some true := by decide +kernel
theorem kb_ib : kitB "int" "bool" = some false := by decide +kernel
theorem kb_bb : kitB "bool" "bool" = some true := by decide +kernel
theorem kb_bi : kitB "bool" "int" = some true := by decide +kernel
theorem kb_ss : kitB "str" "str" = some true := by decide +kernel
theorem kb_ll : kitB "list" "list" = some true := by decide +kernel
theorem kb_tt : kitB "tuple" "tuple" = some true := by decide +kernel
theorem kb_si : kitB "str" "int" = some false := by decide +kernel
theorem kb_is : kitB "int" "str" = some false := by decide +kernel
theorem kb_ni : kitB "NoneType" "int" = some false := by decide +kernel
theorem kb_li : kitB "list" "int" = some false := by decide +kernel
theorem kb_ls : kitB "list" "str" = some false := by decide +kernel
theorem kb_ns : kitB "NoneType" "str" = some false := by decide +kernel
theorem kb_ts : kitB "tuple" "str" = some false := by decide +kernel
/-- a chain of two comparisons -/
theorem ev_chain {r' : R2} {tc : TE} {a b : Bool} (ha : Ev ta σ H x) (hb : Ev tb σ H y) (h1 : RV r x y H (.bl a)) (h2 : a = true → Ev tc σ H z ∧ RV r' y z H (.bl b)) : Ev (tChain r r' ta tb tc) σ H (.bl (a && b)) := fun H1 e Q q =>
  ha H1 e _ fun H2 e2 => hb H2 (e.trans e2) _ fun H3 e3 => h1 H3 ((e.trans e2).trans e3) _ fun H4 e4 => ⟨a, rfl, by
    cases a with
    | false =>
      show Q (.bl false) H4
      exact q H4 ((e2.trans e3).trans e4)
    | true =>
      obtain ⟨hc, hr⟩ := h2 rfl
      show tc σ H4 fun w' H5 => r' y w' H5 Q
      exact hc H4 (((e.trans e2).trans e3).trans e4) _ fun H5 e5 => hr H5 ((((e.trans e2).trans e3).trans e4).trans e5) Q fun H6 e6 => q H6 ((((e2.trans e3).trans e4).trans e5).trans e6)⟩
/-- dicts -/
theorem ev_dget {a : Addr} {kvs : List (Key × V)} {k : Key} (ha : Ev ta σ H (.ref a)) (hb : Ev tb σ H (kV k)) (hd : Rd H a (.dK kvs)) (hv : valV kvs k = some v) : Ev (tDGet ta tb) σ H v := fun H1 e Q q =>
  ha H1 e _ fun H2 e2 => hb H2 (e.trans e2) _ fun H3 e3 => ⟨a, v, rfl, Or.inl ⟨kvs, k, ex_rd ((e.trans e2).trans e3) hd, rfl, hv.symm⟩, q H3 (e2.trans e3)⟩
theorem ev_din {a : Addr} {kvs : List (Key × V)} {k : Key} (hb : Ev tb σ H (kV k)) (ha : Ev ta σ H (.ref a)) (hd : Rd H a (.dK kvs)) : Ev (tDIn tb ta) σ H (.bl (valV kvs k).isSome) := fun H1 e Q q =>
  hb H1 e _ fun H2 e2 => ha H2 (e.trans e2) _ fun H3 e3 => ⟨a, valV kvs k, rfl, Or.inl ⟨kvs, k, ex_rd ((e.trans e2).trans e3) hd, rfl, rfl⟩, q H3 (e2.trans e3)⟩
theorem ev_dnotin {a : Addr} {kvs : List (Key × V)} {k : Key} (hb : Ev tb σ H (kV k)) (ha : Ev ta σ H (.ref a)) (hd : Rd H a (.dK kvs)) : Ev (tDNotIn tb ta) σ H (.bl (!(valV kvs k).isSome)) := fun H1 e Q q =>
  hb H1 e _ fun H2 e2 => ha H2 (e.trans e2) _ fun H3 e3 => ⟨a, valV kvs k, rfl, Or.inl ⟨kvs, k, ex_rd ((e.trans e2).trans e3) hd, rfl, rfl⟩, q H3 (e2.trans e3)⟩
/-- y in (a dict just made by e), y not in it -/
theorem ev_dinR {kvs : List (Key × V)} {k : Key} (hb : Ev tb σ H (kV k)) (ha : EvR ta σ H fun _ x H2 => ∃ a, x = .ref a ∧ Rd H2 a (.dK kvs)) : Ev (tDIn tb ta) σ H (.bl (valV kvs k).isSome) := fun H1 e Q q =>
  hb H1 e _ fun H2 e2 => ha H2 (e.trans e2) _ fun x H3 e3 ⟨a, ex, hd⟩ => ⟨a, valV kvs k, ex, Or.inl ⟨kvs, k, hd, rfl, rfl⟩, q H3 (e2.trans e3)⟩
theorem ev_dinP {k : Key} {b : Bool} (hb : Ev tb σ H (kV k)) (ha : EvR ta σ H fun _ x H2 => ∃ a kvs, x = .ref a ∧ Rd H2 a (.dK kvs) ∧ (valV kvs k).isSome = b) : Ev (tDIn tb ta) σ H (.bl b) := fun H1 e Q q =>
  hb H1 e _ fun H2 e2 => ha H2 (e.trans e2) _ fun x H3 e3 ⟨a, kvs, ex, hd, hv⟩ => ⟨a, valV kvs k, ex, Or.inl ⟨kvs, k, hd, rfl, rfl⟩, by
    rw [hv]
    exact q H3 (e2.trans e3)⟩
/-- a comprehension's list made ahead -/
theorem lc_bind {wi : TE → TI} {g : TG} {vs : List Nat} {R1 : Hp → V → Hp → Prop} {R : Hp → V → Hp → Prop} (hw : ∀ (te : TE) σ H Rr, wi te σ H Rr = te σ H fun x H1 => wi (tC x) σ H1 Rr) (h : EvR tx σ H R1)
    (k : ∀ x H1 H2, Ex H H1 → Ex H1 H2 → R1 H1 x H2 → EvR (tLc (wi (tC x)) g t te vs) σ H2 (fun _ y H3 => R H1 y H3)) : EvR (tLc (wi tx) g t te vs) σ H R := fun H1 e Q q => by
  show wi tx σ H1 _
  rw [hw]
  exact h H1 e _ fun x H2 e2 r => k x H1 H2 e e2 r H2 (Ex.refl H2) Q fun y H3 e3 rr => q y H3 (e2.trans e3) rr
theorem iList_bind (te : TE) (σ : L2.St) (H : Hp) (Rr : It → Hp → Prop) : iList K te σ H Rr = te σ H fun x H1 => iList K (tC x) σ H1 Rr := rfl
theorem ed_new : EvR tDNewK σ H (fun H1 x H2 => ∃ p, x = .ref p ∧ H1 p = none ∧ H2 p = some (.dK [])) := fun H1 _ Q q p hp => q _ _ (Ex.new hp) ⟨p, rfl, hp, upd_same⟩
theorem s_dput {a : Addr} {kvs : List (Key × V)} {k : Key} (hv : Ev te σ H v) (ha : Ev ta σ H (.ref a)) (hb : Ev tb σ H (kV k)) (hd : H a = some (.dK kvs)) (hl : kvs.length < 100000) (q : ∀ H1, Ex H H1 → D.nx σ (upd H1 a (.dK (putK kvs k v)))) : sDPut ta tb te D σ H :=
  hv H (Ex.refl H) _ fun H1 e1 => ha H1 e1 _ fun H2 e2 => hb H2 (e1.trans e2) _ fun H3 e3 => ⟨a, _, rfl, Or.inl ⟨kvs, k, ((e1.trans e2).trans e3) a _ hd, rfl, sz_lt hl, rfl⟩, q H3 ((e1.trans e2).trans e3)⟩
theorem q_dput {a : Addr} {kvs : List (Key × V)} {k : Key} (hv : Ev te σ H v) (ha : Ev ta σ H (.ref a)) (hb : Ev tb σ H (kV k)) (hd : H a = some (.dK kvs)) (hl : kvs.length < 100000) (q : ∀ H1, Ex H H1 → tz D σ (upd H1 a (.dK (putK kvs k v)))) : tSeq (sDPut ta tb te) tz D σ H :=
  s_dput (D := { D with nx := tz D }) hv ha hb hd hl q
/-- the same, the value by a relation -/
theorem s_dputR {a : Addr} {R : Hp → V → Hp → Prop} (hv : EvR te σ H R) (ha : Ev ta σ H (.ref a)) {k : Key} (hb : Ev tb σ H (kV k)) {kvs : List (Key × V)} (hd : H a = some (.dK kvs)) (hl : kvs.length < 100000)
    (q : ∀ v H1, Ex H H1 → (∃ H0, Ex H H0 ∧ Ex H0 H1 ∧ R H v H0) → D.nx σ (upd H1 a (.dK (putK kvs k v)))) : sDPut ta tb te D σ H :=
  hv H (Ex.refl H) _ fun v H1 e1 r => ha H1 e1 _ fun H2 e2 => hb H2 (e1.trans e2) _ fun H3 e3 => ⟨a, _, rfl, Or.inl ⟨kvs, k, ((e1.trans e2).trans e3) a _ hd, rfl, sz_lt hl, rfl⟩, q v H3 ((e1.trans e2).trans e3) ⟨H1, e1, e2.trans e3, r⟩⟩
/-- xs.pop() as a value, the last: the list changes -/
theorem s_asgPop {i : Nat} {l : Addr} {xs : List V} (ho : Ev ta σ H (.ref l)) (hl : H l = some (.lst (xs ++ [v]))) (q : ∀ H1, Ex H H1 → D.nx (σ.set i (some v)) (upd H1 l (.lst xs))) : tAsg (tBM0 K "list" rPop ta) (gName i) D σ H :=
  ho H (Ex.refl H) _ fun H1 e1 => ⟨Or.inl ⟨rfl, _, sq_of (e1 l _ hl)⟩, l, _, v, rfl, rfl, e1 l _ hl, by simp, by
    rw [List.dropLast_concat]
    exact q H1 e1⟩
theorem q_asgPop {i : Nat} {l : Addr} {xs : List V} (ho : Ev ta σ H (.ref l)) (hl : H l = some (.lst (xs ++ [v]))) (q : ∀ H1, Ex H H1 → tz D (σ.set i (some v)) (upd H1 l (.lst xs))) : tSeq (tAsg (tBM0 K "list" rPop ta) (gName i)) tz D σ H :=
  s_asgPop (D := { D with nx := tz D }) ho hl q
theorem s_pop {l : Addr} {xs : List V} (ho : Ev ta σ H (.ref l)) (hl : H l = some (.lst (xs ++ [v]))) (q : ∀ H1, Ex H H1 → D.nx σ (upd H1 l (.lst xs))) : tDrop (tBM0 K "list" rPop ta) D σ H :=
  ho H (Ex.refl H) _ fun H1 e1 => ⟨Or.inl ⟨rfl, _, sq_of (e1 l _ hl)⟩, l, _, v, rfl, rfl, e1 l _ hl, by simp, by
    rw [List.dropLast_concat]
    exact q H1 e1⟩
theorem q_pop {l : Addr} {xs : List V} (ho : Ev ta σ H (.ref l)) (hl : H l = some (.lst (xs ++ [v]))) (q : ∀ H1, Ex H H1 → tz D σ (upd H1 l (.lst xs))) : tSeq (tDrop (tBM0 K "list" rPop ta)) tz D σ H :=
  s_pop (D := { D with nx := tz D }) ho hl q
/-- x = xs[ys.pop()] -/
theorem q_asgIxPop {i : Nat} {a l : Addr} {us xs : List V} {n : Int} (ha : Ev ta σ H (.ref a)) (hb : Ev tb σ H (.ref l)) (hl : H l = some (.lst (xs ++ [.int n]))) (hat : atI us n = some v)
    (k : ∀ H1, Ex H H1 → SqL K (upd H1 l (.lst xs)) a us ∧ tz D (σ.set i (some v)) (upd H1 l (.lst xs))) : tSeq (tAsg (tOp (rIxL K) ta (tBM0 K "list" rPop tb)) (gName i)) tz D σ H :=
  ha H (Ex.refl H) _ fun H1 e1 => hb H1 e1 _ fun H2 e2 => ⟨Or.inl ⟨rfl, _, sq_of ((e1.trans e2) l _ hl)⟩, l, _, .int n, rfl, rfl, (e1.trans e2) l _ hl, by simp, by
    rw [List.dropLast_concat]
    obtain ⟨h1, h2⟩ := k H2 (e1.trans e2)
    exact ⟨a, us, n, v, rfl, rfl, h1, hat, h2⟩⟩
/-- sorted(a list just made of ints) and so on: a built-in of one argument that makes a list -/
theorem el_sorted {R1 : Hp → V → Hp → Prop} {ns : List Int} (h : EvR te σ H R1) (h1 : ∀ H1 x H2, Ex H H1 → Ex H1 H2 → R1 H1 x H2 → ∃ a, x = .ref a ∧ SqL K H2 a (ns.map V.int)) (ms : List Int) (hs : ∀ ns' : List Int, ns'.Perm ns → ns'.Pairwise (· ≤ ·) → ns' = ms) :
    EvL (tCB (rSortedI K) (tCons te tNil)) σ H (ms.map V.int) := fun H1 e Q q => h H1 e _ fun x H2 e2 r1 => by
  obtain ⟨a, rfl, hl⟩ := h1 H1 x H2 e e2 r1
  refine ⟨a, ns, rfl, hl, fun ns' p hp hw hn => ?_⟩
  rw [hs ns' hp hw]
  exact q p _ (fresh_back e2 hn) (e2.trans (Ex.new hn)) upd_same
theorem el_listD {a : Addr} {kvs : List (Key × V)} (h : Ev te σ H (.ref a)) (hd : H a = some (.dK kvs)) : EvL (tCB rListD (tCons te tNil)) σ H (kvs.map fun kv => kV kv.1) := fun H1 e Q q => h H1 e _ fun H2 e2 =>
  ⟨a, kvs, rfl, e2 a _ (e a _ hd), fun p hp => q p _ (fresh_back e2 hp) (e2.trans (Ex.new hp)) upd_same⟩
theorem el_listDR {kvs : List (Key × V)} (h : EvR te σ H fun _ x H2 => ∃ a, x = .ref a ∧ H2 a = some (.dK kvs)) : EvL (tCB rListD (tCons te tNil)) σ H (kvs.map fun kv => kV kv.1) := fun H1 e Q q => h H1 e _ fun x H2 e2 ⟨a, ex, hd⟩ =>
  ⟨a, kvs, by rw [ex], hd, fun p hp => q p _ (fresh_back e2 hp) (e2.trans (Ex.new hp)) upd_same⟩
theorem el_listRg {tr : L2.St → Hp → (Int → Int → Hp → Prop) → Prop} {a b : Int} (h : ∀ H1, Ex H H1 → ∀ Q : Int → Int → Hp → Prop, (∀ H2, Ex H1 H2 → Q a b H2) → tr σ H1 Q) (ok : RgOk a b) : EvL (tLstRg tr) σ H (rgV a b) := fun H1 e Q q =>
  h H1 e _ fun H2 e2 => ⟨ok, fun p hp => q p _ (fresh_back e2 hp) (e2.trans (Ex.new hp)) upd_same⟩
theorem rg1 {n : Int} (h : Ev te σ H (.int n)) : ∀ H1, Ex H H1 → ∀ Q : Int → Int → Hp → Prop, (∀ H2, Ex H1 H2 → Q 0 n H2) → tRg1 te σ H1 Q := fun H1 e Q q => h H1 e _ fun H2 e2 => ⟨n, rfl, q H2 e2⟩
theorem rg2 {a b : Int} (ha : Ev ta σ H (.int a)) (hb : Ev tb σ H (.int b)) : ∀ H1, Ex H H1 → ∀ Q : Int → Int → Hp → Prop, (∀ H2, Ex H1 H2 → Q a b H2) → tRg2 ta tb σ H1 Q := fun H1 e Q q => ha H1 e _ fun H2 e2 => hb H2 (e.trans e2) _ fun H3 e3 => ⟨a, b, rfl, rfl, q H3 (e2.trans e3)⟩
/-- lists joined -/
theorem el_cat {R1 R2 : Hp → V → Hp → Prop} {xs ys : List V} (ha : EvR ta σ H R1) (hb : ∀ x H1 H2, Ex H H1 → Ex H1 H2 → R1 H1 x H2 → EvR tb σ H2 R2) (hl : xs.length + ys.length ≤ 100000)
    (h : ∀ x y H1 H2 H3, Ex H H1 → Ex H1 H2 → R1 H1 x H2 → Ex H2 H3 → R2 H2 y H3 → ∃ a b, x = .ref a ∧ y = .ref b ∧ H3 a = some (.lst xs) ∧ H3 b = some (.lst ys)) : EvL (tOp rCat ta tb) σ H (xs ++ ys) :=
  EvR.l (evr_op ha hb fun x y H1 H2 H3 e e2 r1 e3 r2 Q q => by
    obtain ⟨a, b, rfl, rfl, h1, h2⟩ := h x y H1 H2 H3 e e2 r1 e3 r2
    exact ⟨a, b, xs, ys, rfl, rfl, h1, h2, sz_of hl, fun p hp => q _ _ (Ex.new hp) ⟨p, rfl, fresh_back (e2.trans e3) hp, upd_same⟩⟩)
/-- while, by a word with a number that falls -/
theorem s_whileW (W : Nat → L2.St → Hp → Prop) (m0 : Nat) (h0 : W m0 σ H)
    (hs : ∀ m σ' H', W m σ' H' → ∃ b, EvT t σ' H' b ∧ (b = true → ∀ H1, Ex H' H1 → tu { D with nx := fun σ2 H2 => ∃ m', m' < m ∧ W m' σ2 H2, ct := fun σ2 H2 => ∃ m', m' < m ∧ W m' σ2 H2, bk := D.nx } σ' H1) ∧ (b = false → ∀ H1, Ex H' H1 → D.nx σ' H1)) : tWhile t tu D σ H :=
  s_while W m0 h0 fun m σ' H' w => by
    obtain ⟨b, hb, h1, h2⟩ := hs m σ' H' w
    exact ⟨b, hb, fun z H1 e => ⟨_, fun _ _ y => y, h1 z H1 e⟩, h2⟩
theorem q_whileW (W : Nat → L2.St → Hp → Prop) (m0 : Nat) (h0 : W m0 σ H)
    (hs : ∀ m σ' H', W m σ' H' → ∃ b, EvT t σ' H' b ∧ (b = true → ∀ H1, Ex H' H1 → tu { D with nx := fun σ2 H2 => ∃ m', m' < m ∧ W m' σ2 H2, ct := fun σ2 H2 => ∃ m', m' < m ∧ W m' σ2 H2, bk := tz D } σ' H1) ∧ (b = false → ∀ H1, Ex H' H1 → tz D σ' H1)) : tSeq (tWhile t tu) tz D σ H :=
  s_whileW (D := { D with nx := tz D }) W m0 h0 hs
/-! ### walks over a dict, which is locked meanwhile -/
theorem ex_unlock {a : Addr} {u : HO} {od : Obj} (h : H a = some u) (e : Ex (upd H a (.frz od u)) H') : Ex H (upd H' a u) := fun b o hb => by
  by_cases z : b = a
  · subst z
    rw [upd_same, ← hb, h]
  · rw [upd_ne z]
    exact e b o (by rw [upd_ne z]; exact hb)
theorem s_forDict {a : Addr} {kvs : List (Key × V)} {td : TE} {j : Nat} (hd : H a = some (.dK kvs)) (he : ∀ H1 (Q : VK), Q (.ref a) H1 → td σ H1 Q) (Pv : Obj → Nat → L2.St → Hp → Prop) (h0 : ∀ od, Pv od 0 σ (upd H a (.frz od (.dK kvs))))
    (hl : ∀ od i σ' H', Pv od i σ' H' → H' a = some (.frz od (.dK kvs)))
    (hs : ∀ od i k v σ' H', kvs[i]? = some (k, v) → Pv od i σ' H' → tu { nx := Pv od (i + 1), ct := Pv od (i + 1), bk := fun σ' H' => H' a = some (.frz od (.dK kvs)) ∧ D.nx σ' (upd H' a (.dK kvs)), rt := fun v H' => H' a = some (.frz od (.dK kvs)) ∧ D.rt v (upd H' a (.dK kvs)) } (σ'.set j (some (kV k))) H')
    (hx : ∀ od σ' H', Pv od kvs.length σ' H' → D.nx σ' (upd H' a (.dK kvs))) : tLock (tFor (iKeys td) (gName j) tu) D σ H := by
  refine ⟨a, .dK kvs, hd, trivial, fun od => he _ _ ⟨a, od, rfl, .inl ⟨kvs, upd_same, ?_⟩⟩⟩
  refine ⟨fun i m σ' H' => m = kvs.length - i ∧ i ≤ kvs.length ∧ Pv od i σ' H', ⟨kvs.length, by simp, Nat.zero_le _, h0 od⟩, ?_⟩
  rintro i m σ' H' ⟨rfl, hi, p⟩
  have q := hl od i σ' H' p
  by_cases hlt : i < kvs.length
  · refine .inr ⟨⟨q, hlt⟩, Pv od (i + 1), fun σ2 H2 p' => ⟨kvs.length - (i + 1), by omega, rfl, hlt, p'⟩, fun x H2 y => ?_⟩
    obtain ⟨rfl, k, v, hk, rfl⟩ := y
    exact hs od i k v σ' _ hk p
  · have e : i = kvs.length := by omega
    subst e
    exact .inl ⟨⟨q, Nat.le_refl _⟩, q, hx od σ' H' p⟩
theorem q_forDict {a : Addr} {kvs : List (Key × V)} {td : TE} {j : Nat} (hd : H a = some (.dK kvs)) (he : ∀ H1 (Q : VK), Q (.ref a) H1 → td σ H1 Q) (Pv : Obj → Nat → L2.St → Hp → Prop) (h0 : ∀ od, Pv od 0 σ (upd H a (.frz od (.dK kvs))))
    (hl : ∀ od i σ' H', Pv od i σ' H' → H' a = some (.frz od (.dK kvs)))
    (hs : ∀ od i k v σ' H', kvs[i]? = some (k, v) → Pv od i σ' H' → tu { nx := Pv od (i + 1), ct := Pv od (i + 1), bk := fun σ' H' => H' a = some (.frz od (.dK kvs)) ∧ tz D σ' (upd H' a (.dK kvs)), rt := fun v H' => H' a = some (.frz od (.dK kvs)) ∧ D.rt v (upd H' a (.dK kvs)) } (σ'.set j (some (kV k))) H')
    (hx : ∀ od σ' H', Pv od kvs.length σ' H' → tz D σ' (upd H' a (.dK kvs))) : tSeq (tLock (tFor (iKeys td) (gName j) tu)) tz D σ H :=
  s_forDict (D := { D with nx := tz D }) hd he Pv h0 hl hs hx
theorem he_var {i : Nat} {a : Addr} (h : σ[i]? = some (some (.ref a))) : ∀ H1 (Q : VK), Q (.ref a) H1 → tVar i σ H1 Q := fun _ _ q => ⟨_, h, q⟩
/-! ### comprehensions that make an object a turn -/
def Objs (H1 H2 : Hp) (P : Nat → HO → Prop) (ts : List Addr) : Prop := ts.Nodup ∧ ∀ k t, ts[k]? = some t → H1 t = none ∧ ∃ o, H2 t = some o ∧ P k o
theorem et_yes : EvT tYes σ H true := fun H1 _ Q q => q H1 (Ex.refl H1)
def Ow (H : Hp) (P : Nat → HO → Prop) (Dl : Addr) (i : Nat) (H' : Hp) : Prop := H Dl = none ∧ Ex H H' ∧ ∃ ts : List Addr, H' Dl = some (.lst (ts.map V.ref)) ∧ ts.length = i ∧ Dl ∉ ts ∧ Objs H H' P ts
theorem ow_turn {P : Nat → HO → Prop} {Dl : Addr} {i : Nat} {σ2 : L2.St} (p : Ow H P Dl i H') (hi : i < 50000) (he : EvR te σ2 H fun H1 y H2 => ∃ t o, y = .ref t ∧ H1 t = none ∧ H2 t = some o ∧ P i o) :
    tYes σ2 H' fun b H3 => if b = true then te σ2 H3 fun y H4 => ∃ acc, H4 Dl = some (.lst acc) ∧ acc.length < sizeLine ∧ Ow H P Dl (i + 1) (upd H4 Dl (.lst (acc ++ [y]))) else Ow H P Dl (i + 1) H3 := by
  obtain ⟨p1, p2, ts, p3, p4, p5, p6, p7⟩ := p
  show te σ2 H' fun y H4 => ∃ acc, H4 Dl = some (.lst acc) ∧ acc.length < sizeLine ∧ Ow H P Dl (i + 1) (upd H4 Dl (.lst (acc ++ [y])))
  refine he H' p2 _ fun y H4 e4 hy => ?_
  obtain ⟨t, o, rfl, ht, ho, hP⟩ := hy
  have nD : t ≠ Dl := fun z => by
    subst z
    rw [ht] at p3
    cases p3
  have nt : t ∉ ts := fun hm => by
    obtain ⟨k, hk⟩ := List.mem_iff_getElem?.mp hm
    obtain ⟨_, o', ho', _⟩ := p7 k t hk
    rw [ht] at ho'
    cases ho'
  refine ⟨_, e4 Dl _ p3, sz_lt (by rw [List.length_map]; omega), p1, Ex.mut (p2.trans e4) p1, ts ++ [t], ?_, ?_, ?_, ?_, ?_⟩
  · rw [upd_same, List.map_append]
    rfl
  · rw [List.length_append, List.length_singleton, p4]
  · intro hm
    rcases List.mem_append.mp hm with z | z
    · exact p5 z
    · exact nD (List.mem_singleton.mp z).symm
  · exact L2.nd_snoc p6 nt
  · intro k u hk
    by_cases hk2 : k < ts.length
    · rw [List.getElem?_append_left hk2] at hk
      obtain ⟨f1, o', f2, f3⟩ := p7 k u hk
      have hu : u ≠ Dl := fun z => by
        subst z
        exact p5 (List.mem_of_getElem? hk)
      exact ⟨f1, o', by rw [upd_ne hu]; exact e4 u _ f2, f3⟩
    · rw [List.getElem?_append_right (by omega)] at hk
      have hk0 : k - ts.length = 0 := by
        have := (List.getElem?_eq_some_iff.mp hk).1
        rw [List.length_singleton] at this
        omega
      rw [hk0] at hk
      have hu : t = u := Option.some.inj hk
      subst hu
      have hki : k = i := by omega
      subst hki
      exact ⟨fresh_back p2 ht, o, by rw [upd_ne nD]; exact ho, hP⟩
def LstObj (P : Nat → HO → Prop) (n : Nat) (H1 : Hp) (x : V) (H2 : Hp) : Prop := ∃ p ts, x = .ref p ∧ H1 p = none ∧ H2 p = some (.lst (ts.map V.ref)) ∧ ts.length = n ∧ p ∉ ts ∧ Objs H1 H2 P ts
theorem Ow.out {P : Nat → HO → Prop} {Dl : Addr} {i : Nat} {H1 : Hp} (p : Ow H1 P Dl i H') (e : Ex H H1) : LstObj P i H (.ref Dl) H' := by
  obtain ⟨p1, p2, ts, p3, p4, p5, p6, p7⟩ := p
  exact ⟨Dl, ts, rfl, fresh_back e p1, p3, p4, p5, p6, fun k t hk => by
    obtain ⟨f1, f2⟩ := p7 k t hk
    exact ⟨fresh_back e f1, f2⟩⟩
theorem lc_objR {ta : TA} {j : Nat} {vs : List Nat} {n : Int} (P : Nat → HO → Prop) (h : EvA ta σ H [.int n]) (hn : 0 ≤ n ∧ n ≤ 40000) (hw : ∀ x, wipe ((wipe σ vs).set j (some x)) vs = wipe σ vs)
    (he : ∀ (i : Nat) H1, Ex H H1 → (i : Int) < n → EvR te ((wipe σ vs).set j (some (.int (i : Int)))) H1 fun H1 y H2 => ∃ t o, y = .ref t ∧ H1 t = none ∧ H2 t = some o ∧ P i o) :
    EvR (tLc (iRng1 ta) (gName j) tYes te vs) σ H (LstObj P n.toNat) := fun H0 e Q q => h H0 e _ fun H1 e1 => ⟨n, rfl, by omega, by omega, fun Dl hD =>
  lc_range (lo := 0) (n := n.toNat) (Ow H1 P Dl) ⟨hD, Ex.new hD, [], upd_same, rfl, by simp, List.nodup_nil, fun k t hk => by simp at hk⟩ (fun i H' hi p => by
    have e0 : (0 : Int) + (i : Int) = (i : Int) := Int.zero_add _
    show wipe ((wipe σ vs).set j (some (.int ((0 : Int) + (i : Int))))) vs = wipe σ vs ∧ tYes ((wipe σ vs).set j (some (.int ((0 : Int) + (i : Int))))) H' fun b H3 => if b = true then te ((wipe σ vs).set j (some (.int ((0 : Int) + (i : Int))))) H3 fun y H4 => ∃ acc, H4 Dl = some (.lst acc) ∧ acc.length < sizeLine ∧ Ow H1 P Dl (i + 1) (upd H4 Dl (.lst (acc ++ [y]))) else Ow H1 P Dl (i + 1) H3
    rw [e0]
    exact ⟨hw _, ow_turn p (by omega) (he i H1 (e.trans e1) (by omega))⟩) (fun H' p => q _ H' (e1.trans p.2.1) (p.out e1))⟩
theorem lc_objL {a : Addr} {xs : List V} {tl : TE} {j : Nat} {vs : List Nat} (P : Nat → HO → Prop) (h : Ev tl σ H (.ref a)) (hx : SqL K H a xs) (hz : xs.length ≤ 40000) (hw : ∀ x, wipe ((wipe σ vs).set j (some x)) vs = wipe σ vs)
    (he : ∀ (i : Nat) (x : V) H1, Ex H H1 → xs[i]? = some x → EvR te ((wipe σ vs).set j (some x)) H1 fun H1 y H2 => ∃ t o, y = .ref t ∧ H1 t = none ∧ H2 t = some o ∧ P i o) :
    EvR (tLc (iList K tl) (gName j) tYes te vs) σ H (LstObj P xs.length) := fun H0 e Q q => h H0 e _ fun H1 e1 => ⟨a, rfl, ⟨xs, ex_l (e.trans e1) hx⟩, fun Dl hD =>
  lc_list (xs := xs) (Ow H1 P Dl) ⟨hD, Ex.new hD, [], upd_same, rfl, by simp, List.nodup_nil, fun k t hk => by simp at hk⟩ (fun i H' _ p => ex_l ((e.trans e1).trans p.2.1) hx)
    (fun i x H' hi p => ⟨hw x, ow_turn p (by have := (List.getElem?_eq_some_iff.mp hi).1; omega) (he i x H1 (e.trans e1) hi)⟩) (fun H' p => q _ H' (e1.trans p.2.1) (p.out e1))⟩
end
end U

/-! Data: rows, lists of numbers, dicts by numbers -/
namespace U
open PySem PySem.Spec PyProof.Rows L2 Evl

/-- the built-in names that the module leaves alone -/
structure Txt (mg : Str → Option Value) : Prop where
  n_len : mg "len" = none
  n_isinstance : mg "isinstance" = none
  n_int : mg "int" = none
  n_bool : mg "bool" = none
  n_str : mg "str" = none
  n_tuple : mg "tuple" = none
  n_list : mg "list" = none
  n_range : mg "range" = none
  n_sorted : mg "sorted" = none
  n_max : mg "max" = none
  n_min : mg "min" = none
  n_any : mg "any" = none
  n_all : mg "all" = none
  n_enumerate : mg "enumerate" = none

/-! ### rows -/
inductive URow where
  | add (b : Nat) (n : Int) (x : Nat)
  | more (b y x : Nat)
  deriving DecidableEq
def URow.vs : URow → List V
  | .add b n x => [.str ("add" : Str), .int b, .int n, .int x]
  | .more b y x => [.str ("more" : Str), .int b, .int y, .int x]
def URow.nx : URow → List Nat
  | .add _ _ x => [x]
  | .more _ y x => [y, x]
def URow.ok (m : Nat) : URow → Prop
  | .add b _ x => b < 4 ∧ x ≤ m
  | .more b y x => b < 4 ∧ y ≤ m ∧ x ≤ m
def RowsOk (rs : List URow) : Prop := 1 ≤ rs.length ∧ rs.length ≤ 20 ∧ ∀ r ∈ rs, r.ok rs.length
def RowAt (K : PySem.W.Frag) (H : Hp) (v : V) (r : URow) : Prop := ∃ t, v = .ref t ∧ SqT K H t r.vs
def RowsAt (K : PySem.W.Frag) (H : Hp) (a : Addr) (rs : List URow) : Prop := ∃ vs : List V, SqL K H a vs ∧ vs.length = rs.length ∧ ∀ (k : Nat) v r, vs[k]? = some v → rs[k]? = some r → RowAt K H v r
section
variable {K : PySem.W.Frag} {H H' : Hp} {a : Addr} {rs : List URow} {v : V} {r : URow}
theorem RowAt.mono (e : Ex H H') (h : RowAt K H v r) : RowAt K H' v r := by
  obtain ⟨t, h1, h2⟩ := h
  exact ⟨t, h1, ex_t e h2⟩
theorem RowsAt.mono (e : Ex H H') (h : RowsAt K H a rs) : RowsAt K H' a rs := by
  obtain ⟨vs, h1, h2, h3⟩ := h
  exact ⟨vs, ex_l e h1, h2, fun k v r hv hr => (h3 k v r hv hr).mono e⟩
theorem RowsAt.get (h : RowsAt K H a rs) {k : Nat} (hk : k < rs.length) : ∃ vs v, SqL K H a vs ∧ vs.length = rs.length ∧ vs[k]? = some v ∧ RowAt K H v rs[k] := by
  obtain ⟨vs, h1, h2, h3⟩ := h
  have hv : k < vs.length := by omega
  exact ⟨vs, vs[k], h1, h2, List.getElem?_eq_getElem hv, h3 k _ _ (List.getElem?_eq_getElem hv) (List.getElem?_eq_getElem hk)⟩
theorem RowsAt.sq (h : RowsAt K H a rs) : ∃ vs, SqL K H a vs ∧ vs.length = rs.length := by
  obtain ⟨vs, h1, h2, _⟩ := h
  exact ⟨vs, h1, h2⟩
/-- rows just made -/
def RowsP (rs : List URow) : Nat → HO → Prop := fun k o => ∃ r, rs[k]? = some r ∧ o = .tup r.vs
theorem LstObj.rows {x : V} {H1 H2 : Hp} (h : LstObj (RowsP rs) rs.length H1 x H2) : ∃ p, x = .ref p ∧ H1 p = none ∧ RowsAt K H2 p rs ∧ ∃ vs, H2 p = some (.lst vs) := by
  obtain ⟨p, ts, h1, h2, h3, h4, h5, h6, h7⟩ := h
  refine ⟨p, h1, h2, ⟨_, SqL.of h3, by rw [List.length_map, h4], fun k v r hv hr => ?_⟩, _, h3⟩
  rw [List.getElem?_map] at hv
  cases ht : ts[k]? with
  | none =>
    rw [ht] at hv
    cases hv
  | some t =>
    rw [ht] at hv
    cases hv
    obtain ⟨_, o, ho, r', hr', eo⟩ := h7 k t ht
    rw [hr] at hr'
    cases hr'
    subst eo
    exact ⟨t, rfl, SqT.of ho⟩
/-- the same rows in a new list -/
theorem RowsAt.copy {b : Addr} {vs : List V} (h : RowsAt K H a rs) (hs : SqL K H a vs) (inj : ∀ xs, SqL K H a xs → xs = vs) (e : Ex H H') (hb : H' b = some (.lst vs)) : RowsAt K H' b rs := by
  obtain ⟨ws, h1, h2, h3⟩ := h
  obtain rfl := inj ws h1
  exact ⟨ws, SqL.of hb, h2, fun k v r hv hr => (h3 k v r hv hr).mono e⟩
/-! ### a list at its place is one list -/
theorem sq_tracked {xs ys : List V} (h : H a = some (.lst xs)) (g : SqL K H a ys) (hK : K.lookup a = none) : ys = xs := by
  rcases g with (g | ⟨o, g⟩) | g
  · rw [h] at g
    cases g
    rfl
  · rw [h] at g
    cases g
  · obtain ⟨_, _, _, g1, _⟩ := g
    rw [hK] at g1
    cases g1
end

/-! ### numbers -/
abbrev nv (ns : List Nat) : List V := ns.map fun (n : Nat) => V.int ((n : Nat) : Int)
theorem nv_len (ns : List Nat) : (nv ns).length = ns.length := List.length_map _
theorem nv_get {ns : List Nat} {k : Nat} {n : Nat} (h : ns[k]? = some n) : (nv ns)[k]? = some (.int (n : Int)) := by
  rw [List.getElem?_map, h]
  rfl
theorem nv_flat (ns : List Nat) : (nv ns).all flatV = true := by
  rw [List.all_eq_true]
  intro v hv
  obtain ⟨n, _, rfl⟩ := List.mem_map.mp hv
  rfl
theorem inV_nv (n : Nat) (ns : List Nat) : inV (.int (n : Int)) (nv ns) = decide (n ∈ ns) := by
  induction ns with
  | nil => simp [inV]
  | cons m r ih =>
    have e : inV (.int (n : Int)) (nv (m :: r)) = (eqV (.int (m : Int)) (.int (n : Int)) || inV (.int (n : Int)) (nv r)) := by
      simp only [inV, List.map_cons, List.any_cons]
    rw [e, ih]
    have e2 : eqV (.int (m : Int)) (.int (n : Int)) = decide (n = m) := by
      show ((m : Int) == (n : Int)) = decide (n = m)
      rw [Bool.eq_iff_iff, beq_iff_eq, decide_eq_true_iff]
      omega
    rw [e2, Bool.eq_iff_iff, Bool.or_eq_true, decide_eq_true_iff, decide_eq_true_iff, decide_eq_true_iff, List.mem_cons]
theorem nv_app (ns : List Nat) (n : Nat) : nv (ns ++ [n]) = nv ns ++ [.int (n : Int)] := by
  show List.map _ (ns ++ [n]) = _
  rw [List.map_append]
  rfl

theorem given_filter (l : List Nat) (p : Nat → Bool) : given l.length (fun i => p (l.getD i 0)) (fun i => .int ((l.getD i 0 : Nat) : Int)) = nv (l.filter p) := by
  have e : l = (List.range l.length).map (fun i => l.getD i 0) := by
    refine List.ext_getElem? fun i => ?_
    rw [List.getElem?_map]
    by_cases h : i < l.length
    · rw [List.getElem?_range h, List.getElem?_eq_getElem h, Option.map_some, List.getD_eq_getElem?_getD, List.getElem?_eq_getElem h]
      rfl
    · rw [List.getElem?_eq_none (by omega), List.getElem?_eq_none (by rw [List.length_range]; omega)]
      rfl
  have h2 : nv (l.filter p) = nv (((List.range l.length).map (fun i => l.getD i 0)).filter p) := by rw [← e]
  rw [h2, List.filter_map]
  unfold given nv
  rw [List.map_map]
  rfl
theorem getD_get {l : List Nat} {i : Nat} (h : i < l.length) : l.getD i 0 = l[i] := by
  rw [List.getD_eq_getElem?_getD, List.getElem?_eq_getElem h]
  rfl
theorem getD_get' {l : List Nat} {i : Nat} (h : i < l.length) : Option.map (fun (n : Nat) => V.int ((n : Nat) : Int)) l[i]? = Option.map (fun (i : Nat) => V.int ((l.getD i 0 : Nat) : Int)) (some i) := by
  rw [List.getElem?_eq_getElem h, Option.map_some, Option.map_some, getD_get h]
/-! ### dicts by numbers -/
section
variable {α : Type}
def look : List (Nat × α) → Nat → Option α
  | [], _ => none
  | p :: r, k => if p.1 = k then some p.2 else look r k
def put (m : List (Nat × α)) (k : Nat) (x : α) : List (Nat × α) := if (look m k).isSome then m.map (fun p => if p.1 = k then (p.1, x) else p) else m ++ [(k, x)]
theorem look_snoc {m : List (Nat × α)} {k : Nat} {x : α} (h : look m k = none) (j : Nat) : look (m ++ [(k, x)]) j = if j = k then some x else look m j := by
  induction m with
  | nil =>
    show (if k = j then some x else none) = _
    by_cases e : j = k
    · rw [if_pos e, if_pos e.symm]
    · rw [if_neg e, if_neg (fun z => e z.symm)]
      rfl
  | cons p r ih =>
    have h1 : ¬ p.1 = k := fun z => by
      unfold look at h
      rw [if_pos z] at h
      cases h
    have h2 : look r k = none := by
      unfold look at h
      rw [if_neg h1] at h
      exact h
    show (if p.1 = j then some p.2 else look (r ++ [(k, x)]) j) = if j = k then some x else (if p.1 = j then some p.2 else look r j)
    rw [ih h2]
    by_cases e : p.1 = j
    · rw [if_pos e, if_pos e, if_neg (fun z => h1 (e.trans z))]
    · rw [if_neg e, if_neg e]
theorem look_map {m : List (Nat × α)} {k : Nat} {x : α} (j : Nat) : look (m.map fun p => if p.1 = k then (p.1, x) else p) j = (look m j).map fun y => if j = k then x else y := by
  induction m with
  | nil => rfl
  | cons p r ih =>
    rw [List.map_cons]
    by_cases h : p.1 = k
    · rw [if_pos h]
      show (if p.1 = j then some x else _) = ((if p.1 = j then some p.2 else look r j) : Option α).map _
      by_cases e : p.1 = j
      · rw [if_pos e, if_pos e, Option.map_some, if_pos (e.symm.trans h)]
      · rw [if_neg e, if_neg e, ih]
    · rw [if_neg h]
      show (if p.1 = j then some p.2 else _) = ((if p.1 = j then some p.2 else look r j) : Option α).map _
      by_cases e : p.1 = j
      · rw [if_pos e, if_pos e, Option.map_some, if_neg (fun z => h (e.trans z))]
      · rw [if_neg e, if_neg e, ih]
theorem look_put (m : List (Nat × α)) (k j : Nat) (x : α) : look (put m k x) j = if j = k then some x else look m j := by
  unfold put
  by_cases h : (look m k).isSome = true
  · rw [if_pos h, look_map]
    by_cases e : j = k
    · subst e
      obtain ⟨y, hy⟩ := Option.isSome_iff_exists.mp h
      rw [hy, if_pos rfl, Option.map_some, if_pos rfl]
    · rw [if_neg e]
      cases look m j with
      | none => rfl
      | some y =>
        rw [Option.map_some, if_neg e]
  · rw [if_neg h]
    exact look_snoc (by
      cases q : look m k with
      | none => rfl
      | some y =>
        rw [q] at h
        exact absurd rfl h) j
theorem put_new {m : List (Nat × α)} {k : Nat} {x : α} (h : look m k = none) : put m k x = m ++ [(k, x)] := by
  unfold put
  rw [h, if_neg (by simp)]
theorem look_none_iff {m : List (Nat × α)} {k : Nat} : look m k = none ↔ k ∉ m.map (·.1) := by
  induction m with
  | nil => exact ⟨fun _ h => (by cases h), fun _ => rfl⟩
  | cons p r ih =>
    show (if p.1 = k then some p.2 else look r k) = none ↔ _
    rw [List.map_cons, List.mem_cons]
    by_cases e : p.1 = k
    · rw [if_pos e]
      exact ⟨fun h => (by cases h), fun h => absurd (Or.inl e.symm) h⟩
    · rw [if_neg e, ih]
      exact ⟨fun h z => h (z.resolve_left fun q => e q.symm), fun h z => h (Or.inr z)⟩
theorem look_some_mem {m : List (Nat × α)} {k : Nat} {x : α} (h : look m k = some x) : (k, x) ∈ m := by
  induction m with
  | nil => cases h
  | cons p r ih =>
    have h : (if p.1 = k then some p.2 else look r k) = some x := h
    by_cases e : p.1 = k
    · rw [if_pos e] at h
      cases h
      subst e
      exact List.mem_cons_self
    · rw [if_neg e] at h
      exact List.mem_cons_of_mem _ (ih h)
theorem look_of_mem {m : List (Nat × α)} {k : Nat} {x : α} (hn : (m.map (·.1)).Nodup) (h : (k, x) ∈ m) : look m k = some x := by
  induction m with
  | nil => cases h
  | cons p r ih =>
    rw [List.map_cons] at hn
    obtain ⟨h1, h2⟩ := List.nodup_cons.mp hn
    show (if p.1 = k then some p.2 else look r k) = some x
    rcases List.mem_cons.mp h with e | e
    · rw [← e, if_pos rfl]
    · rw [if_neg (fun z => h1 (by rw [z]; exact List.mem_map.mpr ⟨_, e, rfl⟩))]
      exact ih h2 e
theorem look_isSome {m : List (Nat × α)} {k : Nat} : (look m k).isSome = decide (k ∈ m.map (·.1)) := by
  cases h : look m k with
  | none =>
    rw [decide_eq_false (look_none_iff.mp h)]
    rfl
  | some y =>
    rw [decide_eq_true (List.mem_map.mpr ⟨_, look_some_mem h, rfl⟩)]
    rfl
theorem put_keys_nodup {m : List (Nat × α)} {k : Nat} {x : α} (h : (m.map (·.1)).Nodup) : ((put m k x).map (·.1)).Nodup := by
  unfold put
  by_cases e : (look m k).isSome = true
  · rw [if_pos e, List.map_map]
    have : ((fun p : Nat × α => p.1) ∘ fun p => if p.1 = k then (p.1, x) else p) = fun p => p.1 := by
      funext p
      show (if p.1 = k then (p.1, x) else p).1 = p.1
      by_cases q : p.1 = k
      · rw [if_pos q]
      · rw [if_neg q]
    rw [this]
    exact h
  · rw [if_neg e, List.map_append]
    refine L2.nd_snoc h fun hm => e ?_
    rw [look_isSome]
    exact decide_eq_true hm
/-- as pairs of the layer -/
def dk (f : α → V) (m : List (Nat × α)) : List (Key × V) := m.map fun p => (Sum.inl (p.1 : Int), f p.2)
theorem dk_len (f : α → V) (m : List (Nat × α)) : (dk f m).length = m.length := List.length_map _
theorem dk_key {a b : Nat} : ((Sum.inl (a : Int) : Key) = Sum.inl (b : Int)) ↔ a = b := by
  constructor
  · intro h
    have := Sum.inl.inj h
    omega
  · intro h
    rw [h]
theorem valV_dk (f : α → V) (m : List (Nat × α)) (k : Nat) : valV (dk f m) (Sum.inl (k : Int)) = (look m k).map f := by
  induction m with
  | nil => rfl
  | cons p r ih =>
    show valV ((Sum.inl (p.1 : Int), f p.2) :: dk f r) _ = ((if p.1 = k then some p.2 else look r k) : Option α).map f
    by_cases e : p.1 = k
    · rw [if_pos e, valV_pos (p := (Sum.inl (p.1 : Int), f p.2)) (dk_key.mpr e), Option.map_some]
    · rw [if_neg e, valV_neg (p := (Sum.inl (p.1 : Int), f p.2)) (fun z => e (dk_key.mp z)), ih]
theorem putK_dk (f : α → V) (m : List (Nat × α)) (k : Nat) (x : α) : putK (dk f m) (Sum.inl (k : Int)) (f x) = dk f (put m k x) := by
  unfold putK put
  rw [valV_any, valV_dk, Option.isSome_map]
  by_cases h : (look m k).isSome = true
  · rw [if_pos h, if_pos h]
    unfold dk
    rw [List.map_map, List.map_map]
    refine List.map_congr_left fun p _ => ?_
    show (if (Sum.inl (p.1 : Int) : Key) = Sum.inl (k : Int) then ((Sum.inl (p.1 : Int) : Key), f x) else (Sum.inl (p.1 : Int), f p.2)) = (Sum.inl ((if p.1 = k then (p.1, x) else p).1 : Int), f (if p.1 = k then (p.1, x) else p).2)
    by_cases e : p.1 = k
    · rw [if_pos e, if_pos (dk_key.mpr e)]
    · rw [if_neg e, if_neg (fun z => e (dk_key.mp z))]
  · rw [if_neg h, if_neg h]
    unfold dk
    rw [List.map_append]
    rfl
theorem dk_keys (f : α → V) (m : List (Nat × α)) : ((dk f m).map fun kv => kV kv.1) = nv (m.map (·.1)) := by
  unfold dk nv
  rw [List.map_map, List.map_map]
  rfl
end
end U

/-! What the law's own helpers and the defs of rows.py tell: plain functions and promises -/
namespace U
open PySem PySem.Spec PyProof.Rows L2 Evl

/-! ### cells -/
def cellAt (ns : List Int) (k : Nat) : Int := ns.getD k 0
abbrev LB : Nat := 1048576
def Bits (ns : List Int) : Prop := ∀ z ∈ ns, Builtin.Int.intBits z ≤ LB
theorem bits_mono {a b : Int} (h : a.natAbs ≤ b.natAbs) : Builtin.Int.intBits a ≤ Builtin.Int.intBits b := by
  unfold Builtin.Int.intBits
  by_cases ha : a = 0
  · subst ha
    exact Nat.zero_le _
  · have hb : b ≠ 0 := by omega
    rw [if_neg (by simpa using ha), if_neg (by simpa using hb)]
    have h1 : a.natAbs.log2 ≤ b.natAbs.log2 := by
      rw [Nat.le_log2 (by omega)]
      exact Nat.le_trans (Nat.log2_self_le (by omega)) h
    omega
theorem bits_div {a : Int} {d : Int} (h : 0 < d) : Builtin.Int.intBits (a / d) ≤ Builtin.Int.intBits a := by
  refine bits_mono ?_
  by_cases h1 : 0 ≤ a
  · have h2 : 0 ≤ a / d := Int.ediv_nonneg h1 (by omega)
    have h3 : a / d ≤ a := Int.ediv_le_self d h1
    omega
  · have h2 : a / d < 0 := Int.ediv_neg_of_neg_of_pos (by omega) h
    have h3 : a ≤ a / d := by
      have q := Int.le_ediv_iff_mul_le (a := a) (b := a) h
      rw [q]
      have : a * d ≤ a * 1 := Int.mul_le_mul_of_nonpos_left (by omega) (by omega)
      omega
    omega
theorem bits_cell {ns : List Int} (h : Bits ns) (k : Nat) : Builtin.Int.intBits (cellAt ns k) ≤ LB := by
  unfold cellAt
  rw [List.getD_eq_getElem?_getD]
  cases e : ns[k]? with
  | none => exact Nat.zero_le _
  | some z => exact h z (List.mem_of_getElem? e)
def spCellU (K : PySem.W.Frag) : Sp := FSp (G := Addr × List Int × Nat) (fun g vs H => vs = [.ref g.1, .int (g.2.2 : Int)] ∧ SqL K H g.1 (g.2.1.map V.int)) (fun g _ v _ => v = .int (cellAt g.2.1 g.2.2))

/-! ### numbers -/
def numBy (c : Int) : Int := if c % 9 = 4 then c * (10 ^ 59 + 7) % 10 ^ 60 * (1 - 2 * (c / 9 % 2)) else c / 9 % 9 - 4
def spNum : Sp := FSp (G := Int) (fun c vs _ => vs = [.int c] ∧ Builtin.Int.intBits c ≤ LB) (fun c _ v _ => v = .int (numBy c))
def nearN (k : Nat) (m : Int) (many : Nat) : Nat := if m % 5 = 0 then ((k : Int) - m / 5 % 4).toNat else (min (many : Int) ((k : Int) + 1 + m / 5 % 3)).toNat
def spNear : Sp := FSp (G := Nat × Int × Nat) (fun g vs _ => vs = [.int (g.1 : Int), .int g.2.1, .int (g.2.2 : Int)]) (fun g _ v _ => v = .int (nearN g.1 g.2.1 g.2.2 : Nat))
theorem nearN_le {k : Nat} {m : Int} {many : Nat} (h : k < many) : nearN k m many ≤ many := by
  unfold nearN
  have h1 : 0 ≤ m / 5 % 4 := Int.emod_nonneg _ (by decide)
  split <;> omega

/-! ### rows -/
def mixBy (c : Int) (k : Nat) : Int := (c * 48271 + 7919 * (k : Int)) % 1000003
theorem mix_nonneg (c : Int) (k : Nat) : 0 ≤ mixBy c k := Int.emod_nonneg _ (by decide)
def rowBy (c : Int) (k many : Nat) : URow :=
  let m := mixBy c k
  let y := if many > 6 then nearN k (m / 12) many else (m / 12 % ((many : Int) + 1)).toNat
  let x := if many > 6 then nearN k (m / 240) many else (m / 12 / ((many : Int) + 1) % ((many : Int) + 1)).toNat
  if m % 3 = 0 then .add (m / 3 % 4).toNat (numBy (c / 3)) y else .more (m / 3 % 4).toNat y x
def TupNew (xs : List V) (H1 : Hp) (v : V) (H2 : Hp) : Prop := ∃ t, v = .ref t ∧ H1 t = none ∧ H2 t = some (.tup xs)
theorem TupNew.back {xs : List V} (H1 H2 H3 : Hp) (v : V) (e : Ex H1 H2) (h : TupNew xs H2 v H3) : TupNew xs H1 v H3 := by
  obtain ⟨t, h1, h2, h3⟩ := h
  exact ⟨t, h1, fresh_back e h2, h3⟩
def spRow : Sp := FSp (G := Int × Nat × Nat) (fun g vs _ => vs = [.int g.1, .int (g.2.1 : Int), .int (g.2.2 : Int)] ∧ Builtin.Int.intBits g.1 ≤ LB ∧ g.2.1 < g.2.2 ∧ g.2.2 ≤ 20) (fun g H1 v H2 => TupNew (rowBy g.1 g.2.1 g.2.2).vs H1 v H2)
theorem rowBy_ok {c : Int} {k many : Nat} (h : k < many) : (rowBy c k many).ok many := by
  have b1 : (mixBy c k / 3 % 4).toNat < 4 := by
    have h1 : mixBy c k / 3 % 4 < 4 := Int.emod_lt_of_pos _ (by decide)
    omega
  have hy : (if many > 6 then nearN k (mixBy c k / 12) many else (mixBy c k / 12 % ((many : Int) + 1)).toNat) ≤ many := by
    split
    · exact nearN_le h
    · have h1 : mixBy c k / 12 % ((many : Int) + 1) < (many : Int) + 1 := Int.emod_lt_of_pos _ (by omega)
      omega
  have hx : (if many > 6 then nearN k (mixBy c k / 240) many else (mixBy c k / 12 / ((many : Int) + 1) % ((many : Int) + 1)).toNat) ≤ many := by
    split
    · exact nearN_le h
    · have h1 : mixBy c k / 12 / ((many : Int) + 1) % ((many : Int) + 1) < (many : Int) + 1 := Int.emod_lt_of_pos _ (by omega)
      omega
  unfold rowBy
  by_cases h0 : mixBy c k % 3 = 0
  · simp only [if_pos h0]
    exact ⟨b1, hy⟩
  · simp only [if_neg h0]
    exact ⟨b1, hy, hx⟩
def manyBy (ns : List Int) : Nat := if cellAt ns 1 % 4 = 1 then (7 + cellAt ns 0 % 14).toNat else (1 + cellAt ns 0 % 6).toNat
theorem manyBy_le (ns : List Int) : 1 ≤ manyBy ns ∧ manyBy ns ≤ 20 := by
  unfold manyBy
  have h1 : 0 ≤ cellAt ns 0 % 14 := Int.emod_nonneg _ (by decide)
  have h2 : cellAt ns 0 % 14 < 14 := Int.emod_lt_of_pos _ (by decide)
  have h3 : 0 ≤ cellAt ns 0 % 6 := Int.emod_nonneg _ (by decide)
  have h4 : cellAt ns 0 % 6 < 6 := Int.emod_lt_of_pos _ (by decide)
  split <;> omega
def rowsBy (ns : List Int) : List URow := (List.range (manyBy ns)).map fun k => rowBy (cellAt ns (8 + k)) k (manyBy ns)
theorem rowsBy_len (ns : List Int) : (rowsBy ns).length = manyBy ns := by
  unfold rowsBy
  rw [List.length_map, List.length_range]
theorem rowsBy_ok (ns : List Int) : RowsOk (rowsBy ns) := by
  have h := manyBy_le ns
  refine ⟨by rw [rowsBy_len]; exact h.1, by rw [rowsBy_len]; exact h.2, fun r hr => ?_⟩
  rw [rowsBy_len]
  obtain ⟨k, hk, rfl⟩ := List.mem_map.mp hr
  exact rowBy_ok (List.mem_range.mp hk)
def spScr (K : PySem.W.Frag) (R : List Int → Hp → V → Hp → Prop) : Sp := FSp (G := Addr × List Int) (fun g vs H => vs = [.ref g.1] ∧ SqL K H g.1 (g.2.map V.int) ∧ Bits g.2) (fun g H1 v H2 => R g.2 H1 v H2)
def spRows (K : PySem.W.Frag) : Sp := spScr K fun ns H1 v H2 => LstObj (RowsP (rowsBy ns)) (rowsBy ns).length H1 v H2
def LstNew (xs : List V) (H1 : Hp) (v : V) (H2 : Hp) : Prop := ∃ t, v = .ref t ∧ H1 t = none ∧ H2 t = some (.lst xs)
theorem LstNew.back {xs : List V} (H1 H2 H3 : Hp) (v : V) (e : Ex H1 H2) (h : LstNew xs H2 v H3) : LstNew xs H1 v H3 := by
  obtain ⟨t, h1, h2, h3⟩ := h
  exact ⟨t, h1, fresh_back e h2, h3⟩
theorem LstObj.back {P : Nat → HO → Prop} {n : Nat} (H1 H2 H3 : Hp) (v : V) (e : Ex H1 H2) (h : LstObj P n H2 v H3) : LstObj P n H1 v H3 := by
  obtain ⟨p, ts, h1, h2, h3, h4, h5, h6, h7⟩ := h
  exact ⟨p, ts, h1, fresh_back e h2, h3, h4, h5, h6, fun k t hk => ⟨fresh_back e (h7 k t hk).1, (h7 k t hk).2⟩⟩
def boxesBy (ns : List Int) : List Int := (List.range 4).map fun k => numBy (cellAt ns (3 + k))
def spBoxes (K : PySem.W.Frag) : Sp := spScr K fun ns H1 v H2 => LstNew ((boxesBy ns).map V.int) H1 v H2

/-! ### comparisons -/
def spInts (K : PySem.W.Frag) : Sp := FSp (G := Addr × Addr × List Int × List Int) (fun g vs H => vs = [.ref g.1, .ref g.2.1] ∧ H g.1 = some (.lst (g.2.2.1.map V.int)) ∧ SqL K H g.2.1 (g.2.2.2.map V.int) ∧ g.2.2.2.length ≤ 40000) (fun g _ v _ => v = .bl (decide (g.2.2.1 = g.2.2.2)))

/-! ### rows.py -/
def spWhole : Sp := FSp (G := Int) (fun i vs _ => vs = [.int i]) (fun _ _ v _ => v = .bl true)
def spGood (K : PySem.W.Frag) : Sp := FSp (G := Addr × URow × Nat) (fun g vs H => vs = [.ref g.1, .int (g.2.2 : Int)] ∧ SqT K H g.1 g.2.1.vs ∧ g.2.1.ok g.2.2) (fun _ _ v _ => v = .bl true)
def spNeed (K : PySem.W.Frag) : Sp := FSp (G := Addr × List URow) (fun g vs H => vs = [.ref g.1] ∧ RowsAt K H g.1 g.2 ∧ RowsOk g.2) (fun _ _ v _ => v = .non)
def spNexts (K : PySem.W.Frag) : Sp := FSp (G := Addr × URow) (fun g vs H => vs = [.ref g.1] ∧ SqT K H g.1 g.2.vs) (fun g H1 v H2 => LstNew (nv g.2.nx) H1 v H2)
/-- what a row does with the boxes, and what comes behind it -/
def behindF (r : URow) (bx : List Int) : List Int × Nat := match r with
  | .add b n x => (bx.set b (bx.getD b 0 + n), x)
  | .more b y x => (bx, if bx.getD b 0 > 0 then y else x)
/-- behind changes the list that it is handed -/
def spBehind (K : PySem.W.Frag) : Sp := fun vs H Q _ => ∃ (t l : Addr) (r : URow) (m : Nat) (bx : List Int), vs = [.ref t, .ref l] ∧ SqT K H t r.vs ∧ r.ok m ∧ H l = some (.lst (bx.map V.int)) ∧ bx.length = 4 ∧
  ∀ H', (∀ a o, a ≠ l → H a = some o → H' a = some o) → H' l = some (.lst ((behindF r bx).1.map V.int)) → Q (.int ((behindF r bx).2 : Int)) H'
/-- the rows gone along: so many steps at most; the boxes, the place, the trail -/
def goRows (rs : List URow) : Nat → List Int → Nat → List Int × Nat × List Nat
  | 0, bx, p => (bx, p, [])
  | n + 1, bx, p => match rs[p]? with
    | none => (bx, p, [])
    | some r => let q := goRows rs n (behindF r bx).1 (behindF r bx).2; (q.1, q.2.1, p :: q.2.2)
theorem goRows_some {rs : List URow} {p : Nat} {r : URow} (h : rs[p]? = some r) (n : Nat) (bx : List Int) :
    goRows rs (n + 1) bx p = ((goRows rs n (behindF r bx).1 (behindF r bx).2).1, (goRows rs n (behindF r bx).1 (behindF r bx).2).2.1, p :: (goRows rs n (behindF r bx).1 (behindF r bx).2).2.2) := by
  rw [goRows.eq_2, h]
theorem goRows_none {rs : List URow} {p : Nat} (h : rs[p]? = none) (n : Nat) (bx : List Int) : goRows rs n bx p = (bx, p, []) := by
  cases n with
  | zero => rfl
  | succ n => rw [goRows.eq_2, h]
theorem behindF_len (r : URow) (bx : List Int) : (behindF r bx).1.length = bx.length := by
  cases r <;> simp [behindF]
theorem behindF_le {r : URow} {m : Nat} (h : r.ok m) (bx : List Int) : (behindF r bx).2 ≤ m := by
  cases r with
  | add b n x => exact h.2
  | more b y x =>
    show (if bx.getD b 0 > 0 then y else x) ≤ m
    split
    · exact h.2.1
    · exact h.2.2
theorem goRows_len (rs : List URow) : ∀ (n : Nat) (bx : List Int) (p : Nat), (goRows rs n bx p).1.length = bx.length
  | 0, _, _ => rfl
  | n + 1, bx, p => by
    unfold goRows
    cases rs[p]? with
    | none => rfl
    | some r =>
      show (goRows rs n _ _).1.length = _
      rw [goRows_len rs n, behindF_len]
theorem goRows_trail (rs : List URow) : ∀ (n : Nat) (bx : List Int) (p : Nat), (goRows rs n bx p).2.2.length ≤ n
  | 0, _, _ => Nat.le_refl 0
  | n + 1, bx, p => by
    unfold goRows
    cases rs[p]? with
    | none => exact Nat.zero_le _
    | some r =>
      show (p :: (goRows rs n _ _).2.2).length ≤ _
      have := goRows_trail rs n (behindF r bx).1 (behindF r bx).2
      rw [List.length_cons]
      omega
theorem goRows_le {rs : List URow} (hr : RowsOk rs) : ∀ (n : Nat) (bx : List Int) (p : Nat), p ≤ rs.length → (goRows rs n bx p).2.1 ≤ rs.length
  | 0, _, _, h => h
  | n + 1, bx, p, h => by
    unfold goRows
    cases e : rs[p]? with
    | none => exact h
    | some r => exact goRows_le hr n _ _ (behindF_le (hr.2.2 r (List.mem_of_getElem? e)) bx)
def spRun (K : PySem.W.Frag) : Sp := FSp (G := Addr × Addr × List URow × List Int × Nat) (fun g vs H => vs = [.ref g.1, .ref g.2.1, .int (g.2.2.2.2 : Int)] ∧ RowsAt K H g.1 g.2.2.1 ∧ RowsOk g.2.2.1 ∧ SqL K H g.2.1 (g.2.2.2.1.map V.int) ∧ g.2.2.2.1.length = 4 ∧ g.2.2.2.2 ≤ 100)
  (fun g H1 v H2 => let q := goRows g.2.2.1 g.2.2.2.2 g.2.2.2.1 0; ∃ t l, v = .ref t ∧ H1 l = none ∧ H2 l = some (.lst (q.1.map V.int)) ∧ H2 t = some (.tup [.ref l, .int (q.2.2.length : Nat), .bl (decide (q.2.1 = g.2.2.1.length))]))
def spLawRun (K : PySem.W.Frag) : Sp := FSp (G := Addr × Addr × List URow × List Int × Nat) (fun g vs H => vs = [.ref g.1, .ref g.2.1, .int (g.2.2.2.2 : Int)] ∧ RowsAt K H g.1 g.2.2.1 ∧ RowsOk g.2.2.1 ∧ SqL K H g.2.1 (g.2.2.2.1.map V.int) ∧ g.2.2.2.1.length = 4 ∧ g.2.2.2.2 ≤ 100)
  (fun g H1 v H2 => let q := goRows g.2.2.1 g.2.2.2.2 g.2.2.2.1 0; ∃ t l m, v = .ref t ∧ H1 t = none ∧ H1 l = none ∧ H1 m = none ∧ H2 l = some (.lst (q.1.map V.int)) ∧ H2 m = some (.lst (nv q.2.2)) ∧ H2 t = some (.lst [.ref l, .int (q.2.2.length : Nat), .bl (decide (q.2.1 = g.2.2.1.length)), .ref m]))
/-- _law_ended(found, due): found (a tuple of a list, a number, a truth), due (a list that begins with a list, a number, a truth) -/
def spEnded (K : PySem.W.Frag) : Sp := FSp (G := (Addr × Addr × List Int × Int × Bool) × (Addr × Addr × List Int × Int × Bool × List V))
  (fun g vs H => vs = [.ref g.1.1, .ref g.2.1] ∧ H g.1.1 = some (.tup [.ref g.1.2.1, .int g.1.2.2.2.1, .bl g.1.2.2.2.2]) ∧ H g.1.2.1 = some (.lst (g.1.2.2.1.map V.int)) ∧
    SqL K H g.2.1 ([.ref g.2.2.1, .int g.2.2.2.2.1, .bl g.2.2.2.2.2.1] ++ g.2.2.2.2.2.2) ∧ SqL K H g.2.2.1 (g.2.2.2.1.map V.int) ∧ g.2.2.2.1.length ≤ 40000)
  (fun g _ v _ => v = .bl (decide (g.1.2.2.1 = g.2.2.2.1) && (decide (g.1.2.2.2.1 = g.2.2.2.2.1) && decide (g.1.2.2.2.2 = g.2.2.2.2.2.1))))
end U

/-! Data compared as a whole; displays of parts just made -/
namespace U
open PySem PySem.Spec PyProof.Rows L2 Evl

def URow.pd : URow → PyData
  | .add b n x => .tuple [.str ("add" : Str), .int b, .int n, .int x]
  | .more b y x => .tuple [.str ("more" : Str), .int b, .int y, .int x]
theorem pd_lay (rs : List URow) : PyData.canLayAll0 (rs.map URow.pd) = true := by
  induction rs with
  | nil => simp [PyData.canLayAll0]
  | cons r t ih =>
    rw [List.map_cons]
    have h1 : PyData.strOk ("add" : Str) = true := by decide +kernel
    have h2 : PyData.strOk ("more" : Str) = true := by decide +kernel
    cases r
    · simp only [PyData.canLayAll0, PyData.canLay0, URow.pd, ih, h1, Bool.and_self]
    · simp only [PyData.canLayAll0, PyData.canLay0, URow.pd, ih, h2, Bool.and_self]
theorem pd_depth (rs : List URow) : PyData.depthAll (rs.map URow.pd) ≤ 1 := by
  induction rs with
  | nil => simp [PyData.depthAll]
  | cons r t ih =>
    rw [List.map_cons]
    cases r <;> simp [PyData.depthAll, PyData.depth, URow.pd] <;> omega
theorem shaped_rows (rs : List URow) : SeqAt.shaped (.list (rs.map URow.pd)) = true := by
  unfold SeqAt.shaped
  rw [Bool.and_eq_true]
  refine ⟨by simp only [PyData.canLay0]; exact pd_lay rs, decide_eq_true ?_⟩
  have := pd_depth rs
  simp only [PyData.depth]
  omega
theorem shaped_intsU (ns : List Int) : SeqAt.shaped (.list (ns.map PyData.int)) = true := by
  have h1 : PyData.canLayAll0 (ns.map PyData.int) = true := by
    induction ns with
    | nil => simp [PyData.canLayAll0]
    | cons n t ih => simp [PyData.canLayAll0, PyData.canLay0, ih]
  have h2 : PyData.depthAll (ns.map PyData.int) = 0 := by
    induction ns with
    | nil => simp [PyData.depthAll]
    | cons n t ih =>
      rw [List.map_cons] at h1 ⊢
      simp only [PyData.canLayAll0, PyData.canLay0, Bool.true_and] at h1
      simp [PyData.depthAll, PyData.depth, ih h1]
  unfold SeqAt.shaped
  rw [Bool.and_eq_true]
  refine ⟨by simp only [PyData.canLay0]; exact h1, decide_eq_true ?_⟩
  simp only [PyData.depth, h2]
  omega
section
variable {K : PySem.W.Frag} {H H' : Hp} {σ : L2.St} {ta tb : TE} {x y : V}
theorem dp_ints {xs : List Int} : DpAll K H (xs.map V.int) (xs.map PyData.int) := by
  induction xs with
  | nil => exact .nil
  | cons n t ih => exact .cons (.int n) ih
theorem dp_row {v : V} {r : URow} (h : RowAt K H v r) : Dp K H v r.pd := by
  obtain ⟨t, rfl, ht⟩ := h
  cases r with
  | add b n x => exact .tup ht (.cons (.str _) (.cons (.int _) (.cons (.int _) (.cons (.int _) .nil))))
  | more b y x => exact .tup ht (.cons (.str _) (.cons (.int _) (.cons (.int _) (.cons (.int _) .nil))))
theorem dp_rowsL : ∀ {vs : List V} {rs : List URow}, vs.length = rs.length → (∀ (k : Nat) v r, vs[k]? = some v → rs[k]? = some r → RowAt K H v r) → DpAll K H vs (rs.map URow.pd)
  | [], [], _, _ => .nil
  | [], _ :: _, h, _ => by cases h
  | _ :: _, [], h, _ => by cases h
  | v :: vs, r :: rs, h, f => .cons (dp_row (f 0 v r rfl rfl)) (dp_rowsL (Nat.succ.inj h) fun k w q h1 h2 => f (k + 1) w q h1 h2)
theorem RowsAt.dp {a : Addr} {rs : List URow} (h : RowsAt K H a rs) : Dp K H (.ref a) (.list (rs.map URow.pd)) := by
  obtain ⟨vs, h1, h2, h3⟩ := h
  exact .lst h1 (dp_rowsL h2 h3)
theorem dp_lst {a : Addr} {xs : List Int} (h : SqL K H a (xs.map V.int)) : Dp K H (.ref a) (.list (xs.map PyData.int)) := .lst h dp_ints
theorem rv_eqD {d e : PyData} (hd : ∀ H1, Ex H H1 → Dp K H1 x d) (he : ∀ H1, Ex H H1 → Dp K H1 y e) (sd : SeqAt.shaped d = true) (se : SeqAt.shaped e = true) : RV (rEqD K) x y H (.bl (PyData.eqv d e)) :=
  rv_val fun H1 e1 Q q => ⟨d, e, hd H1 e1, he H1 e1, sd, se, q⟩
theorem rv_neD {d e : PyData} (hd : ∀ H1, Ex H H1 → Dp K H1 x d) (he : ∀ H1, Ex H H1 → Dp K H1 y e) (sd : SeqAt.shaped d = true) (se : SeqAt.shaped e = true) : RV (rNeD K) x y H (.bl (!PyData.eqv d e)) :=
  rv_val fun H1 e1 Q q => ⟨d, e, hd H1 e1, he H1 e1, sd, se, q⟩
theorem eqv_rows (rs : List URow) : PyData.eqv (.list (rs.map URow.pd)) (.list (rs.map URow.pd)) = true := SeqAt.eqv_refl _ (SeqAt.canLay_of_shaped (shaped_rows rs))
theorem eqv_intsU (xs : List Int) : PyData.eqv (.list (xs.map PyData.int)) (.list (xs.map PyData.int)) = true := SeqAt.eqv_refl _ (SeqAt.canLay_of_shaped (shaped_intsU xs))
/-- two lists of the same rows -/
theorem ev_eqRows {a b : Addr} {rs : List URow} (ha : Ev ta σ H (.ref a)) (hb : Ev tb σ H (.ref b)) (h1 : RowsAt K H a rs) (h2 : RowsAt K H b rs) : Ev (tOp (rEqD K) ta tb) σ H (.bl true) := by
  have q := ev_op ha hb (rv_eqD (fun H1 e => (h1.mono e).dp) (fun H1 e => (h2.mono e).dp) (shaped_rows rs) (shaped_rows rs))
  rw [eqv_rows] at q
  exact q
theorem ev_neRows {a b : Addr} {rs : List URow} (ha : Ev ta σ H (.ref a)) (hb : Ev tb σ H (.ref b)) (h1 : RowsAt K H a rs) (h2 : RowsAt K H b rs) : Ev (tOp (rNeD K) ta tb) σ H (.bl false) := by
  have q := ev_op ha hb (rv_neD (fun H1 e => (h1.mono e).dp) (fun H1 e => (h2.mono e).dp) (shaped_rows rs) (shaped_rows rs))
  rw [eqv_rows] at q
  exact q
theorem ev_eqInts {a b : Addr} {xs : List Int} (ha : Ev ta σ H (.ref a)) (hb : Ev tb σ H (.ref b)) (h1 : SqL K H a (xs.map V.int)) (h2 : SqL K H b (xs.map V.int)) : Ev (tOp (rEqD K) ta tb) σ H (.bl true) := by
  have q := ev_op ha hb (rv_eqD (fun H1 e => dp_lst (ex_l e h1)) (fun H1 e => dp_lst (ex_l e h2)) (shaped_intsU xs) (shaped_intsU xs))
  rw [eqv_intsU] at q
  exact q
theorem ev_neInts {a b : Addr} {xs : List Int} (ha : Ev ta σ H (.ref a)) (hb : Ev tb σ H (.ref b)) (h1 : SqL K H a (xs.map V.int)) (h2 : SqL K H b (xs.map V.int)) : Ev (tOp (rNeD K) ta tb) σ H (.bl false) := by
  have q := ev_op ha hb (rv_neD (fun H1 e => dp_lst (ex_l e h1)) (fun H1 e => dp_lst (ex_l e h2)) (shaped_intsU xs) (shaped_intsU xs))
  rw [eqv_intsU] at q
  exact q

/-! ### displays of what is just made -/
def Disp (R : List V → Hp → Prop) (mk : List V → HO) (H1 : Hp) (x : V) (H2 : Hp) : Prop := ∃ p vs H', x = .ref p ∧ H1 p = none ∧ Ex H1 H' ∧ R vs H' ∧ H' p = none ∧ Ex H' H2 ∧ H2 p = some (mk vs)
theorem er_lst {ta : TA} {R : List V → Hp → Prop} (h : EvAR ta σ H R) (hl : ∀ vs H1, R vs H1 → vs.length ≤ 100000) : EvR (tLst ta) σ H (Disp R .lst) := fun H1 e Q q =>
  h H1 e _ fun vs H2 e2 r => ⟨sz_of (hl vs H2 r), fun p hp => q _ _ (e2.trans (Ex.new hp)) ⟨p, vs, H2, rfl, fresh_back e2 hp, e2, r, hp, Ex.new hp, upd_same⟩⟩
theorem er_tup {ta : TA} {R : List V → Hp → Prop} (h : EvAR ta σ H R) (hl : ∀ vs H1, R vs H1 → vs.length ≤ 100000) : EvR (tTup ta) σ H (Disp R .tup) := fun H1 e Q q =>
  h H1 e _ fun vs H2 e2 r => ⟨sz_of (hl vs H2 r), fun p hp => q _ _ (e2.trans (Ex.new hp)) ⟨p, vs, H2, rfl, fresh_back e2 hp, e2, r, hp, Ex.new hp, upd_same⟩⟩
/-- list(x), x a list: the same items in a new list -/
theorem el_listS {a : Addr} {xs : List V} (ha : Ev ta σ H (.ref a)) (h : SqL K H a xs) : EvL (tCB (rListS K) (tCons ta tNil)) σ H xs := el_list ha h
/-- behind, handed a row and the boxes -/
theorem s_behind {D : Ends} {E : XK} {i : Nat} {t l : Addr} {r : URow} {m : Nat} {bx : List Int} (h1 : Ev ta σ H (.ref t)) (h2 : Ev tb σ H (.ref l)) (ht : SqT K H t r.vs) (hr : r.ok m) (hl : H l = some (.lst (bx.map V.int))) (h4 : bx.length = 4)
    (k : ∀ H', (∀ a o, a ≠ l → H a = some o → H' a = some o) → H' l = some (.lst ((behindF r bx).1.map V.int)) → D.nx (σ.set i (some (.int ((behindF r bx).2 : Int)))) H') : tAsg (tCall (spBehind K) [] E (tCons ta (tCons tb tNil))) (gName i) D σ H :=
  h1 H (Ex.refl H) _ fun H1 e1 => h2 H1 e1 _ fun H2 e2 => ⟨t, l, r, m, bx, rfl, ex_t (e1.trans e2) ht, hr, (e1.trans e2) l _ hl, h4, fun H' f g => k H' (fun a o ha ho => f a o ha ((e1.trans e2) a o ho)) g⟩
theorem q_behind {D : Ends} {tz : TS} {E : XK} {i : Nat} {t l : Addr} {r : URow} {m : Nat} {bx : List Int} (h1 : Ev ta σ H (.ref t)) (h2 : Ev tb σ H (.ref l)) (ht : SqT K H t r.vs) (hr : r.ok m) (hl : H l = some (.lst (bx.map V.int))) (h4 : bx.length = 4)
    (k : ∀ H', (∀ a o, a ≠ l → H a = some o → H' a = some o) → H' l = some (.lst ((behindF r bx).1.map V.int)) → tz D (σ.set i (some (.int ((behindF r bx).2 : Int)))) H') : tSeq (tAsg (tCall (spBehind K) [] E (tCons ta (tCons tb tNil))) (gName i)) tz D σ H :=
  s_behind (D := { D with nx := tz D }) h1 h2 ht hr hl h4 k
/-- all that stood before H0's own things is kept -/
theorem ex_but {H0 H1 H2 : Hp} {l : Addr} (e : Ex H0 H1) (hl : H0 l = none) (f : ∀ a o, a ≠ l → H1 a = some o → H2 a = some o) : Ex H0 H2 := fun a o ha => f a o (ne_of_none ha hl) (e a o ha)
end
/-! ### rows by their four places -/
def URow.word : URow → Str
  | .add _ _ _ => ("add" : Str)
  | .more _ _ _ => ("more" : Str)
def URow.box : URow → Nat
  | .add b _ _ => b
  | .more b _ _ => b
def URow.mid : URow → Int
  | .add _ n _ => n
  | .more _ y _ => (y : Int)
def URow.last : URow → Nat
  | .add _ _ x => x
  | .more _ _ x => x
theorem URow.vs_eq (r : URow) : r.vs = [.str r.word, .int r.box, .int r.mid, .int r.last] := by cases r <;> rfl
theorem add_ne_more : ¬ (("more" : Str) = ("add" : Str)) := by decide +kernel
theorem URow.box_lt {r : URow} {m : Nat} (h : r.ok m) : r.box < 4 := by
  cases r with
  | add b n x => exact h.1
  | more b y x => exact h.1
theorem URow.last_le {r : URow} {m : Nat} (h : r.ok m) : r.last ≤ m := by
  cases r with
  | add b n x => exact h.2
  | more b y x => exact h.2.2
end U

/-! Bodies: what they are, how they are gone along -/
namespace U
open PySem PySem.Spec PyProof.Rows L2 Evl

inductive Bd where
  | nil
  | dd (r : Nat) (k : Bd)
  | ch (r : Nat) (y n k : Bd)
  | bk (b k : Bd)
  | lp (b k : Bd)
  | lv (d : Nat) (k : Bd)
  | ag (d : Nat) (k : Bd)
  | st (k : Bd)
namespace Bd
def app : Bd → Bd → Bd
  | .nil, c => c
  | .dd r k, c => .dd r (k.app c)
  | .ch r y n k, c => .ch r y n (k.app c)
  | .bk b k, c => .bk b (k.app c)
  | .lp b k, c => .lp b (k.app c)
  | .lv d k, c => .lv d (k.app c)
  | .ag d k, c => .ag d (k.app c)
  | .st k, c => .st (k.app c)
def len : Bd → Nat
  | .nil => 0
  | .dd _ k => k.len + 1
  | .ch _ _ _ k => k.len + 1
  | .bk _ k => k.len + 1
  | .lp _ k => k.len + 1
  | .lv _ k => k.len + 1
  | .ag _ k => k.len + 1
  | .st k => k.len + 1
def size : Bd → Nat
  | .nil => 0
  | .dd _ k => k.size + 2
  | .ch _ y n k => y.size + n.size + k.size + 2
  | .bk b k => b.size + k.size + 2
  | .lp b k => b.size + k.size + 2
  | .lv _ k => k.size + 2
  | .ag _ k => k.size + 2
  | .st k => k.size + 2
def told : Bd → List Nat
  | .nil => []
  | .dd r k => r :: k.told
  | .ch r y n k => r :: (y.told ++ n.told ++ k.told)
  | .bk b k => b.told ++ k.told
  | .lp b k => b.told ++ k.told
  | .lv _ k => k.told
  | .ag _ k => k.told
  | .st k => k.told
def drop : Bd → Nat → Bd
  | b, 0 => b
  | .nil, _ + 1 => .nil
  | .dd _ k, p + 1 => k.drop p
  | .ch _ _ _ k, p + 1 => k.drop p
  | .bk _ k, p + 1 => k.drop p
  | .lp _ k, p + 1 => k.drop p
  | .lv _ k, p + 1 => k.drop p
  | .ag _ k, p + 1 => k.drop p
  | .st k, p + 1 => k.drop p
/-- what is behind the first deed -/
def tl : Bd → Bd
  | .nil => .nil
  | .dd _ k => k
  | .ch _ _ _ k => k
  | .bk _ k => k
  | .lp _ k => k
  | .lv _ k => k
  | .ag _ k => k
  | .st k => k
/-- the deeds' rows are of the due kind, leaves and agains speak of what is around (n of these), an again stands right behind a step -/
def ok (A M : Nat → Prop) : Bd → Nat → Bool → Prop
  | .nil, _, _ => True
  | .dd r k, n, _ => A r ∧ k.ok A M n true
  | .ch r y z k, n, _ => M r ∧ y.ok A M n true ∧ z.ok A M n true ∧ k.ok A M n false
  | .bk b k, n, _ => b.ok A M (n + 1) false ∧ k.ok A M n false
  | .lp b k, n, _ => b.ok A M (n + 1) false ∧ k.ok A M n false
  | .lv d k, n, _ => d < n ∧ k.ok A M n false
  | .ag d k, n, f => d < n ∧ f = true ∧ k.ok A M n false
  | .st k, n, _ => k.ok A M n false
theorem ok_mono {A M : Nat → Prop} {b : Bd} {n : Nat} (h : b.ok A M n false) : b.ok A M n true := by
  cases b <;> first | exact h | exact absurd h.2.1 Bool.false_ne_true
theorem ok_any {A M : Nat → Prop} {b : Bd} {n : Nat} (h : b.ok A M n false) (f : Bool) : b.ok A M n f := by
  cases f
  · exact h
  · exact ok_mono h
theorem ok_tt {A M : Nat → Prop} {b : Bd} {n : Nat} {f : Bool} (h : b.ok A M n f) : b.ok A M n true := by
  cases f
  · exact ok_mono h
  · exact h
theorem ok_app {A M : Nat → Prop} {c : Bd} : ∀ {b : Bd} {n : Nat} {f : Bool}, b.ok A M n f → c.ok A M n false → (b.app c).ok A M n f
  | .nil, _, f, _, hc => ok_any hc f
  | .dd _ _, _, _, h, hc => ⟨h.1, ok_app h.2 hc⟩
  | .ch _ _ _ _, _, _, h, hc => ⟨h.1, h.2.1, h.2.2.1, ok_app h.2.2.2 hc⟩
  | .bk _ _, _, _, h, hc => ⟨h.1, ok_app h.2 hc⟩
  | .lp _ _, _, _, h, hc => ⟨h.1, ok_app h.2 hc⟩
  | .lv _ _, _, _, h, hc => ⟨h.1, ok_app h.2 hc⟩
  | .ag _ _, _, _, h, hc => ⟨h.1, h.2.1, ok_app h.2.2 hc⟩
  | .st _, _, _, h, hc => ok_app (b := _) (n := _) (f := false) h hc
theorem size_app (c : Bd) : ∀ b : Bd, (b.app c).size = b.size + c.size
  | .nil => by simp [app, size]
  | .dd _ k => by simp only [app, size, size_app c k]; omega
  | .ch _ _ _ k => by simp only [app, size, size_app c k]; omega
  | .bk _ k => by simp only [app, size, size_app c k]; omega
  | .lp _ k => by simp only [app, size, size_app c k]; omega
  | .lv _ k => by simp only [app, size, size_app c k]; omega
  | .ag _ k => by simp only [app, size, size_app c k]; omega
  | .st k => by simp only [app, size, size_app c k]; omega
theorem len_app (c : Bd) : ∀ b : Bd, (b.app c).len = b.len + c.len
  | .nil => by simp [app, len]
  | .dd _ k => by simp only [app, len, len_app c k]; omega
  | .ch _ _ _ k => by simp only [app, len, len_app c k]; omega
  | .bk _ k => by simp only [app, len, len_app c k]; omega
  | .lp _ k => by simp only [app, len, len_app c k]; omega
  | .lv _ k => by simp only [app, len, len_app c k]; omega
  | .ag _ k => by simp only [app, len, len_app c k]; omega
  | .st k => by simp only [app, len, len_app c k]; omega
theorem len_le : ∀ b : Bd, b.len ≤ b.size
  | .nil => Nat.zero_le _
  | .dd _ k => by have := len_le k; simp only [len, size]; omega
  | .ch _ _ _ k => by have := len_le k; simp only [len, size]; omega
  | .bk _ k => by have := len_le k; simp only [len, size]; omega
  | .lp _ k => by have := len_le k; simp only [len, size]; omega
  | .lv _ k => by have := len_le k; simp only [len, size]; omega
  | .ag _ k => by have := len_le k; simp only [len, size]; omega
  | .st k => by have := len_le k; simp only [len, size]; omega
theorem told_le : ∀ b : Bd, b.told.length ≤ b.size
  | .nil => Nat.zero_le _
  | .dd _ k => by have := told_le k; simp only [told, size, List.length_cons]; omega
  | .ch _ y n k => by have := told_le k; have := told_le y; have := told_le n; simp only [told, size, List.length_cons, List.length_append]; omega
  | .bk b k => by have := told_le k; have := told_le b; simp only [told, size, List.length_append]; omega
  | .lp b k => by have := told_le k; have := told_le b; simp only [told, size, List.length_append]; omega
  | .lv _ k => by have := told_le k; simp only [told, size]; omega
  | .ag _ k => by have := told_le k; simp only [told, size]; omega
  | .st k => by have := told_le k; simp only [told, size]; omega
theorem drop_zero (b : Bd) : b.drop 0 = b := by cases b <;> rfl
theorem drop_nil (p : Nat) : Bd.nil.drop p = .nil := by cases p <;> rfl
theorem drop_succ (b : Bd) (p : Nat) : b.drop (p + 1) = b.tl.drop p := by
  cases b <;> first | rfl | (show Bd.nil = Bd.nil.drop p; rw [drop_nil])
theorem drop_tl : ∀ (p : Nat) (b : Bd), (b.drop p).tl = b.drop (p + 1)
  | 0, b => by rw [drop_zero, drop_succ, drop_zero]
  | p + 1, b => by rw [drop_succ b p, drop_tl p b.tl, drop_succ b (p + 1)]
theorem tl_size (b : Bd) : b.tl.size ≤ b.size := by
  cases b <;> simp only [tl, size] <;> omega
theorem drop_size : ∀ (p : Nat) (b : Bd), (b.drop p).size ≤ b.size
  | 0, b => by rw [drop_zero]; exact Nat.le_refl _
  | p + 1, b => by
    rw [drop_succ]
    exact Nat.le_trans (drop_size p b.tl) (tl_size b)
theorem tl_len (b : Bd) (h : b ≠ .nil) : b.len = b.tl.len + 1 := by
  cases b <;> first | exact absurd rfl h | rfl
theorem drop_isNil : ∀ (p : Nat) (b : Bd), p ≤ b.len → (b.drop p = .nil ↔ p = b.len)
  | 0, b, _ => by
    rw [drop_zero]
    cases b <;> simp [len]
  | p + 1, b, h => by
    rw [drop_succ]
    have hb : b ≠ .nil := fun z => by
      subst z
      exact absurd h (by show ¬ p + 1 ≤ 0; omega)
    have := tl_len b hb
    rw [drop_isNil p b.tl (by omega)]
    omega
end Bd

/-! ### the pile -/
structure Fr where
  k : Nat
  b : Bd
  p : Nat
def Fr.rest (f : Fr) : Bd := f.b.drop f.p
def Fr.inc (f : Fr) : Fr := ⟨f.k, f.b, f.p + 1⟩
def Fr.again (f : Fr) : Fr := ⟨f.k, f.b, 0⟩
theorem Fr.inc_rest (f : Fr) : f.inc.rest = f.rest.tl := (Bd.drop_tl f.p f.b).symm
theorem Fr.again_rest (f : Fr) : f.again.rest = f.b := Bd.drop_zero f.b
def cnt : List Fr → Nat
  | [] => 0
  | f :: fs => (if f.k = 0 then 0 else 1) + cnt fs
def popTo : List Fr → Nat → List Fr
  | [], _ => []
  | f :: fs, d => if f.k = 0 then popTo fs d else if d = 0 then f :: fs else popTo fs (d - 1)
def outF (ag : Bool) (fs : List Fr) (d : Nat) : List Fr := match popTo fs d with
  | [] => []
  | g :: gs => if ag then g.again :: gs else gs
def St := List Fr × List Int × List Nat
/-- one turn; yes: whether a row's box holds more than nought -/
def stepF (rs : List URow) (s : List Fr × List Int × List Nat) : List Fr × List Int × List Nat := match s.1 with
  | [] => s
  | f :: fs => match f.rest with
    | .nil => (fs, s.2.1, s.2.2)
    | .dd r _ => (f.inc :: fs, (behindF (rs.getD r (.add 0 0 0)) s.2.1).1, s.2.2 ++ [r])
    | .ch r y n _ => (⟨0, if s.2.1.getD (rs.getD r (.add 0 0 0)).box 0 > 0 then y else n, 0⟩ :: f.inc :: fs, s.2.1, s.2.2 ++ [r])
    | .bk b _ => (⟨1, b, 0⟩ :: f.inc :: fs, s.2.1, s.2.2)
    | .lp b _ => (⟨2, b, 0⟩ :: f.inc :: fs, s.2.1, s.2.2)
    | .lv d _ => (outF false (f.inc :: fs) d, s.2.1, s.2.2)
    | .ag d _ => (outF true (f.inc :: fs) d, s.2.1, s.2.2)
    | .st _ => ([], s.2.1, s.2.2)
def asksB : Bd → Bool
  | .dd _ _ => true
  | .ch _ _ _ _ => true
  | _ => false
def isAg : Bd → Bool
  | .ag _ _ => true
  | _ => false
def asksF : List Fr → Bool
  | [] => false
  | f :: _ => asksB f.rest
def agF : List Fr → Bool
  | [] => false
  | f :: _ => isAg f.rest
def haltF (most : Nat) (s : List Fr × List Int × List Nat) : Bool := s.1.isEmpty || (decide (s.2.2.length = most) && asksF s.1)
def iterF (rs : List URow) : Nat → List Fr × List Int × List Nat → List Fr × List Int × List Nat
  | 0, s => s
  | k + 1, s => iterF rs k (stepF rs s)
theorem iterF_succ (rs : List URow) : ∀ (k : Nat) (s : List Fr × List Int × List Nat), iterF rs (k + 1) s = stepF rs (iterF rs k s)
  | 0, _ => rfl
  | k + 1, s => iterF_succ rs k (stepF rs s)
/-- s1 is where one first comes to a halt from s -/
def EndsF (rs : List URow) (most : Nat) (s s1 : List Fr × List Int × List Nat) : Prop := ∃ k, iterF rs k s = s1 ∧ haltF most s1 = true ∧ ∀ j, j < k → haltF most (iterF rs j s) = false
theorem EndsF.uniq {rs : List URow} {most : Nat} {s s1 s2 : List Fr × List Int × List Nat} (h1 : EndsF rs most s s1) (h2 : EndsF rs most s s2) : s1 = s2 := by
  obtain ⟨k, rfl, h1, f1⟩ := h1
  obtain ⟨j, rfl, h2, f2⟩ := h2
  rcases Nat.lt_trichotomy k j with z | z | z
  · rw [f2 k z] at h1
    cases h1
  · rw [z]
  · rw [f1 j z] at h2
    cases h2
theorem EndsF.done {rs : List URow} {most : Nat} {s : List Fr × List Int × List Nat} (h : haltF most s = true) : EndsF rs most s s := ⟨0, rfl, h, fun j hj => absurd hj (by omega)⟩
theorem EndsF.step {rs : List URow} {most : Nat} {s s1 : List Fr × List Int × List Nat} (h : haltF most s = false) (q : EndsF rs most (stepF rs s) s1) : EndsF rs most s s1 := by
  obtain ⟨k, h1, h2, h3⟩ := q
  refine ⟨k + 1, h1, h2, fun j hj => ?_⟩
  cases j with
  | zero => exact h
  | succ j => exact h3 j (by omega)
/-! ### what is kept, and what falls -/
def contF : List Fr → Nat
  | [] => 0
  | f :: fs => f.rest.size + 1 + contF fs
def RB (B : Nat) : List Fr → Prop
  | [] => True
  | f :: fs => f.b.size + 1 + contF fs ≤ B ∧ RB B fs
def FOk (A M : Nat → Prop) (f : Fr) (n : Nat) (fl : Bool) : Prop := f.b.ok A M n (decide (f.k = 0)) ∧ f.rest.ok A M n fl ∧ f.p ≤ f.b.len
def LowOk (A M : Nat → Prop) : List Fr → Prop
  | [] => True
  | f :: fs => FOk A M f (cnt (f :: fs)) false ∧ LowOk A M fs
def TopOk (A M : Nat → Prop) : List Fr → Prop
  | [] => True
  | f :: fs => FOk A M f (cnt (f :: fs)) true ∧ LowOk A M fs
theorem LowOk.top {A M : Nat → Prop} : ∀ {fs : List Fr}, LowOk A M fs → TopOk A M fs
  | [], _ => trivial
  | _ :: _, h => ⟨⟨h.1.1, Bd.ok_mono h.1.2.1, h.1.2.2⟩, h.2⟩
theorem LowOk.ag {A M : Nat → Prop} : ∀ {fs : List Fr}, LowOk A M fs → agF fs = false
  | [], _ => rfl
  | f :: _, h => by
    show isAg f.rest = false
    have q := h.1.2.1
    cases e : f.rest with
    | ag d k =>
      rw [e] at q
      exact absurd q.2.1 Bool.false_ne_true
    | _ => rfl
/-- the pile gone out of: what is left -/
theorem popTo_some {A M : Nat → Prop} {B : Nat} : ∀ {fs : List Fr} {d : Nat}, d < cnt fs → LowOk A M fs → RB B fs → ∃ g gs, popTo fs d = g :: gs ∧ g.k ≠ 0 ∧ LowOk A M (g :: gs) ∧ RB B (g :: gs) ∧ contF (g :: gs) ≤ contF fs
  | [], d, h, _, _ => absurd h (Nat.not_lt_zero _)
  | f :: fs, d, h, hl, hr => by
    by_cases hk : f.k = 0
    · have h : d < (if f.k = 0 then 0 else 1) + cnt fs := h
      rw [if_pos hk, Nat.zero_add] at h
      obtain ⟨g, gs, e, h1, h2, h3, h4⟩ := popTo_some h hl.2 hr.2
      refine ⟨g, gs, ?_, h1, h2, h3, ?_⟩
      · show (if f.k = 0 then _ else _) = _
        rw [if_pos hk]
        exact e
      · show _ ≤ f.rest.size + 1 + contF fs
        omega
    · by_cases hd : d = 0
      · refine ⟨f, fs, ?_, hk, hl, hr, Nat.le_refl _⟩
        show (if f.k = 0 then _ else if d = 0 then _ else _) = _
        rw [if_neg hk, if_pos hd]
      · have h : d < (if f.k = 0 then 0 else 1) + cnt fs := h
        rw [if_neg hk] at h
        obtain ⟨g, gs, e, h1, h2, h3, h4⟩ := popTo_some (d := d - 1) (by omega) hl.2 hr.2
        refine ⟨g, gs, ?_, h1, h2, h3, ?_⟩
        · show (if f.k = 0 then _ else if d = 0 then _ else _) = _
          rw [if_neg hk, if_neg hd]
          exact e
        · show _ ≤ f.rest.size + 1 + contF fs
          omega
def measF (B most : Nat) (s : List Fr × List Int × List Nat) : Nat := (most - s.2.2.length) * (2 * B + 2) + (if agF s.1 then B + 1 else 0) + contF s.1
def InvF (A M : Nat → Prop) (B most : Nat) (s : List Fr × List Int × List Nat) : Prop := TopOk A M s.1 ∧ RB B s.1 ∧ s.2.2.length ≤ most ∧ s.2.1.length = 4
theorem Bd.tl_ok {A M : Nat → Prop} {b : Bd} {n : Nat} {f : Bool} (h : b.ok A M n f) (hd : asksB b = false ∨ ∃ r y z k, b = .ch r y z k) : b.tl.ok A M n false := by
  cases b with
  | nil => trivial
  | dd r k => rcases hd with z | ⟨_, _, _, _, z⟩ <;> cases z
  | ch r y z k => exact h.2.2.2
  | bk b k => exact h.2
  | lp b k => exact h.2
  | lv d k => exact h.2
  | ag d k => exact h.2.2
  | st k => exact h
theorem Fr.inc_le {f : Fr} (h : f.p ≤ f.b.len) (hn : f.rest ≠ .nil) : f.inc.p ≤ f.inc.b.len := by
  have : ¬ f.p = f.b.len := fun z => hn ((Bd.drop_isNil _ _ h).mpr z)
  show f.p + 1 ≤ f.b.len
  omega
theorem inc_low {A M : Nat → Prop} {f : Fr} {fs : List Fr} (h : TopOk A M (f :: fs)) (hn : f.rest ≠ .nil) (hd : asksB f.rest = false ∨ ∃ r y z k, f.rest = .ch r y z k) : LowOk A M (f.inc :: fs) :=
  ⟨⟨h.1.1, by rw [Fr.inc_rest]; exact Bd.tl_ok h.1.2.1 hd, Fr.inc_le h.1.2.2 hn⟩, h.2⟩
theorem inc_rb {B : Nat} {f : Fr} {fs : List Fr} (h : RB B (f :: fs)) : RB B (f.inc :: fs) := h
theorem inc_cont {f : Fr} {fs : List Fr} (hn : f.rest ≠ .nil) : contF (f.inc :: fs) + 2 ≤ contF (f :: fs) := by
  show f.inc.rest.size + 1 + contF fs + 2 ≤ f.rest.size + 1 + contF fs
  rw [Fr.inc_rest]
  cases e : f.rest <;> first | exact absurd e hn | (simp only [Bd.tl, Bd.size]; omega)
theorem rest_size (f : Fr) : f.rest.size ≤ f.b.size := Bd.drop_size _ _
theorem push_ok {A M : Nat → Prop} {B : Nat} {f : Fr} {fs : List Fr} {k : Nat} {b : Bd} (hl : LowOk A M (f.inc :: fs)) (hr : RB B (f :: fs)) (hs : b.size + f.rest.tl.size + 2 ≤ f.rest.size)
    (hb : b.ok A M (cnt (⟨k, b, 0⟩ :: f.inc :: fs)) (decide (k = 0))) : TopOk A M (⟨k, b, 0⟩ :: f.inc :: fs) ∧ RB B (⟨k, b, 0⟩ :: f.inc :: fs) ∧ contF (⟨k, b, 0⟩ :: f.inc :: fs) + 1 ≤ contF (f :: fs) := by
  have h1 := rest_size f
  have h2 := hr.1
  have h3 : (Fr.mk k b 0).rest = b := Bd.drop_zero b
  refine ⟨⟨⟨hb, ?_, Nat.zero_le _⟩, hl⟩, ⟨?_, hr⟩, ?_⟩
  · rw [h3]
    exact Bd.ok_tt hb
  · show b.size + 1 + (f.inc.rest.size + 1 + contF fs) ≤ B
    rw [Fr.inc_rest]
    omega
  · show (Fr.mk k b 0).rest.size + 1 + (f.inc.rest.size + 1 + contF fs) + 1 ≤ f.rest.size + 1 + contF fs
    rw [Fr.inc_rest, h3]
    omega
theorem agF_le (fs : List Fr) (B : Nat) : (if agF fs then B + 1 else 0) ≤ B + 1 := by split <;> omega
theorem step_ok {A M : Nat → Prop} {B most : Nat} {rs : List URow} {s : List Fr × List Int × List Nat} (h : InvF A M B most s) (hh : haltF most s = false) : InvF A M B most (stepF rs s) ∧ measF B most (stepF rs s) < measF B most s := by
  obtain ⟨fs0, bx, tr⟩ := s
  obtain ⟨ht, hr, hm, h4⟩ := h
  cases fs0 with
  | nil => cases hh
  | cons f fs =>
    have hh : (false || (decide (tr.length = most) && asksB f.rest)) = false := hh
    have hle := agF_le (f :: fs) B
    have hm : tr.length ≤ most := hm
    have h4 : bx.length = 4 := h4
    -- a turn that is no step
    have easy : ∀ gs : List Fr, stepF rs (f :: fs, bx, tr) = (gs, bx, tr) → TopOk A M gs → RB B gs → (if agF gs then B + 1 else 0) + contF gs < (if agF (f :: fs) then B + 1 else 0) + contF (f :: fs) →
        InvF A M B most (stepF rs (f :: fs, bx, tr)) ∧ measF B most (stepF rs (f :: fs, bx, tr)) < measF B most (f :: fs, bx, tr) := fun gs e h1 h2 h3 => by
      rw [e]
      refine ⟨⟨h1, h2, hm, h4⟩, ?_⟩
      show (most - tr.length) * (2 * B + 2) + (if agF gs then B + 1 else 0) + contF gs < (most - tr.length) * (2 * B + 2) + (if agF (f :: fs) then B + 1 else 0) + contF (f :: fs)
      omega
    have stp : ∀ (gs : List Fr) (cx : List Int) (r : Nat), stepF rs (f :: fs, bx, tr) = (gs, cx, tr ++ [r]) → cx.length = 4 → asksB f.rest = true → TopOk A M gs → RB B gs → contF gs ≤ contF (f :: fs) →
        InvF A M B most (stepF rs (f :: fs, bx, tr)) ∧ measF B most (stepF rs (f :: fs, bx, tr)) < measF B most (f :: fs, bx, tr) := fun gs cx r e hc ha h1 h2 h3 => by
      rw [e]
      have hlt : tr.length < most := by
        have : tr.length ≠ most := fun z => by
          rw [decide_eq_true z, ha] at hh
          cases hh
        omega
      refine ⟨⟨h1, h2, by show (tr ++ [r]).length ≤ most; rw [List.length_append, List.length_singleton]; omega, hc⟩, ?_⟩
      show (most - (tr ++ [r]).length) * (2 * B + 2) + (if agF gs then B + 1 else 0) + contF gs < (most - tr.length) * (2 * B + 2) + (if agF (f :: fs) then B + 1 else 0) + contF (f :: fs)
      rw [List.length_append, List.length_singleton]
      have e2 : most - tr.length = (most - (tr.length + 1)) + 1 := by omega
      have e3 : (most - (tr.length + 1) + 1) * (2 * B + 2) = (most - (tr.length + 1)) * (2 * B + 2) + (2 * B + 2) := Nat.succ_mul _ _
      rw [e2, e3]
      generalize (most - (tr.length + 1)) * (2 * B + 2) = w
      have := agF_le gs B
      omega
    cases e : f.rest with
    | nil =>
      refine easy fs (by simp only [stepF, e]) ht.2.top hr.2 ?_
      rw [ht.2.ag]
      show 0 + contF fs < _ + (f.rest.size + 1 + contF fs)
      omega
    | dd r k =>
      have hn : f.rest ≠ .nil := fun z => by
        rw [e] at z
        cases z
      have ho := ht.1.2.1
      rw [e] at ho
      refine stp (f.inc :: fs) (behindF (rs.getD r (.add 0 0 0)) bx).1 r (by simp only [stepF, e]) (by rw [behindF_len]; exact h4) (by rw [e]; rfl) ⟨⟨ht.1.1, ?_, Fr.inc_le ht.1.2.2 hn⟩, ht.2⟩ (inc_rb hr) (by have := inc_cont (fs := fs) hn; omega)
      rw [Fr.inc_rest, e]
      exact ho.2
    | ch r y n k =>
      have hn : f.rest ≠ .nil := fun z => by
        rw [e] at z
        cases z
      have ho := ht.1.2.1
      rw [e] at ho
      have hl := inc_low ht hn (Or.inr ⟨_, _, _, _, e⟩)
      have hc : ∀ b : Bd, cnt (⟨0, b, 0⟩ :: f.inc :: fs) = cnt (f :: fs) := fun b => by
        show (if (0 : Nat) = 0 then 0 else 1) + cnt (f.inc :: fs) = _
        rw [if_pos rfl, Nat.zero_add]
        rfl
      have side : ∀ b : Bd, b.size + k.size + 2 ≤ y.size + n.size + k.size + 2 → b.ok A M (cnt (f :: fs)) true → TopOk A M (⟨0, b, 0⟩ :: f.inc :: fs) ∧ RB B (⟨0, b, 0⟩ :: f.inc :: fs) ∧ contF (⟨0, b, 0⟩ :: f.inc :: fs) + 1 ≤ contF (f :: fs) := fun b hs hb =>
        push_ok hl hr (by rw [e]; simp only [Bd.tl, Bd.size]; omega) (by rw [hc b]; exact hb)
      refine stp (⟨0, if bx.getD (rs.getD r (.add 0 0 0)).box 0 > 0 then y else n, 0⟩ :: f.inc :: fs) bx r (by simp only [stepF, e]) h4 (by rw [e]; rfl) ?_ ?_ ?_
      · split
        · exact (side y (by omega) ho.2.1).1
        · exact (side n (by omega) ho.2.2.1).1
      · split
        · exact (side y (by omega) ho.2.1).2.1
        · exact (side n (by omega) ho.2.2.1).2.1
      · split
        · have := (side y (by omega) ho.2.1).2.2
          omega
        · have := (side n (by omega) ho.2.2.1).2.2
          omega
    | bk b k =>
      have hn : f.rest ≠ .nil := fun z => by
        rw [e] at z
        cases z
      have ho := ht.1.2.1
      rw [e] at ho
      have hl := inc_low ht hn (Or.inl (by rw [e]; rfl))
      have hc : cnt (⟨1, b, 0⟩ :: f.inc :: fs) = cnt (f :: fs) + 1 := by
        show (if (1 : Nat) = 0 then 0 else 1) + cnt (f.inc :: fs) = _
        rw [if_neg (by decide), Nat.add_comm]
        rfl
      obtain ⟨q1, q2, q3⟩ := push_ok (k := 1) (b := b) hl hr (by rw [e]; simp only [Bd.tl, Bd.size]; omega) (by rw [hc]; exact ho.1)
      refine easy _ (by simp only [stepF, e]) q1 q2 ?_
      have hg : agF (⟨1, b, 0⟩ :: f.inc :: fs) = false := by
        show isAg (b.drop 0) = false
        rw [Bd.drop_zero]
        cases b with
        | ag d k => exact absurd ho.1.2.1 Bool.false_ne_true
        | _ => rfl
      rw [hg]
      have z : (if (false = true) then B + 1 else 0) = 0 := if_neg Bool.false_ne_true
      omega
    | lp b k =>
      have hn : f.rest ≠ .nil := fun z => by
        rw [e] at z
        cases z
      have ho := ht.1.2.1
      rw [e] at ho
      have hl := inc_low ht hn (Or.inl (by rw [e]; rfl))
      have hc : cnt (⟨2, b, 0⟩ :: f.inc :: fs) = cnt (f :: fs) + 1 := by
        show (if (2 : Nat) = 0 then 0 else 1) + cnt (f.inc :: fs) = _
        rw [if_neg (by decide), Nat.add_comm]
        rfl
      obtain ⟨q1, q2, q3⟩ := push_ok (k := 2) (b := b) hl hr (by rw [e]; simp only [Bd.tl, Bd.size]; omega) (by rw [hc]; exact ho.1)
      refine easy _ (by simp only [stepF, e]) q1 q2 ?_
      have hg : agF (⟨2, b, 0⟩ :: f.inc :: fs) = false := by
        show isAg (b.drop 0) = false
        rw [Bd.drop_zero]
        cases b with
        | ag d k => exact absurd ho.1.2.1 Bool.false_ne_true
        | _ => rfl
      rw [hg]
      have z : (if (false = true) then B + 1 else 0) = 0 := if_neg Bool.false_ne_true
      omega
    | lv d k =>
      have hn : f.rest ≠ .nil := fun z => by
        rw [e] at z
        cases z
      have ho := ht.1.2.1
      rw [e] at ho
      have hl := inc_low ht hn (Or.inl (by rw [e]; rfl))
      obtain ⟨g, gs, e1, h1, h2, h3, h4'⟩ := popTo_some (d := d) (fs := f.inc :: fs) ho.1 hl (inc_rb hr)
      have e2 : outF false (f.inc :: fs) d = gs := by
        unfold outF
        rw [e1]
        rfl
      refine easy gs (by simp only [stepF, e]; rw [e2]) h2.2.top h3.2 ?_
      have hi := inc_cont (fs := fs) hn
      rw [h2.2.ag]
      have h4' : g.rest.size + 1 + contF gs ≤ _ := h4'
      have z : (if (false = true) then B + 1 else 0) = 0 := if_neg Bool.false_ne_true
      omega
    | ag d k =>
      have hn : f.rest ≠ .nil := fun z => by
        rw [e] at z
        cases z
      have ho := ht.1.2.1
      rw [e] at ho
      have hl := inc_low ht hn (Or.inl (by rw [e]; rfl))
      obtain ⟨g, gs, e1, h1, h2, h3, h4'⟩ := popTo_some (d := d) (fs := f.inc :: fs) ho.1 hl (inc_rb hr)
      have e2 : outF true (f.inc :: fs) d = g.again :: gs := by
        unfold outF
        rw [e1]
        rfl
      have hb : g.b.ok A M (cnt (g :: gs)) false := by
        have q := h2.1.1
        rw [decide_eq_false h1] at q
        exact q
      have hlo : LowOk A M (g.again :: gs) := ⟨⟨h2.1.1, by rw [Fr.again_rest]; exact hb, Nat.zero_le _⟩, h2.2⟩
      refine easy (g.again :: gs) (by simp only [stepF, e]; rw [e2]) hlo.top h3 ?_
      rw [hlo.ag]
      have hf : agF (f :: fs) = true := by
        show isAg f.rest = true
        rw [e]
        rfl
      rw [hf]
      have h5 : contF (g.again :: gs) ≤ B := by
        show g.again.rest.size + 1 + contF gs ≤ B
        rw [Fr.again_rest]
        exact h3.1
      have z : (if (false = true) then B + 1 else 0) = 0 := if_neg Bool.false_ne_true
      have z2 : (if (true = true) then B + 1 else 0) = B + 1 := if_pos rfl
      omega
    | st k =>
      refine easy [] (by simp only [stepF, e]) trivial trivial ?_
      show 0 + 0 < _ + (f.rest.size + 1 + contF fs)
      omega

/-! ### bodies and piles as objects -/
section
variable {K : PySem.W.Frag} {F H H' : Hp}
def BsAt (K : PySem.W.Frag) (H : Hp) : Bd → List V → Prop
  | .nil, ts => ts = []
  | .dd r k, ts => ∃ t us, ts = .ref t :: us ∧ SqT K H t [.str ("do" : Str), .int (r : Int)] ∧ BsAt K H k us
  | .ch r y n k, ts => ∃ t us p ps q qs, ts = .ref t :: us ∧ SqT K H t [.str ("choose" : Str), .int (r : Int), .ref p, .ref q] ∧ SqT K H p ps ∧ BsAt K H y ps ∧ SqT K H q qs ∧ BsAt K H n qs ∧ BsAt K H k us
  | .bk b k, ts => ∃ t us p ps, ts = .ref t :: us ∧ SqT K H t [.str ("block" : Str), .ref p] ∧ SqT K H p ps ∧ BsAt K H b ps ∧ BsAt K H k us
  | .lp b k, ts => ∃ t us p ps, ts = .ref t :: us ∧ SqT K H t [.str ("loop" : Str), .ref p] ∧ SqT K H p ps ∧ BsAt K H b ps ∧ BsAt K H k us
  | .lv d k, ts => ∃ t us, ts = .ref t :: us ∧ SqT K H t [.str ("leave" : Str), .int (d : Int)] ∧ BsAt K H k us
  | .ag d k, ts => ∃ t us, ts = .ref t :: us ∧ SqT K H t [.str ("again" : Str), .int (d : Int)] ∧ BsAt K H k us
  | .st k, ts => ∃ t us, ts = .ref t :: us ∧ SqT K H t [.str ("stop" : Str)] ∧ BsAt K H k us
def BdAt (K : PySem.W.Frag) (H : Hp) (a : Addr) (b : Bd) : Prop := ∃ ts, SqT K H a ts ∧ BsAt K H b ts
theorem BsAt.mono (e : ∀ t xs, SqT K H t xs → SqT K H' t xs) : ∀ {b : Bd} {ts : List V}, BsAt K H b ts → BsAt K H' b ts
  | .nil, _, h => h
  | .dd _ _, _, h => by
    obtain ⟨t, us, h1, h2, h3⟩ := h
    exact ⟨t, us, h1, e _ _ h2, BsAt.mono e h3⟩
  | .ch _ _ _ _, _, h => by
    obtain ⟨t, us, p, ps, q, qs, h1, h2, h3, h4, h5, h6, h7⟩ := h
    exact ⟨t, us, p, ps, q, qs, h1, e _ _ h2, e _ _ h3, BsAt.mono e h4, e _ _ h5, BsAt.mono e h6, BsAt.mono e h7⟩
  | .bk _ _, _, h => by
    obtain ⟨t, us, p, ps, h1, h2, h3, h4, h5⟩ := h
    exact ⟨t, us, p, ps, h1, e _ _ h2, e _ _ h3, BsAt.mono e h4, BsAt.mono e h5⟩
  | .lp _ _, _, h => by
    obtain ⟨t, us, p, ps, h1, h2, h3, h4, h5⟩ := h
    exact ⟨t, us, p, ps, h1, e _ _ h2, e _ _ h3, BsAt.mono e h4, BsAt.mono e h5⟩
  | .lv _ _, _, h => by
    obtain ⟨t, us, h1, h2, h3⟩ := h
    exact ⟨t, us, h1, e _ _ h2, BsAt.mono e h3⟩
  | .ag _ _, _, h => by
    obtain ⟨t, us, h1, h2, h3⟩ := h
    exact ⟨t, us, h1, e _ _ h2, BsAt.mono e h3⟩
  | .st _, _, h => by
    obtain ⟨t, us, h1, h2, h3⟩ := h
    exact ⟨t, us, h1, e _ _ h2, BsAt.mono e h3⟩
theorem BsAt.ex {b : Bd} {ts : List V} (e : Ex H H') (h : BsAt K H b ts) : BsAt K H' b ts := h.mono fun _ _ q => ex_t e q
theorem BdAt.ex {b : Bd} {a : Addr} (e : Ex H H') (h : BdAt K H a b) : BdAt K H' a b := by
  obtain ⟨ts, h1, h2⟩ := h
  exact ⟨ts, ex_t e h1, h2.ex e⟩
theorem BsAt.cons {b : Bd} {ts : List V} (h : BsAt K H b ts) (hn : b ≠ .nil) : ∃ t us, ts = .ref t :: us ∧ BsAt K H b.tl us := by
  cases b with
  | nil => exact absurd rfl hn
  | dd r k =>
    obtain ⟨t, us, h1, h2, h3⟩ := h
    exact ⟨t, us, h1, h3⟩
  | ch r y n k =>
    obtain ⟨t, us, p, ps, q, qs, h1, h2, h3, h4, h5, h6, h7⟩ := h
    exact ⟨t, us, h1, h7⟩
  | bk b k =>
    obtain ⟨t, us, p, ps, h1, h2, h3, h4, h5⟩ := h
    exact ⟨t, us, h1, h5⟩
  | lp b k =>
    obtain ⟨t, us, p, ps, h1, h2, h3, h4, h5⟩ := h
    exact ⟨t, us, h1, h5⟩
  | lv d k =>
    obtain ⟨t, us, h1, h2, h3⟩ := h
    exact ⟨t, us, h1, h3⟩
  | ag d k =>
    obtain ⟨t, us, h1, h2, h3⟩ := h
    exact ⟨t, us, h1, h3⟩
  | st k =>
    obtain ⟨t, us, h1, h2, h3⟩ := h
    exact ⟨t, us, h1, h3⟩
theorem BsAt.drop : ∀ {p : Nat} {b : Bd} {ts : List V}, BsAt K H b ts → BsAt K H (b.drop p) (ts.drop p)
  | 0, b, ts, h => by
    rw [Bd.drop_zero]
    exact h
  | p + 1, b, ts, h => by
    rw [Bd.drop_succ]
    by_cases hn : b = .nil
    · subst hn
      have h : ts = [] := h
      subst h
      show BsAt K H (Bd.nil.drop p) []
      rw [Bd.drop_nil]
      rfl
    · obtain ⟨t, us, rfl, h1⟩ := h.cons hn
      exact BsAt.drop (p := p) h1
theorem BsAt.len : ∀ {b : Bd} {ts : List V}, BsAt K H b ts → ts.length = b.len
  | b, ts, h => by
    by_cases hn : b = .nil
    · subst hn
      have h : ts = [] := h
      subst h
      rfl
    · obtain ⟨t, us, rfl, h1⟩ := h.cons hn
      rw [Bd.tl_len b hn, List.length_cons, BsAt.len h1]
  termination_by b _ => b.size
  decreasing_by
    cases b <;> first | exact absurd rfl hn | (simp only [Bd.tl, Bd.size]; omega)
theorem BsAt.app {c : Bd} {us : List V} (hc : BsAt K H c us) : ∀ {b : Bd} {ts : List V}, BsAt K H b ts → BsAt K H (b.app c) (ts ++ us)
  | .nil, ts, h => by
    have h : ts = [] := h
    subst h
    exact hc
  | .dd _ _, _, h => by
    obtain ⟨t, us, rfl, h2, h3⟩ := h
    exact ⟨t, _, rfl, h2, BsAt.app hc h3⟩
  | .ch _ _ _ _, _, h => by
    obtain ⟨t, us, p, ps, q, qs, rfl, h2, h3, h4, h5, h6, h7⟩ := h
    exact ⟨t, _, p, ps, q, qs, rfl, h2, h3, h4, h5, h6, BsAt.app hc h7⟩
  | .bk _ _, _, h => by
    obtain ⟨t, us, p, ps, rfl, h2, h3, h4, h5⟩ := h
    exact ⟨t, _, p, ps, rfl, h2, h3, h4, BsAt.app hc h5⟩
  | .lp _ _, _, h => by
    obtain ⟨t, us, p, ps, rfl, h2, h3, h4, h5⟩ := h
    exact ⟨t, _, p, ps, rfl, h2, h3, h4, BsAt.app hc h5⟩
  | .lv _ _, _, h => by
    obtain ⟨t, us, rfl, h2, h3⟩ := h
    exact ⟨t, _, rfl, h2, BsAt.app hc h3⟩
  | .ag _ _, _, h => by
    obtain ⟨t, us, rfl, h2, h3⟩ := h
    exact ⟨t, _, rfl, h2, BsAt.app hc h3⟩
  | .st _, _, h => by
    obtain ⟨t, us, rfl, h2, h3⟩ := h
    exact ⟨t, _, rfl, h2, BsAt.app hc h3⟩
def fword (k : Nat) : Str := if k = 0 then ("choose" : Str) else if k = 1 then ("block" : Str) else ("loop" : Str)
def frV (f : Fr) (p : Addr) : List V := [.str (fword f.k), .ref p, .int (f.p : Int)]
def FrsAt (K : PySem.W.Frag) (F H : Hp) : List Fr → List Addr → Prop
  | [], ts => ts = []
  | f :: fs, ts => ∃ t us p ps, ts = t :: us ∧ H t = some (.lst (frV f p)) ∧ SqT K F p ps ∧ BsAt K F f.b ps ∧ FrsAt K F H fs us
theorem FrsAt.keep : ∀ {fs : List Fr} {ts : List Addr}, (∀ t, t ∈ ts → ∀ o, H t = some o → H' t = some o) → FrsAt K F H fs ts → FrsAt K F H' fs ts
  | [], _, _, h => h
  | _ :: _, _, e, h => by
    obtain ⟨t, us, p, ps, rfl, h1, h2, h3, h4⟩ := h
    exact ⟨t, us, p, ps, rfl, e t (List.mem_cons_self ..) _ h1, h2, h3, FrsAt.keep (fun t ht => e t (List.mem_cons_of_mem _ ht)) h4⟩
theorem FrsAt.len : ∀ {fs : List Fr} {ts : List Addr}, FrsAt K F H fs ts → ts.length = fs.length
  | [], ts, h => by
    have h : ts = [] := h
    rw [h]
    rfl
  | _ :: _, _, h => by
    obtain ⟨t, us, p, ps, rfl, h1, h2, h3, h4⟩ := h
    rw [List.length_cons, List.length_cons, FrsAt.len h4]
theorem FrsAt.nn : ∀ {fs : List Fr} {ts : List Addr}, FrsAt K F H fs ts → ∀ t, t ∈ ts → H t ≠ none
  | [], ts, h, t, ht => by
    have h : ts = [] := h
    subst h
    cases ht
  | _ :: _, _, h, t', ht => by
    obtain ⟨t, us, p, ps, rfl, h1, h2, h3, h4⟩ := h
    rcases List.mem_cons.mp ht with z | z
    · subst z
      rw [h1]
      exact Option.some_ne_none _
    · exact FrsAt.nn h4 t' z
def PlAt (K : PySem.W.Frag) (F H : Hp) (pl : Addr) (fs : List Fr) : Prop := ∃ ts : List Addr, H pl = some (.lst (ts.reverse.map V.ref)) ∧ F pl = none ∧ pl ∉ ts ∧ ts.Nodup ∧ (∀ t, t ∈ ts → F t = none) ∧ FrsAt K F H fs ts
theorem PlAt.ex {pl : Addr} {fs : List Fr} (h : PlAt K F H pl fs) (e : Ex H H') : PlAt K F H' pl fs := by
  obtain ⟨ts, h1, h2, h3, h4, h5, h6⟩ := h
  exact ⟨ts, e _ _ h1, h2, h3, h4, h5, h6.keep fun t _ o => e t o⟩
theorem PlAt.len {pl : Addr} {fs : List Fr} (h : PlAt K F H pl fs) : ∃ xs, H pl = some (.lst xs) ∧ xs.length = fs.length := by
  obtain ⟨ts, h1, h2, h3, h4, h5, h6⟩ := h
  exact ⟨_, h1, by rw [List.length_map, List.length_reverse, h6.len]⟩
theorem PlAt.nil {pl : Addr} (h : H pl = some (.lst [])) (hf : F pl = none) : PlAt K F H pl [] := ⟨[], h, hf, List.not_mem_nil, List.nodup_nil, fun t ht => absurd ht List.not_mem_nil, rfl⟩
theorem PlAt.top {pl : Addr} {f : Fr} {fs : List Fr} (h : PlAt K F H pl (f :: fs)) : ∃ t us p ps, H pl = some (.lst (us ++ [.ref t])) ∧ us.length = fs.length ∧ t ≠ pl ∧ F t = none ∧ F pl = none ∧ H t = some (.lst (frV f p)) ∧ SqT K F p ps ∧ BsAt K F f.b ps ∧
    (∀ H', (∀ a o, a ≠ pl → H a = some o → H' a = some o) → H' pl = some (.lst us) → PlAt K F H' pl fs) ∧
    (∀ H' (g : Fr), g.b = f.b → (∀ a o, a ≠ t → H a = some o → H' a = some o) → H' t = some (.lst (frV g p)) → PlAt K F H' pl (g :: fs)) := by
  obtain ⟨ts, h1, h2, h3, h4, h5, h6⟩ := h
  obtain ⟨t, us, p, ps, rfl, q1, q2, q3, q4⟩ := h6
  rw [List.nodup_cons] at h4
  rw [List.mem_cons, not_or] at h3
  have e : (t :: us).reverse.map V.ref = us.reverse.map V.ref ++ [.ref t] := by
    rw [List.reverse_cons, List.map_append]
    rfl
  rw [e] at h1
  refine ⟨t, us.reverse.map V.ref, p, ps, h1, by rw [List.length_map, List.length_reverse, q4.len], Ne.symm h3.1, h5 t (List.mem_cons_self ..), h2, q1, q2, q3, fun H' k hp => ?_, fun H' g hg k hp => ?_⟩
  · exact ⟨us, hp, h2, h3.2, h4.2, fun u hu => h5 u (List.mem_cons_of_mem _ hu), q4.keep fun u hu o ho => k u o (fun z => by subst z; exact h3.2 hu) ho⟩
  · refine ⟨t :: us, ?_, h2, by rw [List.mem_cons, not_or]; exact h3, List.nodup_cons.mpr h4, h5, t, us, p, ps, rfl, hp, q2, by rw [hg]; exact q3, q4.keep fun u hu o ho => k u o (fun z => by subst z; exact h4.1 hu) ho⟩
    rw [e]
    exact k pl _ h3.1 h1
theorem PlAt.push {pl t p : Addr} {f : Fr} {fs : List Fr} {ps xs : List V} {H1 : Hp} (h : PlAt K F H pl fs) (ef : Ex F H) (hx : H pl = some (.lst xs)) (ht : H t = none) (h1 : H1 t = some (.lst (frV f p))) (e : Ex H H1) (hp : SqT K F p ps) (hb : BsAt K F f.b ps)
    (k : ∀ a o, a ≠ pl → H1 a = some o → H' a = some o) (hl : H' pl = some (.lst (xs ++ [.ref t]))) : PlAt K F H' pl (f :: fs) := by
  obtain ⟨ts, h1', h2, h3, h4, h5, h6⟩ := h
  rw [h1'] at hx
  have hx := HO.lst.inj (Option.some.inj hx)
  subst hx
  have tp : t ≠ pl := fun z => by
    subst z
    rw [ht] at h1'
    cases h1'
  have tt : t ∉ ts := fun z => h6.nn t z ht
  refine ⟨t :: ts, ?_, h2, by rw [List.mem_cons, not_or]; exact ⟨Ne.symm tp, h3⟩, List.nodup_cons.mpr ⟨tt, h4⟩, fun u hu => ?_, t, ts, p, ps, rfl, k t _ tp h1, hp, hb, h6.keep fun u hu o ho => k u o (fun z => by subst z; exact h3 hu) (e u o ho)⟩
  · rw [hl, List.reverse_cons, List.map_append]
    rfl
  · rcases List.mem_cons.mp hu with z | z
    · subst z
      exact fresh_back ef ht
    · exact h5 u z
def IsFr (o : HO) : Prop := ∃ w p i, o = .lst [.str w, .ref p, .int i]
def KeepP (pl : Addr) (H H' : Hp) : Prop := ∀ a o, H a = some o → a ≠ pl → ¬ IsFr o → H' a = some o
theorem KeepP.trans {pl : Addr} {H1 : Hp} (a : KeepP pl H H1) (b : KeepP pl H1 H') : KeepP pl H H' := fun x o h1 h2 h3 => b x o (a x o h1 h2 h3) h2 h3
theorem KeepP.ex {pl : Addr} (e : Ex H H') : KeepP pl H H' := fun x o h1 _ _ => e x o h1
theorem KeepP.pl {pl : Addr} {o : HO} : KeepP pl H (upd H pl o) := fun x u h1 h2 _ => by
  rw [upd_ne h2]
  exact h1
theorem KeepP.fr {pl t : Addr} {o u : HO} (h : H t = some u) (hu : IsFr u) : KeepP pl H (upd H t o) := fun x v h1 _ h3 => by
  rw [upd_ne]
  · exact h1
  · intro z
    subst z
    rw [h] at h1
    have := Option.some.inj h1
    subst this
    exact h3 hu
theorem isFr_frV (f : Fr) (p : Addr) : IsFr (.lst (frV f p)) := ⟨_, _, _, rfl⟩
theorem not_isFr_ints (ns : List Int) : ¬ IsFr (.lst (ns.map V.int)) := fun ⟨w, p, i, h⟩ => by
  have h := HO.lst.inj h
  cases ns with
  | nil => cases h
  | cons n t => cases h
theorem not_isFr_nv (ns : List Nat) : ¬ IsFr (.lst (nv ns)) := fun ⟨w, p, i, h⟩ => by
  have h := HO.lst.inj h
  cases ns with
  | nil => cases h
  | cons n t => cases h
theorem FrsAt.isFr : ∀ {fs : List Fr} {ts : List Addr}, FrsAt K F H fs ts → ∀ t, t ∈ ts → ∃ o, H t = some o ∧ IsFr o
  | [], ts, h, t, ht => by
    have h : ts = [] := h
    subst h
    cases ht
  | _ :: _, _, h, t', ht => by
    obtain ⟨t, us, p, ps, rfl, h1, h2, h3, h4⟩ := h
    rcases List.mem_cons.mp ht with z | z
    · subst z
      exact ⟨_, h1, isFr_frV _ _⟩
    · exact FrsAt.isFr h4 t' z
theorem PlAt.keepL {pl l : Addr} {fs : List Fr} {o : HO} (h : PlAt K F H pl fs) (hl : H l = some o) (ho : ¬ IsFr o) (hp : l ≠ pl) (k : ∀ a o, a ≠ l → H a = some o → H' a = some o) : PlAt K F H' pl fs := by
  obtain ⟨ts, h1, h2, h3, h4, h5, h6⟩ := h
  refine ⟨ts, k _ _ (Ne.symm hp) h1, h2, h3, h4, h5, h6.keep fun t ht u hu => k t u (fun z => ?_) hu⟩
  subst z
  obtain ⟨v, hv, hf⟩ := h6.isFr t ht
  rw [hl] at hv
  rw [Option.some.inj hv] at ho
  exact ho hf
def outWord (ag : Bool) : Str := if ag then ("again" : Str) else ("leave" : Str)
/-- going out of a pile -/
def spGone (K : PySem.W.Frag) : Sp := fun vs H Q _ => ∃ (F : Hp) (pl dt : Addr) (fs : List Fr) (ag : Bool) (d : Nat), vs = [.ref pl, .ref dt] ∧ Ex F H ∧ PlAt K F H pl fs ∧ SqT K F dt [.str (outWord ag), .int (d : Int)] ∧ d < cnt fs ∧ fs.length ≤ 90000 ∧
  ∀ H', Ex F H' → KeepP pl H H' → PlAt K F H' pl (outF ag fs d) → Q .non H'
def IsAdd (rs : List URow) (r : Nat) : Prop := ∃ b n x, rs[r]? = some (.add b n x)
def IsMore (rs : List URow) (r : Nat) : Prop := ∃ b y x, rs[r]? = some (.more b y x)
def st0 (b : Bd) (bx : List Int) : List Fr × List Int × List Nat := ([⟨0, b, 0⟩], bx, [])
theorem str_ne {a b : Str} (h : ¬ a = b) : decide (V.str a = V.str b) = false := decide_eq_false fun z => h (V.str.inj z)
theorem str_eq {a b : Str} (h : a = b) : decide (V.str a = V.str b) = true := decide_eq_true (congrArg V.str h)
theorem atI_last {us : List V} {x : V} : atI (us ++ [x]) (((us ++ [x]).length : Int) - 1) = some x := by
  have e : (((us ++ [x]).length : Int) - 1) = ((us.length : Nat) : Int) := by
    rw [List.length_append, List.length_singleton]
    omega
  rw [e]
  exact atI_nat (by rw [List.getElem?_append_right (Nat.le_refl _), Nat.sub_self]; rfl)
theorem fword_zero {k : Nat} (h : k = 0) : fword k = ("choose" : Str) := if_pos h
theorem fword_ne {k : Nat} (h : k ≠ 0) : ¬ fword k = ("choose" : Str) := by
  unfold fword
  rw [if_neg h]
  split <;> decide +kernel
theorem atI0 {x : V} {xs : List V} : atI (x :: xs) ((0 : Nat) : Int) = some x := atI_nat rfl
theorem popTo_skip {f : Fr} {fs : List Fr} {d : Nat} (h : f.k = 0) : popTo (f :: fs) d = popTo fs d := if_pos h
theorem popTo_here {f : Fr} {fs : List Fr} (h : f.k ≠ 0) : popTo (f :: fs) 0 = f :: fs := by
  show (if f.k = 0 then _ else if 0 = 0 then _ else _) = _
  rw [if_neg h, if_pos rfl]
theorem popTo_on {f : Fr} {fs : List Fr} {d : Nat} (h : f.k ≠ 0) (hd : d ≠ 0) : popTo (f :: fs) d = popTo fs (d - 1) := by
  show (if f.k = 0 then _ else if d = 0 then _ else _) = _
  rw [if_neg h, if_neg hd]
theorem cnt_skip {f : Fr} {fs : List Fr} (h : f.k = 0) : cnt (f :: fs) = cnt fs := by
  show (if f.k = 0 then 0 else 1) + _ = _
  rw [if_pos h, Nat.zero_add]
theorem cnt_on {f : Fr} {fs : List Fr} (h : f.k ≠ 0) : cnt (f :: fs) = cnt fs + 1 := by
  show (if f.k = 0 then 0 else 1) + _ = _
  rw [if_neg h, Nat.add_comm]
def Bd.word : Bd → Str
  | .nil => ("" : Str)
  | .dd _ _ => ("do" : Str)
  | .ch _ _ _ _ => ("choose" : Str)
  | .bk _ _ => ("block" : Str)
  | .lp _ _ => ("loop" : Str)
  | .lv _ _ => ("leave" : Str)
  | .ag _ _ => ("again" : Str)
  | .st _ => ("stop" : Str)
theorem BsAt.head {b : Bd} {ts : List V} (h : BsAt K H b ts) (hn : b ≠ .nil) : ∃ t us more, ts = .ref t :: us ∧ SqT K H t (.str b.word :: more) := by
  cases b with
  | nil => exact absurd rfl hn
  | dd r k =>
    obtain ⟨t, us, h1, h2, h3⟩ := h
    exact ⟨t, us, _, h1, h2⟩
  | ch r y n k =>
    obtain ⟨t, us, p, ps, q, qs, h1, h2, h3, h4, h5, h6, h7⟩ := h
    exact ⟨t, us, _, h1, h2⟩
  | bk b k =>
    obtain ⟨t, us, p, ps, h1, h2, h3, h4, h5⟩ := h
    exact ⟨t, us, _, h1, h2⟩
  | lp b k =>
    obtain ⟨t, us, p, ps, h1, h2, h3, h4, h5⟩ := h
    exact ⟨t, us, _, h1, h2⟩
  | lv d k =>
    obtain ⟨t, us, h1, h2, h3⟩ := h
    exact ⟨t, us, _, h1, h2⟩
  | ag d k =>
    obtain ⟨t, us, h1, h2, h3⟩ := h
    exact ⟨t, us, _, h1, h2⟩
  | st k =>
    obtain ⟨t, us, h1, h2, h3⟩ := h
    exact ⟨t, us, _, h1, h2⟩
theorem asks_in {b : Bd} (hn : b ≠ .nil) : inV (.str b.word) [.str ("do" : Str), .str ("choose" : Str)] = asksB b := by
  cases b <;> first | exact absurd rfl hn | rfl
theorem len_cont : ∀ fs : List Fr, fs.length ≤ contF fs
  | [] => Nat.le_refl _
  | f :: fs => by
    show fs.length + 1 ≤ f.rest.size + 1 + contF fs
    have := len_cont fs
    omega
theorem rb_len {B : Nat} {f : Fr} {fs : List Fr} (h : RB B (f :: fs)) : (f :: fs).length ≤ B := by
  have h1 := h.1
  have h2 := len_cont fs
  show fs.length + 1 ≤ B
  omega
theorem step_nil {rs : List URow} {f : Fr} {fs : List Fr} {bx : List Int} {tr : List Nat} (e : f.rest = .nil) : stepF rs (f :: fs, bx, tr) = (fs, bx, tr) := by simp only [stepF, e]
theorem step_dd {rs : List URow} {f : Fr} {fs : List Fr} {bx : List Int} {tr : List Nat} {r : Nat} {k : Bd} (e : f.rest = .dd r k) : stepF rs (f :: fs, bx, tr) = (f.inc :: fs, (behindF (rs.getD r (.add 0 0 0)) bx).1, tr ++ [r]) := by simp only [stepF, e]
theorem step_ch {rs : List URow} {f : Fr} {fs : List Fr} {bx : List Int} {tr : List Nat} {r : Nat} {y n k : Bd} (e : f.rest = .ch r y n k) : stepF rs (f :: fs, bx, tr) = (⟨0, if bx.getD (rs.getD r (.add 0 0 0)).box 0 > 0 then y else n, 0⟩ :: f.inc :: fs, bx, tr ++ [r]) := by simp only [stepF, e]
theorem step_bk {rs : List URow} {f : Fr} {fs : List Fr} {bx : List Int} {tr : List Nat} {b k : Bd} (e : f.rest = .bk b k) : stepF rs (f :: fs, bx, tr) = (⟨1, b, 0⟩ :: f.inc :: fs, bx, tr) := by simp only [stepF, e]
theorem step_lp {rs : List URow} {f : Fr} {fs : List Fr} {bx : List Int} {tr : List Nat} {b k : Bd} (e : f.rest = .lp b k) : stepF rs (f :: fs, bx, tr) = (⟨2, b, 0⟩ :: f.inc :: fs, bx, tr) := by simp only [stepF, e]
theorem step_lv {rs : List URow} {f : Fr} {fs : List Fr} {bx : List Int} {tr : List Nat} {d : Nat} {k : Bd} (e : f.rest = .lv d k) : stepF rs (f :: fs, bx, tr) = (outF false (f.inc :: fs) d, bx, tr) := by simp only [stepF, e]
theorem step_ag {rs : List URow} {f : Fr} {fs : List Fr} {bx : List Int} {tr : List Nat} {d : Nat} {k : Bd} (e : f.rest = .ag d k) : stepF rs (f :: fs, bx, tr) = (outF true (f.inc :: fs) d, bx, tr) := by simp only [stepF, e]
theorem step_st {rs : List URow} {f : Fr} {fs : List Fr} {bx : List Int} {tr : List Nat} {k : Bd} (e : f.rest = .st k) : stepF rs (f :: fs, bx, tr) = ([], bx, tr) := by simp only [stepF, e]
section
variable {σ : L2.St} {ta tb : TE} {D : Ends} {E : XK} {tz : TS}
theorem s_behindD {t l : Addr} {r : URow} {m : Nat} {bx : List Int} (h1 : Ev ta σ H (.ref t)) (h2 : Ev tb σ H (.ref l)) (ht : SqT K H t r.vs) (hr : r.ok m) (hl : H l = some (.lst (bx.map V.int))) (h4 : bx.length = 4)
    (k : ∀ H', (∀ a o, a ≠ l → H a = some o → H' a = some o) → H' l = some (.lst ((behindF r bx).1.map V.int)) → D.nx σ H') : tDrop (tCall (spBehind K) [] E (tCons ta (tCons tb tNil))) D σ H :=
  h1 H (Ex.refl H) _ fun H1 e1 => h2 H1 e1 _ fun H2 e2 => ⟨t, l, r, m, bx, rfl, ex_t (e1.trans e2) ht, hr, (e1.trans e2) l _ hl, h4, fun H' f g => k H' (fun a o ha ho => f a o ha ((e1.trans e2) a o ho)) g⟩
theorem q_behindD {t l : Addr} {r : URow} {m : Nat} {bx : List Int} (h1 : Ev ta σ H (.ref t)) (h2 : Ev tb σ H (.ref l)) (ht : SqT K H t r.vs) (hr : r.ok m) (hl : H l = some (.lst (bx.map V.int))) (h4 : bx.length = 4)
    (k : ∀ H', (∀ a o, a ≠ l → H a = some o → H' a = some o) → H' l = some (.lst ((behindF r bx).1.map V.int)) → tz D σ H') : tSeq (tDrop (tCall (spBehind K) [] E (tCons ta (tCons tb tNil)))) tz D σ H :=
  s_behindD (D := { D with nx := tz D }) h1 h2 ht hr hl h4 k
theorem s_gone {pl dt : Addr} {fs : List Fr} {ag : Bool} {d : Nat} (h1 : Ev ta σ H (.ref pl)) (h2 : Ev tb σ H (.ref dt)) (eF : Ex F H) (hP : PlAt K F H pl fs) (hD : SqT K F dt [.str (outWord ag), .int (d : Int)]) (hd : d < cnt fs) (hz : fs.length ≤ 90000)
    (k : ∀ H', Ex F H' → KeepP pl H H' → PlAt K F H' pl (outF ag fs d) → D.nx σ H') : tDrop (tCall (spGone K) [] E (tCons ta (tCons tb tNil))) D σ H :=
  h1 H (Ex.refl H) _ fun H1 e1 => h2 H1 e1 _ fun H2 e2 => ⟨F, pl, dt, fs, ag, d, rfl, eF.trans (e1.trans e2), hP.ex (e1.trans e2), hD, hd, hz, fun H' g1 g2 g3 => k H' g1 ((KeepP.ex (e1.trans e2)).trans g2) g3⟩
end
abbrev GW8 := Addr × Addr × Addr × List URow × Bd × List Int × Nat
def Wpre (K : PySem.W.Frag) (g : GW8) (H : Hp) : Prop := RowsAt K H g.1 g.2.2.2.1 ∧ RowsOk g.2.2.2.1 ∧ BdAt K H g.2.1 g.2.2.2.2.1 ∧ g.2.2.2.2.1.ok (IsAdd g.2.2.2.1) (IsMore g.2.2.2.1) 0 true ∧ g.2.2.2.2.1.size ≤ 50000 ∧
  SqL K H g.2.2.1 (g.2.2.2.2.2.1.map V.int) ∧ g.2.2.2.2.2.1.length = 4 ∧ g.2.2.2.2.2.2 ≤ 50000
/-- walk -/
def spWalk (K : PySem.W.Frag) : Sp := FSp (G := GW8) (fun g vs H => vs = [.ref g.1, .ref g.2.1, .ref g.2.2.1, .int (g.2.2.2.2.2.2 : Int)] ∧ Wpre K g H)
  (fun g H1 v H2 => ∃ t l s, v = .ref t ∧ H1 l = none ∧ EndsF g.2.2.2.1 g.2.2.2.2.2.2 (st0 g.2.2.2.2.1 g.2.2.2.2.2.1) s ∧ H2 l = some (.lst (s.2.1.map V.int)) ∧ H2 t = some (.tup [.ref l, .int (s.2.2.length : Nat), .bl s.1.isEmpty]))
/-- the law's own walk: a list of the boxes, the steps, whether over, the trail -/
def spLWalk (K : PySem.W.Frag) : Sp := FSp (G := GW8) (fun g vs H => vs = [.ref g.1, .ref g.2.1, .ref g.2.2.1, .int (g.2.2.2.2.2.2 : Int)] ∧ Wpre K g H)
  (fun g H1 v H2 => ∃ t l m s, v = .ref t ∧ H1 l = none ∧ H1 m = none ∧ EndsF g.2.2.2.1 g.2.2.2.2.2.2 (st0 g.2.2.2.2.1 g.2.2.2.2.2.1) s ∧ H2 l = some (.lst (s.2.1.map V.int)) ∧ H2 m = some (.lst (nv s.2.2)) ∧ H2 t = some (.lst [.ref l, .int (s.2.2.length : Nat), .bl s.1.isEmpty, .ref m]))
def spAsks (K : PySem.W.Frag) : Sp := FSp (G := Hp × Addr × List Fr) (fun g vs H => vs = [.ref g.2.1] ∧ Ex g.1 H ∧ PlAt K g.1 H g.2.1 g.2.2 ∧ g.2.2 ≠ [] ∧ ∀ f fs, g.2.2 = f :: fs → f.p ≤ f.b.len) (fun g _ v _ => v = .bl (asksF g.2.2))
/-- one turn: changes the boxes, the pile, the trail -/
def spLStep (K : PySem.W.Frag) : Sp := fun vs H Q _ => ∃ (F : Hp) (a l pl tr : Addr) (rs : List URow) (f : Fr) (fs : List Fr) (bx : List Int) (tl : List Nat) (B n : Nat), vs = [.ref a, .ref l, .ref pl, .ref tr] ∧ Ex F H ∧ RowsAt K F a rs ∧ RowsOk rs ∧ F l = none ∧ F tr = none ∧ pl ≠ tr ∧ l ≠ tr ∧ l ≠ pl ∧
  H l = some (.lst (bx.map V.int)) ∧ H tr = some (.lst (nv tl)) ∧ PlAt K F H pl (f :: fs) ∧ InvF (IsAdd rs) (IsMore rs) B n (f :: fs, bx, tl) ∧ B ≤ 60000 ∧ n ≤ 60000 ∧
  ∀ H', Ex F H' → H' l = some (.lst ((stepF rs (f :: fs, bx, tl)).2.1.map V.int)) → H' tr = some (.lst (nv (stepF rs (f :: fs, bx, tl)).2.2)) → PlAt K F H' pl (stepF rs (f :: fs, bx, tl)).1 → Q .non H'
section
variable {σ : L2.St} {ta tb tc td : TE} {D : Ends} {E : XK} {tz : TS}
theorem ev_intB {k : Bool} (h : Ev ta σ H (.bl k)) : Ev (tCB (fun xs H Q => (∃ i, xs = [.int i] ∧ Q (.int i) H) ∨ ∃ k, xs = [.bl k] ∧ Q (.int (if k then 1 else 0)) H) (tCons ta tNil)) σ H (.int (if k then 1 else 0)) := fun H1 e Q q =>
  h H1 e _ fun H2 e2 => Or.inr ⟨k, rfl, q H2 e2⟩
theorem s_clear {l : Addr} {xs : List V} (ho : Ev ta σ H (.ref l)) (hl : H l = some (.lst xs)) (q : ∀ H1, Ex H H1 → D.nx σ (upd H1 l (.lst []))) : tDrop (tBM0 K "list" rClear ta) D σ H :=
  ho H (Ex.refl H) _ fun H1 e1 => ⟨Or.inl ⟨rfl, _, sq_of (e1 l _ hl)⟩, l, xs, rfl, rfl, e1 l _ hl, q H1 e1⟩
theorem s_lstep {a l pl tr : Addr} {rs : List URow} {f : Fr} {fs : List Fr} {bx : List Int} {tl : List Nat} {B n : Nat} (h1 : Ev ta σ H (.ref a)) (h2 : Ev tb σ H (.ref l)) (h3 : Ev tc σ H (.ref pl)) (h4 : Ev td σ H (.ref tr)) (eF : Ex F H) (hR : RowsAt K F a rs) (ho : RowsOk rs) (l0 : F l = none) (t0 : F tr = none) (d1 : pl ≠ tr) (d2 : l ≠ tr) (d3 : l ≠ pl)
    (hl : H l = some (.lst (bx.map V.int))) (ht : H tr = some (.lst (nv tl))) (hP : PlAt K F H pl (f :: fs)) (inv : InvF (IsAdd rs) (IsMore rs) B n (f :: fs, bx, tl)) (hB : B ≤ 60000) (hn : n ≤ 60000)
    (k : ∀ H', Ex F H' → H' l = some (.lst ((stepF rs (f :: fs, bx, tl)).2.1.map V.int)) → H' tr = some (.lst (nv (stepF rs (f :: fs, bx, tl)).2.2)) → PlAt K F H' pl (stepF rs (f :: fs, bx, tl)).1 → D.nx σ H') :
    tDrop (tCall (spLStep K) [] E (tCons ta (tCons tb (tCons tc (tCons td tNil))))) D σ H :=
  h1 H (Ex.refl H) _ fun H1 e1 => h2 H1 e1 _ fun H2 e2 => h3 H2 (e1.trans e2) _ fun H3 e3 => h4 H3 ((e1.trans e2).trans e3) _ fun H4 e4 =>
    have e := ((e1.trans e2).trans e3).trans e4
    ⟨F, a, l, pl, tr, rs, f, fs, bx, tl, B, n, rfl, eF.trans e, hR, ho, l0, t0, d1, d2, d3, e _ _ hl, e _ _ ht, hP.ex e, inv, hB, hn, k⟩
end
def Bd.nest : Bd → Nat
  | .nil => 0
  | .dd _ k => k.nest
  | .ch _ y n k => max (max y.nest n.nest + 1) k.nest
  | .bk b k => max (b.nest + 1) k.nest
  | .lp b k => max (b.nest + 1) k.nest
  | .lv _ k => k.nest
  | .ag _ k => k.nest
  | .st k => k.nest
theorem nest_size : ∀ b : Bd, 2 * b.nest ≤ b.size
  | .nil => Nat.le_refl _
  | .dd _ k => by have := nest_size k; simp only [Bd.nest, Bd.size]; omega
  | .ch _ y n k => by have := nest_size k; have := nest_size y; have := nest_size n; simp only [Bd.nest, Bd.size]; omega
  | .bk b k => by have := nest_size k; have := nest_size b; simp only [Bd.nest, Bd.size]; omega
  | .lp b k => by have := nest_size k; have := nest_size b; simp only [Bd.nest, Bd.size]; omega
  | .lv _ k => by have := nest_size k; simp only [Bd.nest, Bd.size]; omega
  | .ag _ k => by have := nest_size k; simp only [Bd.nest, Bd.size]; omega
  | .st k => by have := nest_size k; simp only [Bd.nest, Bd.size]; omega
theorem tl_nest (b : Bd) : b.tl.nest ≤ b.nest := by
  cases b <;> simp only [Bd.tl, Bd.nest] <;> omega
theorem drop_nest : ∀ (p : Nat) (b : Bd), (b.drop p).nest ≤ b.nest
  | 0, b => by rw [Bd.drop_zero]; exact Nat.le_refl _
  | p + 1, b => by
    rw [Bd.drop_succ]
    exact Nat.le_trans (drop_nest p b.tl) (tl_nest b)
/-- the rows that stand in a body; n: how deep it goes -/
def spTold (K : PySem.W.Frag) (n : Nat) : Sp := FSp (G := Addr × Bd) (fun g vs H => vs = [.ref g.1] ∧ BdAt K H g.1 g.2 ∧ g.2.nest ≤ n ∧ g.2.size ≤ 50000) (fun g H1 v H2 => LstNew (nv g.2.told) H1 v H2)
def spTold' (K : PySem.W.Frag) : Nat → Sp
  | 0 => fun _ _ _ _ => False
  | n + 1 => spTold K n
section
variable {σ : L2.St} {ta tb tc td : TE} {D : Ends} {E : XK} {tz : TS}
theorem el_catL {xs ys : List V} (ha : EvL ta σ H xs) (hb : EvL tb σ H ys) (hl : xs.length + ys.length ≤ 100000) : EvL (tOp rCat ta tb) σ H (xs ++ ys) :=
  el_cat ha.toR (fun x H1 H2 e e2 _ => (hb.mono (e.trans e2)).toR) hl fun x y H1 H2 H3 e e2 ⟨p, h1, _, h2⟩ e3 ⟨q, h3, _, h4⟩ => ⟨p, q, h1, h3, e3 _ _ h2, h4⟩
theorem el_catV {a : Addr} {xs ys : List V} (ha : Ev ta σ H (.ref a)) (h : H a = some (.lst xs)) (hb : EvL tb σ H ys) (hl : xs.length + ys.length ≤ 100000) : EvL (tOp rCat ta tb) σ H (xs ++ ys) :=
  el_cat ha.toR (fun x H1 H2 e e2 _ => (hb.mono (e.trans e2)).toR) hl fun x y H1 H2 H3 e e2 h1 e3 ⟨q, h3, _, h4⟩ => ⟨a, q, h1, h3, e3 _ _ (e2 _ _ (e _ _ h)), h4⟩
theorem el_told {n : Nat} {a : Addr} {b : Bd} (h : Ev ta σ H (.ref a)) (hb : BdAt K H a b) (hn : b.nest ≤ n) (hz : b.size ≤ 50000) : EvL (tCall (spTold K n) [] E (tCons ta tNil)) σ H (nv b.told) :=
  EvR.l ((ev_callA (a, b) (ea_cons h ea_nil) (fun H1 e1 => ⟨rfl, hb.ex e1, hn, hz⟩) (fun H1 H2 H3 v e h => h.back _ _ _ _ e)).imp fun _ _ _ _ _ h => h)
end
theorem nv_append (a b : List Nat) : nv (a ++ b) = nv a ++ nv b := List.map_append ..
theorem told_drop_len {b : Bd} : (b.drop b.len).told = [] := by
  rw [(Bd.drop_isNil _ _ (Nat.le_refl _)).mpr rfl]
  rfl
end
end U

/-! A tuple told once or not at all; tuples of deeds -/
namespace U
open PySem PySem.Spec PyProof.Rows L2 Evl
theorem tup_mul0 (l : Addr) (items : Array Value) (n : Nat) (dd : Option Addr) (sl : Array (Option Value)) (u : Tok) (c1 : items.isEmpty = false) :
    Meets (Builtin.«tuple.__mul__» ⟨[.ref l, .int 0 u], []⟩) (fun _ R s => s.heap.get? l = some { cls := .type "tuple", dict := dd, data := .seq items n, slots := sl } ∧
      R (.ok (.ret (Value.ref s.heap.objs.size))) { s with heap := s.heap.push { cls := Value.type "tuple", data := Data.seq #[] }, toks := s.toks }) :=
  .of_wp fun prog w A R s h => by
    obtain ⟨hp, g, d, tk, os⟩ := s
    obtain ⟨hl, h⟩ := h
    have f1 := AutoSeq1.idx_int
    wp_walk using wpAny_loadPart' hl
    exact ⟨_, rfl, h⟩
theorem tup_mul1 (l : Addr) (items : Array Value) (n : Nat) (dd : Option Addr) (sl : Array (Option Value)) (u : Tok) (c1 : items.isEmpty = false) :
    Meets (Builtin.«tuple.__mul__» ⟨[.ref l, .int 1 u], []⟩) (fun _ R s => s.heap.get? l = some { cls := .type "tuple", dict := dd, data := .seq items n, slots := sl } ∧
      R (.ok (.ret (Value.ref l))) s) :=
  .of_wp fun prog w A R s h => by
    obtain ⟨hp, g, d, tk, os⟩ := s
    obtain ⟨hl, h⟩ := h
    have f1 := AutoSeq1.idx_int
    wp_walk using wpAny_loadPart' hl
    exact ⟨_, rfl, h⟩
/-- t * 0, t * 1 -/
def rRepB (K : PySem.W.Frag) : R2 := fun x y H Q => ∃ l k xs, x = .ref l ∧ y = .int k ∧ SqT K H l xs ∧ xs ≠ [] ∧ ((k = 0 ∧ ∀ p, H p = none → Q (.ref p) (upd H p (.tup []))) ∨ (k = 1 ∧ Q (.ref l) H))
section
variable {X : Cx}
theorem op_repB : OpR X (binaryOp .Mult) (rRepB X.K) := by
  intro pins s σ H x y v u Q I rx ry h
  obtain ⟨l, k, xs, rfl, rfl, hT, hne, q⟩ := h
  cases rx
  obtain ⟨t, rfl⟩ := ry
  obtain ⟨its, r, ⟨⟨cls, dd, data, sl⟩, ho, hc, n, hd⟩, hs⟩ := I.tuple hT
  simp only at hc hd
  subst hc hd
  have hi : its.toArray.isEmpty = false := by
    cases its with
    | nil => exact absurd (List.eq_nil_of_length_eq_zero r.length) hne
    | cons a b => rfl
  rcases q with ⟨rfl, q⟩ | ⟨rfl, q⟩
  · refine wpAny_binaryOp_repeat_ref (T := "tuple") (U := "int") (by decide) ⟨_, ho, rfl⟩ (fun s' => typeIs_int s' 0 t) noFill_tuple_mul F.fills_int_mul F.slot_int_rmul repeat_tuple F.slot_int_index.lookup
      (call_meets F.slot_int_rmul (typeIs_int s 0 t) F.entry_int_rmul (F.args_int_rmul_2 _ _) (int_rmul_tuple 0 t l its.toArray n dd sl)
        ⟨ho, rfl, ⟨_, ho, rfl⟩, call_meets F.slot_tuple_mul ⟨_, ho, rfl⟩ F.entry_tuple_mul (F.args_tuple_mul_2 _ _) (tup_mul0 l its.toArray n dd sl t hi) ⟨ho, ?_⟩⟩)
    refine ⟨.ref s.heap.objs.size, _, I.laid (t' := s.toks) (o := .tup []) (fun b ob q => Heap.get?_push_of_some _ q) (Nat.le_refl _) ?_, rfl, q _ (I.hok.fresh (Nat.le_refl _))⟩
    exact ⟨Nat.zero_le _, [], .nil, IsTup.new _ _⟩
  · refine wpAny_binaryOp_repeat_ref (T := "tuple") (U := "int") (by decide) ⟨_, ho, rfl⟩ (fun s' => typeIs_int s' 1 t) noFill_tuple_mul F.fills_int_mul F.slot_int_rmul repeat_tuple F.slot_int_index.lookup
      (call_meets F.slot_int_rmul (typeIs_int s 1 t) F.entry_int_rmul (F.args_int_rmul_2 _ _) (int_rmul_tuple 1 t l its.toArray n dd sl)
        ⟨ho, rfl, ⟨_, ho, rfl⟩, call_meets F.slot_tuple_mul ⟨_, ho, rfl⟩ F.entry_tuple_mul (F.args_tuple_mul_2 _ _) (tup_mul1 l its.toArray n dd sl t hi) ⟨ho, ?_⟩⟩)
    exact ⟨.ref l, H, I, rfl, q⟩
theorem k_repB {K : PySem.W.Frag} (h : X.K = K) : OpR X (binaryOp .Mult) (rRepB K) := h ▸ op_repB
end
section
variable {K : PySem.W.Frag} {F H H' : Hp} {σ : L2.St} {ta tb te tc : TE} {D : Ends} {E : XK} {tz : TS}
def IsBd (K : PySem.W.Frag) (b : Bd) (_ : Hp) (v : V) (H2 : Hp) : Prop := ∃ a, v = .ref a ∧ BdAt K H2 a b
def IsOne (K : PySem.W.Frag) (d : Bd) (_ : Hp) (v : V) (H2 : Hp) : Prop := ∃ t, v = .ref t ∧ BsAt K H2 d [.ref t]
theorem ev_one {xs : List V} {d : Bd} (h : EvU te σ H xs) (hd : ∀ t H2, Ex H H2 → H2 t = some (.tup xs) → BsAt K H2 d [.ref t]) : EvR te σ H (IsOne K d) := fun H1 e Q q => h H1 e _ fun p H2 hp e2 h2 => q _ H2 e2 ⟨p, rfl, hd p H2 (e.trans e2) h2⟩
theorem ev_bd0 : EvR (tTup tNil) σ H (IsBd K .nil) := (eu_tup (vs := []) ea_nil (by show 0 ≤ 100000; decide)).toR.imp fun H1 v H2 _ _ ⟨p, h1, _, h2⟩ => ⟨p, h1, [], SqT.of h2, rfl⟩
theorem ev_bd1 {d : Bd} (h : EvR te σ H (IsOne K d)) : EvR (tTup (tCons te tNil)) σ H (IsBd K d) :=
  (er_tup (R := fun vs H' => ∃ t, vs = [.ref t] ∧ BsAt K H' d [.ref t]) (ear_cons h fun H1 x H2 e e2 ⟨t, ex, hb⟩ => fun H3 e3 Q q => q [] H3 (Ex.refl H3) ⟨t, by rw [ex], hb.ex e3⟩) (fun vs H1 ⟨t, ew, _⟩ => by rw [ew]; show 1 ≤ 100000; decide)).imp
    fun H1 v H2 _ _ ⟨p, vs, Hx, h1, _, _, ⟨t, ew, hb⟩, _, e2, h2⟩ => ⟨p, h1, vs, SqT.of h2, by rw [ew]; exact hb.ex e2⟩
theorem ev_bd2 {d d2 : Bd} (h : EvR te σ H (IsOne K d)) (hc : EvR tc σ H (IsOne K d2)) : EvR (tTup (tCons te (tCons tc tNil))) σ H (IsBd K (d.app d2)) :=
  (er_tup (R := fun vs H' => ∃ t u, vs = [.ref t, .ref u] ∧ BsAt K H' d [.ref t] ∧ BsAt K H' d2 [.ref u]) (ear_cons h fun H1 x H2 e e2 ⟨t, ex, hb⟩ => ear_cons (hc.mono (e.trans e2)) fun H3 y H4 e3 e4 ⟨u, ey, hb2⟩ => fun H5 e5 Q q => q [] H5 (Ex.refl H5) ⟨t, u, by rw [ex, ey], hb.ex ((e3.trans e4).trans e5), hb2.ex e5⟩)
    (fun vs H1 ⟨t, u, ew, _⟩ => by rw [ew]; show 2 ≤ 100000; decide)).imp
    fun H1 v H2 _ _ ⟨p, vs, Hx, h1, _, _, ⟨t, u, ew, hb, hb2⟩, _, e2, h2⟩ => ⟨p, h1, vs, SqT.of h2, by rw [ew]; exact BsAt.app (hb2.ex e2) (hb.ex e2)⟩
theorem BsAt.nil_of {b : Bd} (h : BsAt K H b []) : b = .nil := by
  have h1 := h.len
  cases b <;> first | rfl | exact absurd h1 (by show ¬ 0 = _ + 1; omega)
theorem Bd.app_nil : ∀ b : Bd, b.app .nil = b
  | .nil => rfl
  | .dd _ k => by rw [Bd.app, Bd.app_nil k]
  | .ch _ _ _ k => by rw [Bd.app, Bd.app_nil k]
  | .bk _ k => by rw [Bd.app, Bd.app_nil k]
  | .lp _ k => by rw [Bd.app, Bd.app_nil k]
  | .lv _ k => by rw [Bd.app, Bd.app_nil k]
  | .ag _ k => by rw [Bd.app, Bd.app_nil k]
  | .st k => by rw [Bd.app, Bd.app_nil k]
theorem ev_catB {b c : Bd} (ha : EvR ta σ H (IsBd K b)) (hb : EvR tb σ H (IsBd K c)) (hz : b.size + c.size ≤ 50000) : EvR (tOp (rCatA K) ta tb) σ H (IsBd K (b.app c)) :=
  evr_op ha (fun x H1 H2 e e2 _ => hb.mono (e.trans e2)) fun x y H1 H2 H3 e e2 ⟨p, ep, xs, hxs, hbx⟩ e3 ⟨q, eq, ys, hys, hcy⟩ Q k => by
    subst ep
    subst eq
    have hxs3 := ex_t e3 hxs
    have hbx3 := hbx.ex e3
    have l1 := hbx.len
    have l2 := hcy.len
    have l3 := Bd.len_le b
    have l4 := Bd.len_le c
    refine ⟨p, q, xs, ys, rfl, rfl, hxs3, hys, sz_of (by omega), fun h0 => ?_, fun _ h0 => ?_, fun _ _ r hr => ?_⟩
    · subst h0
      have hb0 := hbx3.nil_of
      subst hb0
      exact k _ H3 (Ex.refl H3) ⟨q, rfl, ys, hys, hcy⟩
    · subst h0
      have hb0 := hcy.nil_of
      subst hb0
      rw [Bd.app_nil] at k
      exact k _ H3 (Ex.refl H3) ⟨p, rfl, xs, hxs3, hbx3⟩
    · have er : Ex H3 (upd H3 r (.tup (xs ++ ys))) := Ex.new hr
      exact k _ _ er ⟨r, rfl, xs ++ ys, SqT.of upd_same, BsAt.app (hcy.ex er) (hbx3.ex er)⟩
theorem ev_repB {b : Bd} {k : Int} (hn : b ≠ .nil) (ha : EvR ta σ H (IsBd K b)) (hb : Ev tb σ H (.int k)) (hk : k = 0 ∨ k = 1) : EvR (tOp (rRepB K) ta tb) σ H (IsBd K (if k = 0 then .nil else b)) :=
  evr_op ha (fun x H1 H2 e e2 _ => (hb.mono (e.trans e2)).toR) fun x y H1 H2 H3 e e2 ⟨p, ep, xs, hxs, hbx⟩ e3 ey Q q => by
    subst ep
    subst ey
    have hx : xs ≠ [] := fun z => by
      subst z
      exact hn hbx.nil_of
    refine ⟨p, k, xs, rfl, rfl, ex_t e3 hxs, hx, ?_⟩
    rcases hk with z | z
    · subst z
      exact Or.inl ⟨rfl, fun r hr => q _ _ (Ex.new hr) ⟨r, rfl, [], SqT.of upd_same, rfl⟩⟩
    · subst z
      exact Or.inr ⟨rfl, q _ _ (Ex.refl H3) ⟨p, rfl, xs, ex_t e3 hxs, hbx.ex e3⟩⟩
/-! ### the law's bodies -/
def A2 (r : Nat) : Prop := r < 2
def M2 (r : Nat) : Prop := 2 ≤ r ∧ r < 4
def Made (K : PySem.W.Frag) (n m : Nat) (H1 : Hp) (v : V) (H2 : Hp) : Prop := ∃ b : Bd, b.ok A2 M2 n false ∧ b.size ≤ m ∧ IsBd K b H1 v H2
def spSide (K : PySem.W.Frag) (m : Nat) : Sp := FSp (G := Int × Addr × List Str) (fun g vs H => vs = [.int g.1, .ref g.2.1] ∧ SqL K H g.2.1 (g.2.2.map V.str) ∧ g.2.2.length ≤ 1000) (fun g H1 v H2 => Made K g.2.2.length m H1 v H2)
theorem one_do {r : Nat} (h : Ev te σ H (.int (r : Int))) : EvR (tTup (tCons (tC (.str ("do" : Str))) (tCons te tNil))) σ H (IsOne K (.dd r .nil)) :=
  ev_one (eu_tup (vs := [.str ("do" : Str), .int (r : Int)]) (ea_cons ev_c (ea_cons h ea_nil)) (by show 2 ≤ 100000; decide)) fun t H2 _ h2 => ⟨t, [], rfl, SqT.of h2, rfl⟩
theorem one_stop : EvR (tTup (tCons (tC (.str ("stop" : Str))) tNil)) σ H (IsOne K (.st .nil)) :=
  ev_one (eu_tup (vs := [.str ("stop" : Str)]) (ea_cons ev_c ea_nil) (by show 1 ≤ 100000; decide)) fun t H2 _ h2 => ⟨t, [], rfl, SqT.of h2, rfl⟩
def outB (ag : Bool) (d : Nat) (k : Bd) : Bd := if ag then .ag d k else .lv d k
theorem one_out {ag : Bool} {d : Nat} (h1 : Ev ta σ H (.str (outWord ag))) (h : Ev te σ H (.int (d : Int))) : EvR (tTup (tCons ta (tCons te tNil))) σ H (IsOne K (outB ag d .nil)) :=
  ev_one (eu_tup (vs := [.str (outWord ag), .int (d : Int)]) (ea_cons h1 (ea_cons h ea_nil)) (by show 2 ≤ 100000; decide)) fun t H2 _ h2 => by
    cases ag
    · exact ⟨t, [], rfl, SqT.of h2, rfl⟩
    · exact ⟨t, [], rfl, SqT.of h2, rfl⟩
theorem doOut_ok {r d n : Nat} {ag : Bool} (hr : r < 2) (hd : d < n) : ((Bd.dd r .nil).app (outB ag d .nil)).ok A2 M2 n false ∧ ((Bd.dd r .nil).app (outB ag d .nil)).size ≤ 4 := by
  cases ag
  · exact ⟨⟨hr, hd, trivial⟩, Nat.le_refl 4⟩
  · exact ⟨⟨hr, hd, rfl, trivial⟩, Nat.le_refl 4⟩
end
/-! ### the frames of the law's bodies: 0 the whole, 1 block, 2 loop, 3 yes, 4 no -/
section
variable {K : PySem.W.Frag} {F H H' : Hp} {σ : L2.St} {ta tb te tc : TE} {D : Ends} {E : XK} {tz : TS}
structure Fm where
  w : Nat
  row : Nat
  b : Bd
  c : Bd
def fmword (k : Nat) : Str := if k = 0 then ("whole" : Str) else if k = 1 then ("block" : Str) else if k = 2 then ("loop" : Str) else if k = 3 then ("yes" : Str) else ("no" : Str)
def isBL (k : Nat) : Bool := decide (k = 1) || decide (k = 2)
def cntw (fs : List Fm) : Nat := ((fs.map Fm.w).filter isBL).length
theorem cntw_cons (f : Fm) (fs : List Fm) : cntw (f :: fs) = (if isBL f.w then 1 else 0) + cntw fs := by
  unfold cntw
  rw [List.map_cons, List.filter_cons]
  split
  · rw [List.length_cons, Nat.add_comm]
  · rw [Nat.zero_add]
theorem given_map {α : Type} (l : List Nat) (p : Nat → Bool) (g : Nat → V) : given l.length (fun i => p (l.getD i 0)) (fun i => g (l.getD i 0)) = (l.filter p).map g := by
  have e : l = (List.range l.length).map (fun i => l.getD i 0) := by
    refine List.ext_getElem? fun i => ?_
    rw [List.getElem?_map]
    by_cases h : i < l.length
    · rw [List.getElem?_range h, List.getElem?_eq_getElem h, Option.map_some, List.getD_eq_getElem?_getD, List.getElem?_eq_getElem h]
      rfl
    · rw [List.getElem?_eq_none (by omega), List.getElem?_eq_none (by rw [List.length_range]; omega)]
      rfl
  have h2 : (l.filter p).map g = (((List.range l.length).map (fun i => l.getD i 0)).filter p).map g := by rw [← e]
  rw [h2, List.filter_map]
  unfold given
  rw [List.map_map]
  rfl
def OkF : List Fm → Prop
  | [] => False
  | [f] => f.w = 0 ∧ f.b.ok A2 M2 0 false
  | f :: g :: fs => (f.w = 1 ∨ f.w = 2 ∨ f.w = 3 ∨ f.w = 4) ∧ f.b.ok A2 M2 (cntw (f :: g :: fs)) false ∧ f.c.ok A2 M2 (cntw (f :: g :: fs)) false ∧ M2 f.row ∧ OkF (g :: fs)
def szF : List Fm → Nat
  | [] => 0
  | f :: fs => f.b.size + f.c.size + 2 + szF fs
def msF : List Fm → Nat
  | [] => 0
  | f :: fs => (if f.w = 3 then 2 else 1) + msF fs
/-- the frame put in place when the uppermost one is closed -/
def closeF : List Fm → List Fm
  | f :: g :: fs => if f.w = 3 then ⟨4, f.row, .nil, f.b⟩ :: g :: fs else
      ⟨g.w, g.row, g.b.app (if f.w = 1 then .bk f.b .nil else if f.w = 2 then .lp f.b .nil else .ch f.row f.c f.b .nil), g.c⟩ :: fs
  | fs => fs
theorem okF_set {f g : Fm} {fs : List Fm} (h : OkF (f :: fs)) (hw : g.w = f.w) (hr : g.row = f.row) (hc : g.c = f.c) (hb : g.b.ok A2 M2 (cntw (f :: fs)) false) : OkF (g :: fs) := by
  have hn : cntw (g :: fs) = cntw (f :: fs) := by rw [cntw_cons, cntw_cons, hw]
  cases fs with
  | nil =>
    have h : f.w = 0 ∧ f.b.ok A2 M2 0 false := h
    have z : cntw [f] = 0 := by
      rw [cntw_cons, h.1]
      rfl
    rw [z] at hb
    exact ⟨hw.trans h.1, hb⟩
  | cons g2 fs =>
    obtain ⟨h1, h2, h3, h4, h5⟩ := h
    refine ⟨by rw [hw]; exact h1, by rw [hn]; exact hb, by rw [hn, hc]; exact h3, by rw [hr]; exact h4, h5⟩
theorem okF_b {f : Fm} {fs : List Fm} (h : OkF (f :: fs)) : f.b.ok A2 M2 (cntw (f :: fs)) false := by
  cases fs with
  | nil =>
    have h : f.w = 0 ∧ f.b.ok A2 M2 0 false := h
    have z : cntw [f] = 0 := by
      rw [cntw_cons, h.1]
      rfl
    rw [z]
    exact h.2
  | cons g2 fs => exact h.2.1
theorem close_ok {f g : Fm} {fs : List Fm} (h : OkF (f :: g :: fs)) : OkF (closeF (f :: g :: fs)) ∧ szF (closeF (f :: g :: fs)) ≤ szF (f :: g :: fs) ∧ msF (closeF (f :: g :: fs)) < msF (f :: g :: fs) ∧ (closeF (f :: g :: fs)).length ≤ (f :: g :: fs).length := by
  obtain ⟨h1, h2, h3, h4, h5⟩ := h
  by_cases hw : f.w = 3
  · have e : closeF (f :: g :: fs) = ⟨4, f.row, .nil, f.b⟩ :: g :: fs := if_pos hw
    have hn : cntw (⟨4, f.row, .nil, f.b⟩ :: g :: fs) = cntw (f :: g :: fs) := by
      rw [cntw_cons ⟨4, f.row, .nil, f.b⟩, cntw_cons f, hw]
      rfl
    rw [e]
    refine ⟨⟨Or.inr (Or.inr (Or.inr rfl)), trivial, by rw [hn]; exact h2, h4, h5⟩, ?_, ?_, Nat.le_refl _⟩
    · show 0 + f.b.size + 2 + szF (g :: fs) ≤ f.b.size + f.c.size + 2 + szF (g :: fs)
      omega
    · show (if (4 : Nat) = 3 then 2 else 1) + msF (g :: fs) < (if f.w = 3 then 2 else 1) + msF (g :: fs)
      rw [if_pos hw, if_neg (by decide)]
      omega
  · have e : closeF (f :: g :: fs) = ⟨g.w, g.row, g.b.app (if f.w = 1 then .bk f.b .nil else if f.w = 2 then .lp f.b .nil else .ch f.row f.c f.b .nil), g.c⟩ :: fs := if_neg hw
    rw [e]
    have hg := okF_b h5
    have hd : (if f.w = 1 then Bd.bk f.b .nil else if f.w = 2 then .lp f.b .nil else .ch f.row f.c f.b .nil).ok A2 M2 (cntw (g :: fs)) false ∧ (if f.w = 1 then Bd.bk f.b .nil else if f.w = 2 then .lp f.b .nil else .ch f.row f.c f.b .nil).size ≤ f.b.size + f.c.size + 2 := by
      rw [cntw_cons] at h2 h3
      by_cases w1 : f.w = 1
      · rw [if_pos w1]
        rw [w1, show (if isBL 1 then 1 else 0) = 1 from rfl, Nat.add_comm] at h2
        exact ⟨⟨h2, trivial⟩, by simp only [Bd.size]; omega⟩
      · rw [if_neg w1]
        by_cases w2 : f.w = 2
        · rw [if_pos w2]
          rw [w2, show (if isBL 2 then 1 else 0) = 1 from rfl, Nat.add_comm] at h2
          exact ⟨⟨h2, trivial⟩, by simp only [Bd.size]; omega⟩
        · rw [if_neg w2]
          have w4 : f.w = 4 := by omega
          rw [w4, show (if isBL 4 then 1 else 0) = 0 from rfl, Nat.zero_add] at h2 h3
          exact ⟨⟨h4, Bd.ok_mono h3, Bd.ok_mono h2, trivial⟩, by simp only [Bd.size]; omega⟩
    refine ⟨okF_set (f := g) h5 rfl rfl rfl (Bd.ok_app hg hd.1), ?_, ?_, ?_⟩
    · show (Bd.app _ _).size + g.c.size + 2 + szF fs ≤ f.b.size + f.c.size + 2 + (g.b.size + g.c.size + 2 + szF fs)
      rw [Bd.size_app]
      have := hd.2
      omega
    · show (if g.w = 3 then 2 else 1) + msF fs < (if f.w = 3 then 2 else 1) + ((if g.w = 3 then 2 else 1) + msF fs)
      rw [if_neg hw]
      omega
    · simp only [List.length_cons]
      omega
theorem closeF_yes {f g : Fm} {fs : List Fm} (h : f.w = 3) : closeF (f :: g :: fs) = ⟨4, f.row, .nil, f.b⟩ :: g :: fs := if_pos h
theorem closeF_bk {f g : Fm} {fs : List Fm} (h : f.w = 1) : closeF (f :: g :: fs) = ⟨g.w, g.row, g.b.app (.bk f.b .nil), g.c⟩ :: fs := by
  have e : closeF (f :: g :: fs) = ⟨g.w, g.row, g.b.app (if f.w = 1 then .bk f.b .nil else if f.w = 2 then .lp f.b .nil else .ch f.row f.c f.b .nil), g.c⟩ :: fs := if_neg (by omega)
  rw [e, if_pos h]
theorem closeF_lp {f g : Fm} {fs : List Fm} (h : f.w = 2) : closeF (f :: g :: fs) = ⟨g.w, g.row, g.b.app (.lp f.b .nil), g.c⟩ :: fs := by
  have e : closeF (f :: g :: fs) = ⟨g.w, g.row, g.b.app (if f.w = 1 then .bk f.b .nil else if f.w = 2 then .lp f.b .nil else .ch f.row f.c f.b .nil), g.c⟩ :: fs := if_neg (by omega)
  rw [e, if_neg (by omega), if_pos h]
theorem closeF_no {f g : Fm} {fs : List Fm} (h3 : f.w ≠ 3) (h1 : f.w ≠ 1) (h2 : f.w ≠ 2) : closeF (f :: g :: fs) = ⟨g.w, g.row, g.b.app (.ch f.row f.c f.b .nil), g.c⟩ :: fs := by
  have e : closeF (f :: g :: fs) = ⟨g.w, g.row, g.b.app (if f.w = 1 then .bk f.b .nil else if f.w = 2 then .lp f.b .nil else .ch f.row f.c f.b .nil), g.c⟩ :: fs := if_neg h3
  rw [e, if_neg h1, if_neg h2]
theorem szF_len : ∀ fs : List Fm, 2 * fs.length ≤ szF fs
  | [] => Nat.le_refl _
  | f :: fs => by
    have := szF_len fs
    simp only [List.length_cons, szF]
    omega
def KeepT (K : PySem.W.Frag) (H H' : Hp) : Prop := ∀ t xs, SqT K H t xs → SqT K H' t xs
theorem KeepT.ex (e : Ex H H') : KeepT K H H' := fun _ _ h => ex_t e h
theorem KeepT.trans {H1 : Hp} (a : KeepT K H H1) (b : KeepT K H1 H') : KeepT K H H' := fun t xs h => b t xs (a t xs h)
theorem KeepT.upd {a : Addr} {xs : List V} {o : HO} (h : H a = some (.lst xs)) : KeepT K H (upd H a o) := fun t ys ht => by
  rcases ht with (z | ⟨u, z⟩) | z
  · exact Or.inl (Or.inl (by rw [upd_ne (fun y => by subst y; rw [h] at z; cases z)]; exact z))
  · exact Or.inl (Or.inr ⟨u, by rw [upd_ne (fun y => by subst y; rw [h] at z; cases z)]; exact z⟩)
  · exact Or.inr z
theorem BdAt.keep {a : Addr} {b : Bd} (k : KeepT K H H') (h : BdAt K H a b) : BdAt K H' a b := by
  obtain ⟨ts, h1, h2⟩ := h
  exact ⟨ts, k _ _ h1, h2.mono k⟩
def fmV (f : Fm) (pb pc : Addr) : List V := [.str (fmword f.w), .int (f.row : Int), .ref pb, .ref pc]
def FmsB (K : PySem.W.Frag) (H : Hp) : List Fm → List Addr → Prop
  | [], ts => ts = []
  | f :: fs, ts => ∃ t us pb pc, ts = t :: us ∧ H t = some (.lst (fmV f pb pc)) ∧ BdAt K H pb f.b ∧ BdAt K H pc f.c ∧ FmsB K H fs us
theorem FmsB.keep : ∀ {fs : List Fm} {ts : List Addr}, KeepT K H H' → (∀ t, t ∈ ts → ∀ o, H t = some o → H' t = some o) → FmsB K H fs ts → FmsB K H' fs ts
  | [], _, _, _, h => h
  | _ :: _, _, k, e, h => by
    obtain ⟨t, us, p, ps, rfl, h1, h2, h3, h4⟩ := h
    exact ⟨t, us, p, ps, rfl, e t (List.mem_cons_self ..) _ h1, h2.keep k, h3.keep k, FmsB.keep k (fun t ht => e t (List.mem_cons_of_mem _ ht)) h4⟩
theorem FmsB.len : ∀ {fs : List Fm} {ts : List Addr}, FmsB K H fs ts → ts.length = fs.length
  | [], ts, h => by
    have h : ts = [] := h
    rw [h]
    rfl
  | _ :: _, _, h => by
    obtain ⟨t, us, p, ps, rfl, h1, h2, h3, h4⟩ := h
    rw [List.length_cons, List.length_cons, FmsB.len h4]
theorem FmsB.nn : ∀ {fs : List Fm} {ts : List Addr}, FmsB K H fs ts → ∀ t, t ∈ ts → H t ≠ none
  | [], ts, h, t, ht => by
    have h : ts = [] := h
    subst h
    cases ht
  | _ :: _, _, h, t', ht => by
    obtain ⟨t, us, p, ps, rfl, h1, h2, h3, h4⟩ := h
    rcases List.mem_cons.mp ht with z | z
    · subst z
      rw [h1]
      exact Option.some_ne_none _
    · exact FmsB.nn h4 t' z
theorem FmsB.get : ∀ {fs : List Fm} {ts : List Addr}, FmsB K H fs ts → ∀ (i : Nat) (t : Addr), ts[i]? = some t → ∃ f pb pc, fs[i]? = some f ∧ H t = some (.lst (fmV f pb pc)) ∧ BdAt K H pb f.b
  | [], ts, h, i, t, ht => by
    have h : ts = [] := h
    subst h
    cases ht
  | f :: _, _, h, i, t', ht => by
    obtain ⟨t, us, p, ps, rfl, h1, h2, h3, h4⟩ := h
    cases i with
    | zero =>
      have ht := Option.some.inj ht
      subst ht
      exact ⟨f, p, ps, rfl, h1, h2⟩
    | succ i => exact FmsB.get h4 i t' ht
def FmsAt (K : PySem.W.Frag) (F H : Hp) (fl : Addr) (fs : List Fm) : Prop := ∃ ts : List Addr, H fl = some (.lst (ts.reverse.map V.ref)) ∧ F fl = none ∧ fl ∉ ts ∧ ts.Nodup ∧ (∀ t, t ∈ ts → F t = none) ∧ FmsB K H fs ts
theorem FmsAt.ex {fl : Addr} {fs : List Fm} (h : FmsAt K F H fl fs) (e : Ex H H') : FmsAt K F H' fl fs := by
  obtain ⟨ts, h1, h2, h3, h4, h5, h6⟩ := h
  exact ⟨ts, e _ _ h1, h2, h3, h4, h5, h6.keep (KeepT.ex e) fun t _ o => e t o⟩
theorem FmsAt.top {fl : Addr} {f : Fm} {fs : List Fm} (h : FmsAt K F H fl (f :: fs)) : ∃ t us pb pc, H fl = some (.lst (us ++ [.ref t])) ∧ us.length = fs.length ∧ t ≠ fl ∧ F t = none ∧ F fl = none ∧ H t = some (.lst (fmV f pb pc)) ∧ BdAt K H pb f.b ∧ BdAt K H pc f.c ∧
    (∀ H', KeepT K H H' → (∀ a o, a ≠ fl → H a = some o → H' a = some o) → H' fl = some (.lst us) → FmsAt K F H' fl fs) ∧
    (∀ H' (g : Fm) (pb' pc' : Addr), KeepT K H H' → (∀ a o, a ≠ t → H a = some o → H' a = some o) → H' t = some (.lst (fmV g pb' pc')) → BdAt K H' pb' g.b → BdAt K H' pc' g.c → FmsAt K F H' fl (g :: fs)) := by
  obtain ⟨ts, h1, h2, h3, h4, h5, h6⟩ := h
  obtain ⟨t, us, pb, pc, rfl, q1, q2, q3, q4⟩ := h6
  rw [List.nodup_cons] at h4
  rw [List.mem_cons, not_or] at h3
  have e : (t :: us).reverse.map V.ref = us.reverse.map V.ref ++ [.ref t] := by
    rw [List.reverse_cons, List.map_append]
    rfl
  rw [e] at h1
  refine ⟨t, us.reverse.map V.ref, pb, pc, h1, by rw [List.length_map, List.length_reverse, q4.len], Ne.symm h3.1, h5 t (List.mem_cons_self ..), h2, q1, q2, q3, fun H' kt k hp => ?_, fun H' g pb' pc' kt k hp g1 g2 => ?_⟩
  · exact ⟨us, hp, h2, h3.2, h4.2, fun u hu => h5 u (List.mem_cons_of_mem _ hu), q4.keep kt fun u hu o ho => k u o (fun z => by subst z; exact h3.2 hu) ho⟩
  · refine ⟨t :: us, ?_, h2, by rw [List.mem_cons, not_or]; exact h3, List.nodup_cons.mpr h4, h5, t, us, pb', pc', rfl, hp, g1, g2, q4.keep kt fun u hu o ho => k u o (fun z => by subst z; exact h4.1 hu) ho⟩
    rw [e]
    exact k fl _ h3.1 h1
theorem FmsAt.push {fl t pb pc : Addr} {f : Fm} {fs : List Fm} {xs : List V} {H1 : Hp} (h : FmsAt K F H fl fs) (ef : Ex F H) (hx : H fl = some (.lst xs)) (ht : H t = none) (h1 : H1 t = some (.lst (fmV f pb pc))) (e : Ex H H1) (hb : BdAt K H1 pb f.b) (hc : BdAt K H1 pc f.c)
    (kt : KeepT K H1 H') (k : ∀ a o, a ≠ fl → H1 a = some o → H' a = some o) (hl : H' fl = some (.lst (xs ++ [.ref t]))) : FmsAt K F H' fl (f :: fs) := by
  obtain ⟨ts, h1', h2, h3, h4, h5, h6⟩ := h
  rw [h1'] at hx
  have hx := HO.lst.inj (Option.some.inj hx)
  subst hx
  have tp : t ≠ fl := fun z => by
    subst z
    rw [ht] at h1'
    cases h1'
  have tt : t ∉ ts := fun z => h6.nn t z ht
  refine ⟨t :: ts, ?_, h2, by rw [List.mem_cons, not_or]; exact ⟨Ne.symm tp, h3⟩, List.nodup_cons.mpr ⟨tt, h4⟩, fun u hu => ?_, t, ts, pb, pc, rfl, k t _ tp h1, hb.keep kt, hc.keep kt, h6.keep ((KeepT.ex e).trans kt) fun u hu o ho => k u o (fun z => by subst z; exact h3 hu) (e u o ho)⟩
  · rw [hl, List.reverse_cons, List.map_append]
    rfl
  · rcases List.mem_cons.mp hu with z | z
    · subst z
      exact fresh_back ef ht
    · exact h5 u z
def spClosed (K : PySem.W.Frag) : Sp := fun vs H Q _ => ∃ (F : Hp) (fl : Addr) (f g : Fm) (fs : List Fm), vs = [.ref fl] ∧ Ex F H ∧ FmsAt K F H fl (f :: g :: fs) ∧ OkF (f :: g :: fs) ∧ szF (f :: g :: fs) ≤ 40000 ∧ ∀ H', Ex F H' → FmsAt K F H' fl (closeF (f :: g :: fs)) → Q .non H'
def spBody (K : PySem.W.Frag) : Sp := FSp (G := Addr × List Int) (fun g vs H => vs = [.ref g.1] ∧ SqL K H g.1 (g.2.map V.int) ∧ g.2.length ≤ 22) (fun g H1 v H2 => Made K 0 230 H1 v H2)
theorem s_appR {l : Addr} {xs : List V} {R : Hp → V → Hp → Prop} (hl : H l = some (.lst xs)) (ha : Ev ta σ H (.ref l)) (h : EvR te σ H R) (hz : xs.length < 100000) (k : ∀ v H0 H1, Ex H H0 → Ex H0 H1 → R H0 v H1 → D.nx σ (upd H1 l (.lst (xs ++ [v])))) :
    tDrop (tBM K "list" rAppend ta (tCons te tNil)) D σ H := ha H (Ex.refl H) _ fun H1 e1 =>
  ⟨Or.inl ⟨rfl, xs, sq_of (e1 l _ hl)⟩, h H1 e1 _ fun v H2 e2 r => ⟨l, xs, v, rfl, rfl, e2 l _ (e1 l _ hl), sz_lt hz, k v H1 H2 e1 e2 r⟩⟩
theorem q_appR {l : Addr} {xs : List V} {R : Hp → V → Hp → Prop} (hl : H l = some (.lst xs)) (ha : Ev ta σ H (.ref l)) (h : EvR te σ H R) (hz : xs.length < 100000) (k : ∀ v H0 H1, Ex H H0 → Ex H0 H1 → R H0 v H1 → tz D σ (upd H1 l (.lst (xs ++ [v])))) :
    tSeq (tDrop (tBM K "list" rAppend ta (tCons te tNil))) tz D σ H := s_appR (D := { D with nx := tz D }) hl ha h hz k
theorem s_setLR {l : Addr} {xs : List V} {j : Nat} {R : Hp → V → Hp → Prop} (hl : H l = some (.lst xs)) (h : EvR te σ H R) (ho : Ev ta σ H (.ref l)) (hi : Ev tb σ H (.int (j : Int))) (hj : j < xs.length) (k : ∀ v H0 H1, Ex H H0 → R H v H0 → Ex H0 H1 → D.nx σ (upd H1 l (.lst (xs.set j v)))) :
    tAsg te (gSub ta tb rSetL) D σ H := h H (Ex.refl H) _ fun v H1 e1 r => ho H1 e1 _ fun H2 e2 => hi H2 (e1.trans e2) _ fun H3 e3 =>
  ⟨l, xs, (j : Int), j, rfl, rfl, ((e1.trans e2).trans e3) l _ hl, ixN_nat hj, k v H1 H3 e1 r (e2.trans e3)⟩
theorem ev_bdV {a : Addr} {b : Bd} (h : Ev te σ H (.ref a)) (hb : BdAt K H a b) : EvR te σ H (IsBd K b) := h.toR.imp fun H1 v H2 e e2 ev => ⟨a, ev, hb.ex (e.trans e2)⟩
theorem cat_run {b c : Bd} {p q : Addr} {H3 : Hp} {Q : VK} (hp : BdAt K H3 p b) (hq : BdAt K H3 q c) (hz : b.size + c.size ≤ 50000) (k : ∀ v H4, Ex H3 H4 → IsBd K (b.app c) H3 v H4 → Q v H4) : rCatA K (.ref p) (.ref q) H3 Q := by
  obtain ⟨xs, hxs, hbx⟩ := hp
  obtain ⟨ys, hys, hcy⟩ := hq
  have l1 := hbx.len
  have l2 := hcy.len
  have l3 := Bd.len_le b
  have l4 := Bd.len_le c
  refine ⟨p, q, xs, ys, rfl, rfl, hxs, hys, sz_of (by omega), fun h0 => ?_, fun _ h0 => ?_, fun _ _ r hr => ?_⟩
  · subst h0
    have hb0 := hbx.nil_of
    subst hb0
    exact k _ H3 (Ex.refl H3) ⟨q, rfl, ys, hys, hcy⟩
  · subst h0
    have hb0 := hcy.nil_of
    subst hb0
    rw [Bd.app_nil] at k
    exact k _ H3 (Ex.refl H3) ⟨p, rfl, xs, hxs, hbx⟩
  · have er : Ex H3 (L2.upd H3 r (.tup (xs ++ ys))) := Ex.new hr
    exact k _ _ er ⟨r, rfl, xs ++ ys, SqT.of upd_same, BsAt.app (hcy.ex er) (hbx.ex er)⟩
def Grown (K : PySem.W.Frag) (b : Bd) (n m : Nat) (H1 : Hp) (v : V) (H2 : Hp) : Prop := ∃ d : Bd, d.ok A2 M2 n false ∧ d.size ≤ m ∧ IsBd K (b.app d) H1 v H2
theorem ev_catMade {b : Bd} {n m : Nat} (ha : EvR ta σ H (IsBd K b)) (hb : EvR tb σ H (Made K n m)) (hz : b.size + m ≤ 50000) : EvR (tOp (rCatA K) ta tb) σ H (Grown K b n m) :=
  evr_op ha (fun x H1 H2 e e2 _ => hb.mono (e.trans e2)) fun x y H1 H2 H3 e e2 ⟨p, ep, hp⟩ e3 ⟨d, d1, d2, q, eq, hq⟩ Q k => by
    subst ep
    subst eq
    exact cat_run (hp.ex e3) hq (by omega) fun v H4 e4 r => k v H4 e4 ⟨d, d1, d2, r⟩
theorem eu_catU {xs ys : List V} {s : Addr} (ha : EvU ta σ H xs) (hb : Ev tb σ H (.ref s)) (hs : SqT K H s ys) (hx : xs ≠ []) (hy : ys ≠ []) (hz : xs.length + ys.length ≤ 100000) : EvU (tOp (rCatA K) ta tb) σ H (xs ++ ys) := fun H1 e Q q =>
  ha H1 e _ fun p H2 hp e2 h2 => hb H2 (e.trans e2) _ fun H3 e3 => ⟨p, s, xs, ys, rfl, rfl, SqT.of (e3 _ _ h2), ex_t ((e.trans e2).trans e3) hs, sz_of hz, fun h0 => absurd h0 hx, fun _ h0 => absurd h0 hy, fun _ _ r hr => q r _ (fresh_back (e2.trans e3) hr) ((e2.trans e3).trans (Ex.new hr)) upd_same⟩
theorem made_of {n m : Nat} {d : Bd} (h : EvR te σ H (IsBd K d)) (h1 : d.ok A2 M2 n false) (h2 : d.size ≤ m) : EvR te σ H (Made K n m) := h.imp fun _ _ _ _ _ r => ⟨d, h1, h2, r⟩
theorem okF_w : ∀ {fs : List Fm}, OkF fs → ∀ f, f ∈ fs → f.w ≤ 4
  | [], h, _, _ => h.elim
  | [f], h, g, hg => by
    have hg := List.mem_singleton.mp hg
    subst hg
    rw [h.1]
    decide
  | f :: g :: fs, h, u, hu => by
    rcases List.mem_cons.mp hu with z | z
    · subst z
      have := h.1
      omega
    · exact okF_w h.2.2.2.2 u z
theorem in_BL {w : Nat} (h : w ≤ 4) : inV (.str (fmword w)) [.str ("block" : Str), .str ("loop" : Str)] = isBL w := by
  have : w = 0 ∨ w = 1 ∨ w = 2 ∨ w = 3 ∨ w = 4 := by omega
  rcases this with z | z | z | z | z <;> subst z <;> rfl
theorem s_closed {fl : Addr} {f g : Fm} {fs : List Fm} (h1 : Ev ta σ H (.ref fl)) (eF : Ex F H) (hM : FmsAt K F H fl (f :: g :: fs)) (hO : OkF (f :: g :: fs)) (hz : szF (f :: g :: fs) ≤ 40000) (k : ∀ H', Ex F H' → FmsAt K F H' fl (closeF (f :: g :: fs)) → D.nx σ H') :
    tDrop (tCall (spClosed K) [] E (tCons ta tNil)) D σ H := h1 H (Ex.refl H) _ fun H1 e1 => ⟨F, fl, f, g, fs, rfl, eF.trans e1, hM.ex e1, hO, hz, k⟩
theorem ev_made {c : Int} {ka : Addr} {ks : List Str} {m : Nat} {n : Nat} (h1 : Ev ta σ H (.int c)) (h2 : Ev tb σ H (.ref ka)) (hk : SqL K H ka (ks.map V.str)) (hl : ks.length ≤ 1000) (hn : ks.length = n) : EvR (tCall (spSide K m) [] E (tCons ta (tCons tb tNil))) σ H (Made K n m) := by
  subst hn
  exact ev_callA (c, ka, ks) (ea_cons h1 (ea_cons h2 ea_nil)) (fun H1 e1 => ⟨rfl, ex_l e1 hk, hl⟩) (fun H1 H2 H3 v e h => h)
theorem cntw_rev (fs : List Fm) : (((fs.reverse.map Fm.w).filter isBL).map fmword).length = cntw fs := by
  rw [List.length_map, List.map_reverse, List.filter_reverse, List.length_reverse]
  rfl
theorem Bd.ok_imp {A M A' M' : Nat → Prop} (ha : ∀ r, A r → A' r) (hm : ∀ r, M r → M' r) : ∀ {b : Bd} {n : Nat} {f : Bool}, b.ok A M n f → b.ok A' M' n f
  | .nil, _, _, _ => trivial
  | .dd _ _, _, _, h => ⟨ha _ h.1, Bd.ok_imp ha hm h.2⟩
  | .ch _ _ _ _, _, _, h => ⟨hm _ h.1, Bd.ok_imp ha hm h.2.1, Bd.ok_imp ha hm h.2.2.1, Bd.ok_imp ha hm h.2.2.2⟩
  | .bk _ _, _, _, h => ⟨Bd.ok_imp ha hm h.1, Bd.ok_imp ha hm h.2⟩
  | .lp _ _, _, _, h => ⟨Bd.ok_imp ha hm h.1, Bd.ok_imp ha hm h.2⟩
  | .lv _ _, _, _, h => ⟨h.1, Bd.ok_imp ha hm h.2⟩
  | .ag _ _, _, _, h => ⟨h.1, h.2.1, Bd.ok_imp ha hm h.2.2⟩
  | .st _, _, _, h => Bd.ok_imp ha hm (b := _) (n := _) (f := false) h
def rows8 (p0 p1 : Nat) (n0 : Int) : List URow := [.add p0 n0 1, .add p1 (-1) 2, .more p0 3 4, .more p1 0 4]
theorem rows8_ok {p0 p1 : Nat} {n0 : Int} (h0 : p0 < 4) (h1 : p1 < 4) : RowsOk (rows8 p0 p1 n0) := by
  refine ⟨by show 1 ≤ 4; decide, by show 4 ≤ 20; decide, fun r hr => ?_⟩
  have hr : r = .add p0 n0 1 ∨ r = .add p1 (-1) 2 ∨ r = .more p0 3 4 ∨ r = .more p1 0 4 := by
    simpa [rows8] using hr
  rcases hr with z | z | z | z <;> subst z
  · exact ⟨h0, by show 1 ≤ 4; decide⟩
  · exact ⟨h1, by show 2 ≤ 4; decide⟩
  · exact ⟨h0, by show 3 ≤ 4; decide, by show 4 ≤ 4; decide⟩
  · exact ⟨h1, by show 0 ≤ 4; decide, by show 4 ≤ 4; decide⟩
theorem rows8_add {p0 p1 : Nat} {n0 : Int} {r : Nat} (h : A2 r) : IsAdd (rows8 p0 p1 n0) r := by
  have h : r < 2 := h
  have : r = 0 ∨ r = 1 := by omega
  rcases this with z | z <;> subst z
  · exact ⟨_, _, _, rfl⟩
  · exact ⟨_, _, _, rfl⟩
theorem rows8_more {p0 p1 : Nat} {n0 : Int} {r : Nat} (h : M2 r) : IsMore (rows8 p0 p1 n0) r := by
  have h : 2 ≤ r ∧ r < 4 := h
  have : r = 2 ∨ r = 3 := by omega
  rcases this with z | z <;> subst z
  · exact ⟨_, _, _, rfl⟩
  · exact ⟨_, _, _, rfl⟩
theorem rowsAt8 {p0 p1 : Nat} {n0 : Int} {a t0 t1 t2 t3 : Addr} (ha : SqL K H a [.ref t0, .ref t1, .ref t2, .ref t3]) (h0 : SqT K H t0 (URow.add p0 n0 1).vs) (h1 : SqT K H t1 (URow.add p1 (-1) 2).vs) (h2 : SqT K H t2 (URow.more p0 3 4).vs) (h3 : SqT K H t3 (URow.more p1 0 4).vs) : RowsAt K H a (rows8 p0 p1 n0) := by
  refine ⟨_, ha, rfl, fun k v r hv hr => ?_⟩
  match k, hv, hr with
  | 0, hv, hr => cases hv; cases hr; exact ⟨t0, rfl, h0⟩
  | 1, hv, hr => cases hv; cases hr; exact ⟨t1, rfl, h1⟩
  | 2, hv, hr => cases hv; cases hr; exact ⟨t2, rfl, h2⟩
  | 3, hv, hr => cases hv; cases hr; exact ⟨t3, rfl, h3⟩
  | k + 4, hv, _ => cases hv
theorem cut_ints (ns : List Int) : ∃ cs : List Int, cs.length ≤ 22 ∧ cutV (ns.map V.int) (some 8) (some 30) = cs.map V.int := by
  refine ⟨(ns.drop (HT.sIx (ns.map V.int).length 0 (some 8))).take (HT.sIx (ns.map V.int).length (ns.map V.int).length (some 30) - HT.sIx (ns.map V.int).length 0 (some 8)), ?_, ?_⟩
  · rw [List.length_take, List.length_drop, List.length_map]
    have h1 : HT.sIx ns.length ns.length (some ((30 : Nat) : Int)) = min 30 ns.length := HT.sIx_nat _ _ 30
    have h2 : HT.sIx ns.length 0 (some ((8 : Nat) : Int)) = min 8 ns.length := HT.sIx_nat _ _ 8
    have h1 : HT.sIx ns.length ns.length (some 30) = min 30 ns.length := h1
    have h2 : HT.sIx ns.length 0 (some 8) = min 8 ns.length := h2
    omega
  · unfold cutV
    rw [List.map_take, List.map_drop]
theorem ends_inv {A M : Nat → Prop} {B n : Nat} {rs : List URow} {s s1 : List Fr × List Int × List Nat} (h : InvF A M B n s) (q : EndsF rs n s s1) : InvF A M B n s1 := by
  obtain ⟨k, rfl, _, h3⟩ := q
  have : ∀ j, j ≤ k → InvF A M B n (iterF rs j s) := fun j => by
    induction j with
    | zero => exact fun _ => h
    | succ j ih =>
      intro hj
      rw [iterF_succ]
      exact (step_ok (ih (by omega)) (h3 j (by omega))).1
  exact this k (Nat.le_refl _)
theorem inv0 {A M : Nat → Prop} {n : Nat} {b : Bd} {bx : List Int} (hok : b.ok A M 0 true) (h4 : bx.length = 4) : InvF A M (b.size + 1) n (st0 b bx) :=
  ⟨⟨⟨hok, (by show (b.drop 0).ok _ _ _ _; rw [Bd.drop_zero]; exact hok), Nat.zero_le _⟩, trivial⟩, ⟨Nat.le_refl _, trivial⟩, Nat.zero_le _, h4⟩
end
end U
namespace W
open PySem PySem.Spec PyProof.Rows L2 Evl U
def topS (i : Nat) : Stmt := PySem.Challenge.pw_unravel_k08_bodies_walked.main.body.getD i (.Pass ⟨0, 0, 0, 0⟩)
local macro_rules
  | `(tactic| walk_at "sq") => `(tactic| first
    | assumption
    | exact ex_t (by assumption) (by assumption)
    | exact ex_l (by assumption) (by assumption)
    | exact SqL.of (by assumption)
    | exact SqT.of (by assumption))
  | `(tactic| walk_at "at") => `(tactic| first
    | (with_reducible assumption)
    | rfl
    | exact atI_nat (by assumption)
    | assumption)
  | `(tactic| walk_at "rv") => `(tactic| first
    | ((with_reducible exact rv_I0))
    | ((with_reducible apply rv_modN); first | decide | omega)
    | ((with_reducible apply rv_fdivN) <;> first | decide | omega)
    | ((with_reducible apply rv_mulA); first | exact mulok_r (by decide) (by decide) | exact mulok_l (by decide) (by decide) | assumption | exact mulok_r (by omega) (by omega) | exact mulok_l (by omega) (by omega))
    | ((with_reducible apply rv_eq); rfl)
    | ((with_reducible apply rv_ne); rfl)
    | ((with_reducible apply rv_ixT); (walk_at "sq"); (walk_at "at"))
    | ((with_reducible apply rv_ixL); (walk_at "sq"); (walk_at "at"))
    | ((with_reducible apply rv_pow); exact ⟨by decide, by decide, by decide⟩)
    | ((with_reducible exact ru_neg))
    | ((with_reducible apply rv_isL); (walk_at "sq"); rfl; exact nv_flat _)
    | ((with_reducible apply rv_niL); (walk_at "sq"); rfl; exact nv_flat _))
  | `(tactic| walk_at "ev") => `(tactic| first
    | (with_reducible assumption)
    | ((with_reducible apply ev_var); rfl)
    | ((with_reducible exact ev_c))
    | ((with_reducible apply ev_op); (walk_at "ev"); (walk_at "ev"); (walk_at "rv"))
    | ((with_reducible apply ev_un); (walk_at "ev"); (walk_at "rv"))
    | (apply ev_len; (walk_at "ev"); (walk_at "sq"))
    | (apply ev_lenT; (walk_at "ev"); (walk_at "sq"))
    | (apply ev_max2; (walk_at "ev"); (walk_at "ev"))
    | (apply ev_min2; (walk_at "ev"); (walk_at "ev"))
    | (apply ev_isi; (walk_at "ev"); (walk_at "ty"); first | exact kb_ii | exact kb_ib | exact kb_ss | exact kb_ll | exact kb_tt | exact kb_bb | exact kb_bi | exact kb_si | exact kb_is | exact kb_ni | exact kb_li | exact kb_ls | exact kb_ns | exact kb_ts)
    | ((with_reducible apply ev_notV); (walk_at "ev"))
    | ((with_reducible apply ev_andV); (walk_at "ev"); (intro _; walk_at "ev"))
    | ((with_reducible apply ev_orV); (walk_at "ev"); (intro _; walk_at "ev"))
    | ((with_reducible apply ev_chain); (walk_at "ev"); (walk_at "ev"); (walk_at "rv"); (intro _; refine' ⟨?_, ?_⟩; (walk_at "ev"); (walk_at "rv"))))
  | `(tactic| walk_at "ty") => `(tactic| (intro H9 e9; first
    | exact TyX.base (TyOf.int _)
    | exact TyX.base (TyOf.bl _)
    | exact TyX.base (TyOf.str _)
    | exact TyX.base TyOf.non
    | exact TyX.base (TyOf.lst (e9 _ _ (by assumption)))
    | exact TyX.base (TyOf.tup (e9 _ _ (by assumption)))))
  | `(tactic| walk_at "et") => `(tactic| first
    | (with_reducible assumption)
    | ((with_reducible apply et_test); (walk_at "ev"))
    | ((with_reducible apply et_B); (walk_at "ev"))
    | ((with_reducible apply et_not); (walk_at "et"))
    | ((with_reducible apply et_and); (walk_at "et"); (intro _; walk_at "et"))
    | ((with_reducible apply et_or); (walk_at "et"); (intro _; walk_at "et"))
    | exact et_yes)
  | `(tactic| walk_at "ea") => `(tactic| first
    | ((with_reducible exact ea_nil))
    | ((with_reducible apply ea_cons); (walk_at "ev"); (walk_at "ea")))
  | `(tactic| walk_at "ds") => `(tactic| (try dsimp only at *))
section
variable {P : Program} {w : World} {K : PySem.W.Frag} {mg : Str → Option Value} {base : Heap}

abbrev s__law_closed : Stmt := topS 25
theorem sc__law_closed : FnScope ["_law_frames", "_law_frame", "_law_deed"] ["_law_frames"] (defScope s__law_closed) := ⟨rfl, rfl, rfl, by decide +kernel, rfl, by decide +kernel, by decide +kernel⟩
theorem c__law_closed (T : Txt mg) (D : DefAt K mg "_law_closed" s__law_closed) : Cal P w K mg base CX0 1 "_law_closed" ["_law_frames"] (spClosed K) := by
  refine cal_of (k := 0) D sc__law_closed (fun _ _ _ _ _ _ us hl => match us, hl with | [_], _ => rfl) (fun vs H Q E h => ?_) (fun f cdv A outer s H vs Q E hr h => ?_)
  · obtain ⟨F, fl, f, g, fs, rfl, _⟩ := h
    rfl
  · obtain ⟨F, fl, f, g, fs, rfl, eF, hM, hO, hz, q⟩ := h
    walk_at "ds"
    refine ⟨_, (pss_cons (ps_set (i := 1) sc__law_closed.nd rfl (by first | exact Or.inl rfl | exact Or.inr rfl) (pe_bm0 PySem.F.plainAttrs_list PySem.F.slot_list_pop PySem.F.type_list_pop mt_pop (pv 0)))
    (pss_cons (ps_if (pt_cmpR op_eq (pe_ix (k_ix_list (K := K) rfl) (pv 1) pe_int (fun _ _ => rfl)) pe_str (nomark _)) (pss_cons (ps_expr (pe_bm PySem.F.plainAttrs_list PySem.F.slot_list_append PySem.F.type_list_append mt_append (pv 0) (pa_cons (pe_lst (pa_cons pe_str (pa_cons (pe_ix (k_ix_list (K := K) rfl) (pv 1) pe_int (fun _ _ => rfl)) (pa_cons (pe_tup pa_nil) (pa_cons (pe_ix (k_ix_list (K := K) rfl) (pv 1) pe_int (fun _ _ => rfl)) pa_nil))))) pa_nil)))
    (pss_one ps_retN)) pss_nil)
    (pss_cons (ps_set (i := 2) sc__law_closed.nd rfl (by first | exact Or.inl rfl | exact Or.inr rfl) (pe_tup (pa_cons (pe_ix (k_ix_list (K := K) rfl) (pv 1) pe_int (fun _ _ => rfl)) (pa_cons (pe_ix (k_ix_list (K := K) rfl) (pv 1) pe_int (fun _ _ => rfl)) pa_nil))))
    (pss_cons (ps_if (pt_cmpR op_eq (pe_ix (k_ix_list (K := K) rfl) (pv 1) pe_int (fun _ _ => rfl)) pe_str (nomark _)) (pss_one (ps_set (i := 2) sc__law_closed.nd rfl (by first | exact Or.inl rfl | exact Or.inr rfl) (pe_tup (pa_cons pe_str (pa_cons (pe_ix (k_ix_list (K := K) rfl) (pv 1) pe_int (fun _ _ => rfl)) (pa_cons (pe_ix (k_ix_list (K := K) rfl) (pv 1) pe_int (fun _ _ => rfl)) (pa_cons (pe_ix (k_ix_list (K := K) rfl) (pv 1) pe_int (fun _ _ => rfl)) pa_nil))))))) pss_nil)
    (pss_one (ps_asg (pe_op (k_catA (K := K) rfl) (pe_ix (k_ix_list (K := K) rfl) (pe_ix (k_ix_list (K := K) rfl) (pv 0) (pe_op op_sub (pe_callB (k_len_seq (K := K) rfl) (by rfl) T.n_len PySem.boot_len (pa_cons (pv 0) pa_nil)) pe_int) (fun _ _ => rfl)) pe_int (fun _ _ => rfl)) (pe_tup (pa_cons (pv 2) pa_nil))) (pg_sub (pe_ix (k_ix_list (K := K) rfl) (pv 0) (pe_op op_sub (pe_callB (k_len_seq (K := K) rfl) (by rfl) T.n_len PySem.boot_len (pa_cons (pv 0) pa_nil)) pe_int) (fun _ _ => rfl)) pe_int set_list))))))), ?_⟩
    obtain ⟨t, us, pb, pc, hfl, hul, tf, ft, ff, ht, hpb, hpc, kpop, kset⟩ := hM.top
    obtain ⟨ow, _, _, orow, _⟩ := id hO
    refine q_asgPop (ev_var rfl) hfl fun H1 e1 => ?_
    have hfl1 := e1 _ _ hfl
    have kt1 : KeepT K H (upd H1 fl (.lst us)) := (KeepT.ex e1).trans (KeepT.upd hfl1)
    have ko1 : ∀ a o, a ≠ fl → H a = some o → upd H1 fl (.lst us) a = some o := fun a o ha ho => by
      rw [upd_ne ha]
      exact e1 _ _ ho
    have hM1 := kpop _ kt1 ko1 upd_same
    have hf1 : upd H1 fl (.lst us) fl = some (.lst us) := upd_same
    have eF1 : Ex F (upd H1 fl (.lst us)) := Ex.mut (eF.trans e1) ff
    have ht1 : upd H1 fl (.lst us) t = some (.lst [.str (fmword f.w), .int (f.row : Int), .ref pb, .ref pc]) := ko1 _ _ tf ht
    have hpb1 := hpb.keep kt1
    have hpc1 := hpc.keep kt1
    generalize upd H1 fl (.lst us) = H2 at kt1 hM1 hf1 eF1 ht1 hpb1 hpc1 ⊢
    have ev0 : ∀ (σ : L2.St) (H' : Hp), Ex H2 H' → σ[1]? = some (some (.ref t)) → Ev (tOp (rIxL K) (tVar 1) (tC (.int 0))) σ H' (.str (fmword f.w)) := fun σ H' e hσ => ev_op (ev_var hσ) ev_c (rv_ixL (sq_of (e _ _ ht1)) rfl)
    have ev0' := ev0
    have ev1 : ∀ (σ : L2.St) (H' : Hp), Ex H2 H' → σ[1]? = some (some (.ref t)) → Ev (tOp (rIxL K) (tVar 1) (tC (.int 1))) σ H' (.int (f.row : Int)) := fun σ H' e hσ => ev_op (ev_var hσ) ev_c (rv_ixL (sq_of (e _ _ ht1)) rfl)
    have ev2 : ∀ (σ : L2.St) (H' : Hp), Ex H2 H' → σ[1]? = some (some (.ref t)) → Ev (tOp (rIxL K) (tVar 1) (tC (.int 2))) σ H' (.ref pb) := fun σ H' e hσ => ev_op (ev_var hσ) ev_c (rv_ixL (sq_of (e _ _ ht1)) rfl)
    have ev3 : ∀ (σ : L2.St) (H' : Hp), Ex H2 H' → σ[1]? = some (some (.ref t)) → Ev (tOp (rIxL K) (tVar 1) (tC (.int 3))) σ H' (.ref pc) := fun σ H' e hσ => ev_op (ev_var hσ) ev_c (rv_ixL (sq_of (e _ _ ht1)) rfl)
    have wd : decide (V.str (fmword f.w) = V.str ("yes" : Str)) = decide (f.w = 3) := by
      rcases ow with z | z | z | z <;> rw [z]
      · exact str_ne (by decide +kernel)
      · exact str_ne (by decide +kernel)
      · exact str_eq rfl
      · exact str_ne (by decide +kernel)
    have wn : decide (V.str (fmword f.w) = V.str ("no" : Str)) = decide (f.w = 4) := by
      rcases ow with z | z | z | z <;> rw [z]
      · exact str_ne (by decide +kernel)
      · exact str_ne (by decide +kernel)
      · exact str_ne (by decide +kernel)
      · exact str_eq rfl
    refine q_when (b := decide (f.w = 3)) (et_is (et_test (ev_op (ev0 _ _ (Ex.refl _) rfl) ev_c (rv_eq rfl))) wd) (fun hb H3 e3 => ?_) fun hb H3 e3 => ?_
    · have hw : f.w = 3 := of_decide_eq_true hb
      -- a frame for the other side
      refine q_appR (R := fun H0 v H1 => ∃ t2 pe, v = .ref t2 ∧ H0 t2 = none ∧ H1 t2 = some (.lst [.str ("no" : Str), .int (f.row : Int), .ref pe, .ref pb]) ∧ BdAt K H1 pe .nil) (e3 _ _ hf1) (ev_var rfl) ?_ (by rw [hul, List.length_cons]; have := szF_len (f :: g :: fs); rw [List.length_cons, List.length_cons] at this; omega) fun v H4 H5 e4 e5 r5 => ?_
      · refine (er_lst (R := fun vs H' => ∃ pe, vs = [.str ("no" : Str), .int (f.row : Int), .ref pe, .ref pb] ∧ BdAt K H' pe .nil) (ear_cons (ev_c (v := .str ("no" : Str))).toR fun H4 x0 H5 e4 e5 h0 => ear_cons (ev1 _ _ (e3.trans (e4.trans e5)) rfl).toR fun H6 x1 H7 e6 e7 h1 => ear_cons (ev_bd0 (K := K)) fun H8 x2 H9 e8 e9 h2 => ear_cons (ev2 _ _ (((e3.trans (e4.trans e5)).trans (e6.trans e7)).trans (e8.trans e9)) rfl).toR fun H10 x3 H11 e10 e11 h3 => fun H12 e12 Q k => ?_) (fun vs H1 ⟨pe, ew, _⟩ => by rw [ew]; show 4 ≤ 100000; decide)).imp fun H1 v H2 _ _ ⟨p, vs, Hx, h1, h0, _, ⟨pe, ew, hb⟩, _, e2, h2⟩ => ⟨p, pe, h1, h0, by rw [h2, ew], hb.ex e2⟩
        obtain ⟨pe, rfl, hpe⟩ := h2
        subst h0
        subst h1
        subst h3
        exact k [] H12 (Ex.refl H12) ⟨pe, rfl, hpe.ex ((e10.trans e11).trans e12)⟩
      · obtain ⟨t2, pe, rfl, ht2, ht2', hpe⟩ := r5
        have e35 := e3.trans (e4.trans e5)
        have hf5 := e35 _ _ hf1
        have hP := (hM1.ex (e3.trans e4)).push (H' := upd H5 fl (.lst (us ++ [.ref t2]))) (f := ⟨4, f.row, .nil, f.b⟩) (pb := pe) (pc := pb) (eF1.trans (e3.trans e4)) (e4 _ _ (e3 _ _ hf1)) ht2 ht2' e5 hpe (hpb1.ex e35) (KeepT.upd hf5) (fun a o ha ho => by
          rw [upd_ne ha]
          exact ho) upd_same
        refine q _ (Ex.mut (eF1.trans e35) ff) ?_
        rw [closeF_yes hw]
        exact hP
    · have hw : f.w ≠ 3 := of_decide_eq_false hb
      obtain ⟨t2, us2, pb2, pc2, hfl2, hul2, tf2, ft2, _, ht2, hpb2, hpc2, kpop2, kset2⟩ := hM1.top
      have hus : us = us2 ++ [.ref t2] := by
        rw [hf1] at hfl2
        exact HO.lst.inj (Option.some.inj hfl2)
      have ht2' : H2 t2 = some (.lst [.str (fmword g.w), .int (g.row : Int), .ref pb2, .ref pc2]) := ht2
      have hat : atI (us2 ++ [V.ref t2]) (((us2 ++ [V.ref t2]).length : Int) - 1) = some (.ref t2) := atI_last
      have ev0 : ∀ (σ : L2.St) (H' : Hp), Ex H2 H' → σ[0]? = some (some (.ref fl)) → Ev (tOp (rIxL K) (tVar 0) (tOp (rI0 fun i j => V.int (i - j)) (tCB (rLenS K) (tCons (tVar 0) tNil)) (tC (V.int 1)))) σ H' (.ref t2) := fun σ H' e hσ =>
        ev_op (ev_var hσ) (ev_op (ev_len (ev_var hσ) (sq_of (e _ _ hfl2))) ev_c rv_I0) (rv_ixL (sq_of (e _ _ hfl2)) hat)
      have hsz : g.b.size + (f.b.size + f.c.size + 2) ≤ 50000 := by
        have h1 : f.b.size + f.c.size + 2 + (g.b.size + g.c.size + 2 + szF fs) ≤ 40000 := hz
        omega
      have last : ∀ (σ : L2.St) (H4 : Hp) (dt : Addr) (d : Bd), σ[0]? = some (some (.ref fl)) → σ[2]? = some (some (.ref dt)) → Ex H2 H4 → BsAt K H4 d [.ref dt] → d.size ≤ f.b.size + f.c.size + 2 → closeF (f :: g :: fs) = ⟨g.w, g.row, g.b.app d, g.c⟩ :: fs →
          tAsg (tOp (rCatA K) (tOp (rIxL K) (tOp (rIxL K) (tVar 0) (tOp (rI0 fun i j => V.int (i - j)) (tCB (rLenS K) (tCons (tVar 0) tNil)) (tC (V.int 1)))) (tC (.int 2))) (tTup (tCons (tVar 2) tNil))) (gSub (tOp (rIxL K) (tVar 0) (tOp (rI0 fun i j => V.int (i - j)) (tCB (rLenS K) (tCons (tVar 0) tNil)) (tC (V.int 1)))) (tC (.int 2)) rSetL) { nx := fun _ H' => Q .non H', rt := Q } σ H4 := fun σ H4 dt d s0 s2 e4 hd hds hcl => by
        refine s_setLR (l := t2) (xs := fmV g pb2 pc2) (j := 2) (R := IsBd K (g.b.app d)) (e4 _ _ ht2) (ev_catB (ev_bdV (ev_op (ev0 _ _ e4 s0) ev_c (rv_ixL (sq_of (e4 _ _ ht2')) rfl)) (hpb2.ex e4)) (ev_bd1 ((ev_var s2).toR.imp fun H1 v H2 e e2 ev => ⟨dt, ev, hd.ex (e.trans e2)⟩)) (by omega)) (ev0 _ _ e4 s0) ev_c (by show 2 < 4; decide) fun v H5 H6 e5 r5 e6 => ?_
        obtain ⟨pn, rfl, hpn⟩ := r5
        have e46 := e4.trans (e5.trans e6)
        have hP := kset2 (upd H6 t2 (.lst ((fmV g pb2 pc2).set 2 (.ref pn)))) ⟨g.w, g.row, g.b.app d, g.c⟩ pn pc2 ((KeepT.ex e46).trans (KeepT.upd (e46 _ _ ht2))) (fun a o ha ho => by
          rw [upd_ne ha]
          exact e46 _ _ ho) upd_same ((hpn.ex e6).keep (KeepT.upd (e46 _ _ ht2))) ((hpc2.ex e46).keep (KeepT.upd (e46 _ _ ht2)))
        refine q _ (Ex.mut (eF1.trans e46) ft2) ?_
        rw [hcl]
        exact hP
      refine q_asgU (eu_tup (vs := [.str (fmword f.w), .ref pb]) (ea_cons (ev0' _ _ e3 rfl) (ea_cons (ev2 _ _ e3 rfl) ea_nil)) (by show 2 ≤ 100000; decide)) fun dt H4 _ e4 h4 => ?_
      have e34 := e3.trans e4
      obtain ⟨ps, hps, hbs⟩ := hpb1.ex e34
      refine q_when (b := decide (f.w = 4)) (et_is (et_test (ev_op (ev0' _ _ e34 rfl) ev_c (rv_eq rfl))) wn) (fun hb H5 e5 => ?_) fun hb H5 e5 => ?_
      · have w4 : f.w = 4 := of_decide_eq_true hb
        have e35 := e34.trans e5
        refine s_asgU (eu_tup (vs := [.str ("choose" : Str), .int (f.row : Int), .ref pc, .ref pb]) (ea_cons ev_c (ea_cons (ev1 _ _ e35 rfl) (ea_cons (ev3 _ _ e35 rfl) (ea_cons (ev2 _ _ e35 rfl) ea_nil)))) (by show 4 ≤ 100000; decide)) fun dt2 H6 _ e6 h6 => ?_
        have e36 := e35.trans e6
        obtain ⟨ps2, hps2, hbs2⟩ := hpb1.ex e36
        obtain ⟨cs2, hcs2, hcb2⟩ := hpc1.ex e36
        exact last _ H6 dt2 (.ch f.row f.c f.b .nil) rfl rfl e36 ⟨dt2, [], pc, cs2, pb, ps2, rfl, SqT.of h6, hcs2, hcb2, hps2, hbs2, rfl⟩ (by simp only [Bd.size]; omega) (closeF_no hw (by omega) (by omega))
      · have w4 : f.w ≠ 4 := of_decide_eq_false hb
        have e35 := e34.trans e5
        have h5 := e5 _ _ h4
        have hps5 := ex_t e5 hps
        have hbs5 := hbs.ex e5
        rcases ow with z | z | z | z
        · rw [z] at h5
          exact last _ H5 dt (.bk f.b .nil) rfl rfl e35 ⟨dt, [], pb, ps, rfl, SqT.of h5, hps5, hbs5, rfl⟩ (by simp only [Bd.size]; omega) (closeF_bk z)
        · rw [z] at h5
          exact last _ H5 dt (.lp f.b .nil) rfl rfl e35 ⟨dt, [], pb, ps, rfl, SqT.of h5, hps5, hbs5, rfl⟩ (by simp only [Bd.size]; omega) (closeF_lp z)
        · exact absurd z hw
        · exact absurd z w4

abbrev s__law_bare : Stmt := topS 24
theorem sc__law_bare : FnScope ["_law_cell", "_law_kinds", "_law_far", "_law_word"] ["_law_cell", "_law_kinds"] (defScope s__law_bare) := ⟨rfl, rfl, rfl, by decide +kernel, rfl, by decide +kernel, by decide +kernel⟩
theorem c__law_bare (T : Txt mg) (D : DefAt K mg "_law_bare" s__law_bare) : Cal P w K mg base CX0 1 "_law_bare" ["_law_cell", "_law_kinds"] (spSide K 4) := by
  refine cal_of (k := 0) D sc__law_bare (fun _ _ _ _ _ _ us hl => match us, hl with | [_, _], _ => rfl) (fun vs H Q E h => ?_) (fun f cdv A outer s H vs Q E hr h => ?_)
  · obtain ⟨⟨c, ka, ks⟩, ⟨rfl, _⟩, _⟩ := h
    rfl
  · obtain ⟨⟨c, ka, ks⟩, ⟨rfl, hk, hz⟩, q⟩ := h
    walk_at "ds"
    refine ⟨_, (pss_cons (ps_if (PW.pt (pw_or (pt_cmpR op_eq (pe_op op_modN (pv 0) pe_int) pe_int (nomark _)) (pw_or1 (pt_cmpR op_eq (pe_callB (k_len_seq (K := K) rfl) (by rfl) T.n_len PySem.boot_len (pa_cons (pv 1) pa_nil)) pe_int (nomark _))))) (pss_one (ps_ret (pe_op (k_catA (K := K) rfl) (pe_tup (pa_cons (pe_tup (pa_cons pe_str (pa_cons (pe_op op_modN (pv 0) pe_int) pa_nil))) pa_nil)) (pe_op (k_repB (K := K) rfl) (pe_tup (pa_cons (pe_tup (pa_cons pe_str pa_nil)) pa_nil)) (pe_op op_modN (pe_op op_fdivN (pv 0) pe_int) pe_int))))) pss_nil)
    (pss_cons (ps_set (i := 2) sc__law_bare.nd rfl (by first | exact Or.inl rfl | exact Or.inr rfl) (pe_op op_modN (pe_op op_fdivN (pv 0) pe_int) (pe_callB (k_len_seq (K := K) rfl) (by rfl) T.n_len PySem.boot_len (pa_cons (pv 1) pa_nil))))
    (pss_cons (ps_set (i := 3) sc__law_bare.nd rfl (by first | exact Or.inl rfl | exact Or.inr rfl) pe_str)
    (pss_cons (ps_if (PW.pt (pw_and (pt_cmpR op_eq (pe_ix (k_ix_list (K := K) rfl) (pv 1) (pe_op op_sub (pe_op op_sub (pe_callB (k_len_seq (K := K) rfl) (by rfl) T.n_len PySem.boot_len (pa_cons (pv 1) pa_nil)) pe_int) (pv 2)) (fun _ _ => rfl)) pe_str (nomark _)) (pw_and1 (pt_cmpR op_lt (pe_op op_modN (pv 0) pe_int) pe_int (nomark _))))) (pss_one (ps_set (i := 3) sc__law_bare.nd rfl (by first | exact Or.inl rfl | exact Or.inr rfl) pe_str)) pss_nil)
    (pss_one (ps_ret (pe_tup (pa_cons (pe_tup (pa_cons pe_str (pa_cons (pe_op op_modN (pv 0) pe_int) pa_nil))) (pa_cons (pe_tup (pa_cons (pv 3) (pa_cons (pv 2) pa_nil))) pa_nil))))))))), ?_⟩
    have r0 : 0 ≤ c % 2 := Int.emod_nonneg _ (by decide)
    have r1 : c % 2 < 2 := Int.emod_lt_of_pos _ (by decide)
    obtain ⟨r, hr⟩ : ∃ r : Nat, (r : Int) = c % 2 := ⟨(c % 2).toNat, Int.toNat_of_nonneg r0⟩
    have hr2 : r < 2 := by omega
    have evc : ∀ (σ : L2.St) (H' : Hp), σ[0]? = some (some (.int c)) → Ev (tOp (rI (fun _ j => j ≠ 0) fun i j => .int (i.fmod j)) (tVar 0) (tC (.int 2))) σ H' (.int (r : Int)) := fun σ H' hσ => by
      rw [hr]
      exact ev_op (ev_var hσ) ev_c (rv_modN (by decide))
    have lenk : (ks.map V.str).length = ks.length := List.length_map ..
    refine q_when (b := decide (c % 6 = 0) || decide (ks.length = 0)) (et_is (et_or (et_test (ev_op (ev_op (ev_var rfl) ev_c (rv_modN (by decide))) ev_c (rv_eq rfl))) fun _ => et_test (ev_op (ev_len (ev_var rfl) hk) ev_c (rv_eq rfl))) ?_) (fun _ H2 e2 => ?_) fun hb H2 e2 => ?_
    · congr 1
      · exact decide_eq_decide.mpr ⟨fun z => V.int.inj z, fun z => by rw [z]⟩
      · rw [lenk]
        exact decide_eq_decide.mpr ⟨fun z => by have := V.int.inj z; omega, fun z => by rw [z]; rfl⟩
    · have k0 : 0 ≤ c / 6 % 2 := Int.emod_nonneg _ (by decide)
      have k1 : c / 6 % 2 < 2 := Int.emod_lt_of_pos _ (by decide)
      refine s_retR (ev_catB (K := K) (b := .dd r .nil) (c := if c / 6 % 2 = 0 then .nil else .st .nil) (ev_bd1 (one_do (evc _ _ rfl))) (ev_repB (b := .st .nil) (k := c / 6 % 2) (fun z => by cases z) (ev_bd1 one_stop) (ev_op (ev_op (ev_var rfl) ev_c (rv_fdivN (by decide) (by decide))) ev_c (rv_modN (by decide))) (by omega)) (by split <;> simp [Bd.size])) fun v H3 e3 h3 => q _ H3 (e2.trans e3) ⟨_, ?_, ?_, h3⟩
      · split
        · exact ⟨hr2, trivial⟩
        · exact ⟨hr2, trivial⟩
      · split <;> simp [Bd.size, Bd.app]
    · rw [Bool.or_eq_false_iff, decide_eq_false_iff_not, decide_eq_false_iff_not] at hb
      have hpos : 0 < ks.length := by omega
      have f0 : 0 ≤ c / 6 % (ks.length : Int) := Int.emod_nonneg _ (by omega)
      have f1 : c / 6 % (ks.length : Int) < ks.length := Int.emod_lt_of_pos _ (by omega)
      obtain ⟨d, hd⟩ : ∃ d : Nat, (d : Int) = c / 6 % (ks.length : Int) := ⟨(c / 6 % (ks.length : Int)).toNat, Int.toNat_of_nonneg f0⟩
      have hd2 : d < ks.length := by omega
      have hk2 := ex_l e2 hk
      refine q_asg (v := .int (d : Int)) (ev_is (v := .int (c / 6 % (((ks.map V.str).length : Nat) : Int))) (ev_op (ev_op (ev_var rfl) ev_c (rv_fdivN (by decide) (by decide))) (ev_len (ev_var rfl) hk2) (rv_modN (by rw [lenk]; omega))) (by rw [lenk, hd])) fun H3 e3 => ?_
      refine q_asg (v := .str (outWord false)) ev_c fun H4 e4 => ?_
      have hk4 := ex_l (e3.trans e4) hk2
      have e14 := (e2.trans e3).trans e4
      have hi : ks.length - 1 - d < ks.length := by omega
      have hat : atI (ks.map V.str) ((((ks.map V.str).length : Nat) : Int) - 1 - (d : Int)) = some (.str ks[ks.length - 1 - d]) := by
        have z : ((((ks.map V.str).length : Nat) : Int) - 1 - (d : Int)) = ((ks.length - 1 - d : Nat) : Int) := by
          rw [lenk]
          omega
        rw [z]
        exact atI_nat (by rw [List.getElem?_map, List.getElem?_eq_getElem hi]; rfl)
      have last : ∀ (ag : Bool) (H5 : Hp) (σ5 : L2.St), Ex H H5 → σ5[0]? = some (some (.int c)) → σ5[2]? = some (some (.int (d : Int))) → σ5[3]? = some (some (.str (outWord ag))) → EvR (tTup (tCons (tTup (tCons (tC (.str ("do" : Str))) (tCons (tOp (rI (fun _ j => j ≠ 0) fun i j => .int (i.fmod j)) (tVar 0) (tC (.int 2))) tNil))) (tCons (tTup (tCons (tVar 3) (tCons (tVar 2) tNil))) tNil))) σ5 H5 (IsBd K ((Bd.dd r .nil).app (outB ag d .nil))) := fun ag H5 σ5 e5 s0 s3 s4 =>
        ev_bd2 (K := K) (one_do (evc _ _ s0)) (one_out (ev_var s4) (ev_var s3))
      apply q_when
      · exact et_and (et_test (ev_op (ev_op (ev_var rfl) (ev_op (ev_op (ev_len (ev_var rfl) hk4) ev_c rv_I0) (ev_var rfl) rv_I0) (rv_ixL hk4 hat)) ev_c (rv_eq rfl))) fun _ => et_test (ev_op (ev_op (ev_var rfl) ev_c (rv_modN (by decide))) ev_c (rv_I0b rfl))
      · intro _ H5 e5
        refine s_asg (v := .str (outWord true)) ev_c fun H6 e6 => ?_
        refine s_retR (last true H6 _ (e14.trans (e5.trans e6)) rfl rfl rfl) fun v H7 e7 h7 => q _ H7 (e14.trans ((e5.trans e6).trans e7)) ⟨_, (doOut_ok hr2 hd2).1, (doOut_ok hr2 hd2).2, h7⟩
      · intro _ H5 e5
        refine s_retR (last false H5 _ (e14.trans e5) rfl rfl rfl) fun v H7 e7 h7 => q _ H7 (e14.trans (e5.trans e7)) ⟨_, (doOut_ok hr2 hd2).1, (doOut_ok hr2 hd2).2, h7⟩

abbrev s__law_side : Stmt := topS 23
theorem sc__law_side : FnScope ["_law_cell", "_law_kinds", "_law_deeds", "_law_far", "_law_word"] ["_law_cell", "_law_kinds"] (defScope s__law_side) := ⟨rfl, rfl, rfl, by decide +kernel, rfl, by decide +kernel, by decide +kernel⟩
theorem c__law_side (T : Txt mg) (D : DefAt K mg "_law_side" s__law_side) : Cal P w K mg base CX0 1 "_law_side" ["_law_cell", "_law_kinds"] (spSide K 4) := by
  refine cal_of (k := 0) D sc__law_side (fun _ _ _ _ _ _ us hl => match us, hl with | [_, _], _ => rfl) (fun vs H Q E h => ?_) (fun f cdv A outer s H vs Q E hr h => ?_)
  · obtain ⟨⟨c, ka, ks⟩, ⟨rfl, _⟩, _⟩ := h
    rfl
  · obtain ⟨⟨c, ka, ks⟩, ⟨rfl, hk, hz⟩, q⟩ := h
    walk_at "ds"
    refine ⟨_, (pss_cons (ps_set (i := 2) sc__law_side.nd rfl (by first | exact Or.inl rfl | exact Or.inr rfl) (pe_lst (pa_cons (pe_tup pa_nil) (pa_cons (pe_tup (pa_cons (pe_tup (pa_cons pe_str (pa_cons (pe_op op_modN (pe_op op_fdivN (pv 0) pe_int) pe_int) pa_nil))) pa_nil)) (pa_cons (pe_tup (pa_cons (pe_tup (pa_cons pe_str pa_nil)) pa_nil)) (pa_cons (pe_tup pa_nil) pa_nil))))))
    (pss_cons (ps_if (PW.pt (pw_or (pt_cmpR op_lt (pe_op op_modN (pv 0) pe_int) pe_int (nomark _)) (pw_or1 (pt_cmpR op_eq (pe_callB (k_len_seq (K := K) rfl) (by rfl) T.n_len PySem.boot_len (pa_cons (pv 1) pa_nil)) pe_int (nomark _))))) (pss_one (ps_ret (pe_ix (k_ix_list (K := K) rfl) (pv 2) (pe_op op_modN (pv 0) pe_int) (fun _ _ => rfl)))) pss_nil)
    (pss_cons (ps_set (i := 3) sc__law_side.nd rfl (by first | exact Or.inl rfl | exact Or.inr rfl) (pe_op op_modN (pe_op op_fdivN (pv 0) pe_int) (pe_callB (k_len_seq (K := K) rfl) (by rfl) T.n_len PySem.boot_len (pa_cons (pv 1) pa_nil))))
    (pss_cons (ps_set (i := 4) sc__law_side.nd rfl (by first | exact Or.inl rfl | exact Or.inr rfl) pe_str)
    (pss_cons (ps_if (PW.pt (pw_and (pt_cmpR op_eq (pe_ix (k_ix_list (K := K) rfl) (pv 1) (pe_op op_sub (pe_op op_sub (pe_callB (k_len_seq (K := K) rfl) (by rfl) T.n_len PySem.boot_len (pa_cons (pv 1) pa_nil)) pe_int) (pv 3)) (fun _ _ => rfl)) pe_str (nomark _)) (pw_and1 (pt_cmpR op_lt (pe_op op_modN (pv 0) pe_int) pe_int (nomark _))))) (pss_one (ps_set (i := 4) sc__law_side.nd rfl (by first | exact Or.inl rfl | exact Or.inr rfl) pe_str)) pss_nil)
    (pss_one (ps_ret (pe_tup (pa_cons (pe_tup (pa_cons pe_str (pa_cons (pe_op op_modN (pe_op op_fdivN (pv 0) pe_int) pe_int) pa_nil))) (pa_cons (pe_tup (pa_cons (pv 4) (pa_cons (pv 3) pa_nil))) pa_nil)))))))))), ?_⟩
    have r0 : 0 ≤ c / 8 % 2 := Int.emod_nonneg _ (by decide)
    have r1 : c / 8 % 2 < 2 := Int.emod_lt_of_pos _ (by decide)
    obtain ⟨r, hr⟩ : ∃ r : Nat, (r : Int) = c / 8 % 2 := ⟨(c / 8 % 2).toNat, Int.toNat_of_nonneg r0⟩
    have hr2 : r < 2 := by omega
    have evc : ∀ (σ : L2.St) (H' : Hp), σ[0]? = some (some (.int c)) → Ev (tOp (rI (fun _ j => j ≠ 0) fun i j => .int (i.fmod j)) (tOp (rI CDivN fun i j => .int (i.fdiv j)) (tVar 0) (tC (.int 8))) (tC (.int 2))) σ H' (.int (r : Int)) := fun σ H' hσ => by
      rw [hr]
      exact ev_op (ev_op (ev_var hσ) ev_c (rv_fdivN (by decide) (by decide))) ev_c (rv_modN (by decide))
    refine q_asgR (er_lst (R := fun vs H' => ∃ a0 a1 a2 a3 : Addr, vs = [.ref a0, .ref a1, .ref a2, .ref a3] ∧ BdAt K H' a0 .nil ∧ BdAt K H' a1 (.dd r .nil) ∧ BdAt K H' a2 (.st .nil) ∧ BdAt K H' a3 .nil)
      (ear_cons (ev_bd0 (K := K)) fun H1 x0 H2 e1 e2 h0 => ear_cons (ev_bd1 (K := K) (one_do (evc _ _ rfl))) fun H3 x1 H4 e3 e4 h1 => ear_cons (ev_bd1 (K := K) one_stop) fun H5 x2 H6 e5 e6 h2 => ear_cons (ev_bd0 (K := K)) fun H7 x3 H8 e7 e8 h3 => fun H9 e9 Q k => ?_) (fun vs H1 ⟨a0, a1, a2, a3, ew, _⟩ => by rw [ew]; show 4 ≤ 100000; decide)) fun v H1 e1 r1 => ?_
    · obtain ⟨a0, rfl, h0⟩ := h0
      obtain ⟨a1, rfl, h1⟩ := h1
      obtain ⟨a2, rfl, h2⟩ := h2
      obtain ⟨a3, rfl, h3⟩ := h3
      exact k [] H9 (Ex.refl H9) ⟨a0, a1, a2, a3, rfl, h0.ex (((((((e3.trans e4).trans e5).trans e6).trans e7).trans e8).trans e9)), h1.ex ((((e5.trans e6).trans e7).trans e8).trans e9), h2.ex ((e7.trans e8).trans e9), h3.ex e9⟩
    obtain ⟨da, ws, Hx, rfl, _, ex1, ⟨a0, a1, a2, a3, rfl, b0, b1, b2, b3⟩, _, ex2, hda⟩ := r1
    have b0 := b0.ex ex2
    have b1 := b1.ex ex2
    have b2 := b2.ex ex2
    have b3 := b3.ex ex2
    have hk1 := ex_l e1 hk
    have lenk : (ks.map V.str).length = ks.length := List.length_map ..
    refine q_when (b := decide (c % 8 < 4) || decide (ks.length = 0)) (et_is (et_or (et_test (ev_op (ev_op (ev_var rfl) ev_c (rv_modN (by decide))) ev_c (rv_I0b rfl))) fun _ => et_test (ev_op (ev_len (ev_var rfl) hk1) ev_c (rv_eq rfl))) ?_) (fun _ H2 e2 => ?_) fun hb H2 e2 => ?_
    · congr 1
      rw [lenk]
      exact decide_eq_decide.mpr ⟨fun z => by have := V.int.inj z; omega, fun z => by rw [z]; rfl⟩
    · have j0 : 0 ≤ c % 4 := Int.emod_nonneg _ (by decide)
      have j1 : c % 4 < 4 := Int.emod_lt_of_pos _ (by decide)
      obtain ⟨a, b, hat, hb, h1, h2⟩ : ∃ (a : Addr) (b : Bd), atI [V.ref a0, .ref a1, .ref a2, .ref a3] (c % 4) = some (.ref a) ∧ BdAt K H1 a b ∧ b.ok A2 M2 ks.length false ∧ b.size ≤ 4 := by
        have hc : c % 4 = 0 ∨ c % 4 = 1 ∨ c % 4 = 2 ∨ c % 4 = 3 := by omega
        rcases hc with z | z | z | z
        · exact ⟨a0, .nil, by rw [z]; rfl, b0, trivial, by decide⟩
        · exact ⟨a1, .dd r .nil, by rw [z]; rfl, b1, ⟨hr2, trivial⟩, by show 2 ≤ 4; decide⟩
        · exact ⟨a2, .st .nil, by rw [z]; rfl, b2, trivial, by show 2 ≤ 4; decide⟩
        · exact ⟨a3, .nil, by rw [z]; rfl, b3, trivial, by decide⟩
      refine s_ret (v := .ref a) (ev_op (ev_var rfl) (ev_op (ev_var rfl) ev_c (rv_modN (by decide))) (rv_ixL (sq_of (e2 _ _ hda)) hat)) fun H3 e3 => q _ H3 ((e1.trans e2).trans e3) ⟨b, h1, h2, a, rfl, hb.ex (e2.trans e3)⟩
    · rw [Bool.or_eq_false_iff, decide_eq_false_iff_not, decide_eq_false_iff_not] at hb
      have hpos : 0 < ks.length := by omega
      have f0 : 0 ≤ c / 8 % (ks.length : Int) := Int.emod_nonneg _ (by omega)
      have f1 : c / 8 % (ks.length : Int) < ks.length := Int.emod_lt_of_pos _ (by omega)
      obtain ⟨d, hd⟩ : ∃ d : Nat, (d : Int) = c / 8 % (ks.length : Int) := ⟨(c / 8 % (ks.length : Int)).toNat, Int.toNat_of_nonneg f0⟩
      have hd2 : d < ks.length := by omega
      have hk2 := ex_l e2 hk1
      refine q_asg (v := .int (d : Int)) (ev_is (v := .int (c / 8 % (((ks.map V.str).length : Nat) : Int))) (ev_op (ev_op (ev_var rfl) ev_c (rv_fdivN (by decide) (by decide))) (ev_len (ev_var rfl) hk2) (rv_modN (by rw [lenk]; omega))) (by rw [lenk, hd])) fun H3 e3 => ?_
      refine q_asg (v := .str (outWord false)) ev_c fun H4 e4 => ?_
      have hk4 := ex_l (e3.trans e4) hk2
      have e14 := ((e1.trans e2).trans e3).trans e4
      have hi : ks.length - 1 - d < ks.length := by omega
      have hat : atI (ks.map V.str) ((((ks.map V.str).length : Nat) : Int) - 1 - (d : Int)) = some (.str ks[ks.length - 1 - d]) := by
        have z : ((((ks.map V.str).length : Nat) : Int) - 1 - (d : Int)) = ((ks.length - 1 - d : Nat) : Int) := by
          rw [lenk]
          omega
        rw [z]
        exact atI_nat (by rw [List.getElem?_map, List.getElem?_eq_getElem hi]; rfl)
      have last : ∀ (ag : Bool) (H5 : Hp) (σ5 : L2.St), Ex H H5 → σ5[0]? = some (some (.int c)) → σ5[3]? = some (some (.int (d : Int))) → σ5[4]? = some (some (.str (outWord ag))) → EvR (tTup (tCons (tTup (tCons (tC (.str ("do" : Str))) (tCons (tOp (rI (fun _ j => j ≠ 0) fun i j => .int (i.fmod j)) (tOp (rI CDivN fun i j => .int (i.fdiv j)) (tVar 0) (tC (.int 8))) (tC (.int 2))) tNil))) (tCons (tTup (tCons (tVar 4) (tCons (tVar 3) tNil))) tNil))) σ5 H5 (IsBd K ((Bd.dd r .nil).app (outB ag d .nil))) := fun ag H5 σ5 e5 s0 s3 s4 =>
        ev_bd2 (K := K) (one_do (evc _ _ s0)) (one_out (ev_var s4) (ev_var s3))
      apply q_when
      · exact et_and (et_test (ev_op (ev_op (ev_var rfl) (ev_op (ev_op (ev_len (ev_var rfl) hk4) ev_c rv_I0) (ev_var rfl) rv_I0) (rv_ixL hk4 hat)) ev_c (rv_eq rfl))) fun _ => et_test (ev_op (ev_op (ev_var rfl) ev_c (rv_modN (by decide))) ev_c (rv_I0b rfl))
      · intro _ H5 e5
        refine s_asg (v := .str (outWord true)) ev_c fun H6 e6 => ?_
        refine s_retR (last true H6 _ (e14.trans (e5.trans e6)) rfl rfl rfl) fun v H7 e7 h7 => q _ H7 (e14.trans ((e5.trans e6).trans e7)) ⟨_, (doOut_ok hr2 hd2).1, (doOut_ok hr2 hd2).2, h7⟩
      · intro _ H5 e5
        refine s_retR (last false H5 _ (e14.trans e5) rfl rfl rfl) fun v H7 e7 h7 => q _ H7 (e14.trans (e5.trans e7)) ⟨_, (doOut_ok hr2 hd2).1, (doOut_ok hr2 hd2).2, h7⟩

abbrev s__law_body_by : Stmt := topS 26
theorem sc__law_body_by : FnScope ["_law_cells", "_law_frames", "_law_cell", "_law_kind", "_law_kinds", "_law_top", "_law_sides", "_law_frame"] ["_law_cells"] (defScope s__law_body_by) := ⟨rfl, rfl, rfl, by decide +kernel, rfl, by decide +kernel, by decide +kernel⟩
theorem c__law_body_by (T : Txt mg) (D : DefAt K mg "_law_body_by" s__law_body_by) (c__law_closed : Cal P w K mg base CX0 1 "_law_closed" ["_law_frames"] (spClosed K)) (c__law_bare : Cal P w K mg base CX0 1 "_law_bare" ["_law_cell", "_law_kinds"] (spSide K 4)) (c__law_side : Cal P w K mg base CX0 1 "_law_side" ["_law_cell", "_law_kinds"] (spSide K 4)) : Cal P w K mg base CX0 2 "_law_body_by" ["_law_cells"] (spBody K) := by
  refine cal_of (k := 1) D sc__law_body_by (fun _ _ _ _ _ _ us hl => match us, hl with | [_], _ => rfl) (fun vs H Q E h => ?_) (fun f cdv A outer s H vs Q E hr h => ?_)
  · obtain ⟨⟨ca, cs⟩, ⟨rfl, _⟩, _⟩ := h
    rfl
  · obtain ⟨⟨ca, cs⟩, ⟨rfl, hcs, hcl⟩, q⟩ := h
    walk_at "ds"
    refine ⟨_, (pss_cons (ps_set (i := 1) sc__law_body_by.nd rfl (by first | exact Or.inl rfl | exact Or.inr rfl) (pe_lst (pa_cons (pe_lst (pa_cons pe_str (pa_cons pe_int (pa_cons (pe_tup pa_nil) (pa_cons (pe_tup pa_nil) pa_nil))))) pa_nil)))
    (pss_cons (ps_for PassesOwn.never rfl (pi_list (pv 0)) (pg_name (i := 2) sc__law_body_by.nd rfl (by first | exact Or.inl rfl | exact Or.inr rfl)) (pss_cons (ps_set (i := 3) sc__law_body_by.nd rfl (by first | exact Or.inl rfl | exact Or.inr rfl) (pe_op op_modN (pv 2) pe_int))
    (pss_cons (ps_setLc (i := 4) (own := [("_law_frame", 7)]) rfl sc__law_body_by.nd rfl rfl (sw_true rfl rfl rfl (by decide +kernel)) (pi_list (pv 1)) (blkOk_by (own := [("_law_frame", 7)]) (N := ["_law_cells", "_law_frames", "_law_cell", "_law_kind", "_law_kinds", "_law_top", "_law_sides", "_law_frame"]) (sc := defScope s__law_body_by) (by decide +kernel)) (fun _ _ _ _ _ => (pg_name (i := 7) sc__law_body_by.nd rfl (by first | exact Or.inl rfl | exact Or.inr rfl))) (fun _ _ _ _ _ => (pts_one (pt_cmpR (k_in_seq (K := K) rfl) (pe_ix (k_ix_list (K := K) rfl) (pv 7) pe_int (fun _ _ => rfl)) (pe_tup (pa_cons pe_str (pa_cons pe_str pa_nil))) (by first | exact nomark _ | rfl)))) (fun _ _ _ _ _ => (pe_ix (k_ix_list (K := K) rfl) (pv 7) pe_int (fun _ _ => rfl))))
    (pss_cons (ps_set (i := 5) sc__law_body_by.nd rfl (by first | exact Or.inl rfl | exact Or.inr rfl) (pe_ix (k_ix_list (K := K) rfl) (pv 1) (pe_op op_sub (pe_callB (k_len_seq (K := K) rfl) (by rfl) T.n_len PySem.boot_len (pa_cons (pv 1) pa_nil)) pe_int) (fun _ _ => rfl)))
    (pss_one (ps_if (pt_cmpR op_lt (pv 3) pe_int (nomark _)) (pss_one (ps_asg (pe_op (k_catA (K := K) rfl) (pe_ix (k_ix_list (K := K) rfl) (pv 5) pe_int (fun _ _ => rfl)) (pe_tup (pa_cons (pe_tup (pa_cons pe_str (pa_cons (pv 3) pa_nil))) pa_nil))) (pg_sub (pv 5) pe_int set_list))) (pss_one (ps_if (PW.pt (pw_and (pt_cmpR op_lt (pv 3) pe_int (nomark _)) (pw_and1 (pt_cmpR op_eq (pe_op op_modN (pe_op op_fdivN (pv 2) pe_int) pe_int) pe_int (nomark _))))) (pss_one (ps_asg (pe_op (k_catA (K := K) rfl) (pe_ix (k_ix_list (K := K) rfl) (pv 5) pe_int (fun _ _ => rfl)) (pe_cal c__law_bare (hr.mono (by decide)) (by rfl) pass0 (pa_cons (pe_op op_fdivN (pv 2) pe_int) (pa_cons (pv 4) pa_nil)))) (pg_sub (pv 5) pe_int set_list))) (pss_one (ps_if (pt_cmpR op_lt (pv 3) pe_int (nomark _)) (pss_cons (ps_set (i := 6) sc__law_body_by.nd rfl (by first | exact Or.inl rfl | exact Or.inr rfl) (pe_tup (pa_cons (pe_cal c__law_side (hr.mono (by decide)) (by rfl) pass0 (pa_cons (pe_op op_fdivN (pv 2) pe_int) (pa_cons (pv 4) pa_nil))) (pa_cons (pe_cal c__law_side (hr.mono (by decide)) (by rfl) pass0 (pa_cons (pe_op op_fdivN (pv 2) pe_int) (pa_cons (pv 4) pa_nil))) pa_nil))))
    (pss_one (ps_asg (pe_op (k_catA (K := K) rfl) (pe_ix (k_ix_list (K := K) rfl) (pv 5) pe_int (fun _ _ => rfl)) (pe_tup (pa_cons (pe_op (k_catA (K := K) rfl) (pe_tup (pa_cons pe_str (pa_cons (pv 3) pa_nil))) (pv 6)) pa_nil))) (pg_sub (pv 5) pe_int set_list)))) (pss_one (ps_if (PW.pt (pw_and (pt_cmpR op_lt (pv 3) pe_int (nomark _)) (pw_and1 (pt_cmpR op_lt (pe_callB (k_len_seq (K := K) rfl) (by rfl) T.n_len PySem.boot_len (pa_cons (pv 1) pa_nil)) pe_int (nomark _))))) (pss_one (ps_expr (pe_bm PySem.F.plainAttrs_list PySem.F.slot_list_append PySem.F.type_list_append mt_append (pv 1) (pa_cons (pe_lst (pa_cons (pe_ix (k_ix_list (K := K) rfl) (pe_lst (pa_cons pe_str (pa_cons pe_str (pa_cons pe_str pa_nil)))) (pe_op op_sub (pv 3) pe_int) (fun _ _ => rfl)) (pa_cons (pe_op op_add pe_int (pe_op op_modN (pe_op op_fdivN (pv 2) pe_int) pe_int)) (pa_cons (pe_tup pa_nil) (pa_cons (pe_tup pa_nil) pa_nil))))) pa_nil)))) (pss_one (ps_if (pt_cmpR op_gt (pe_callB (k_len_seq (K := K) rfl) (by rfl) T.n_len PySem.boot_len (pa_cons (pv 1) pa_nil)) pe_int (nomark _)) (pss_one (ps_expr (pe_cal c__law_closed (hr.mono (by decide)) (by rfl) pass0 (pa_cons (pv 1) pa_nil)))) pss_nil))))))))))))))
    (pss_cons (ps_while PassesOwn.never (pt_cmpR op_gt (pe_callB (k_len_seq (K := K) rfl) (by rfl) T.n_len PySem.boot_len (pa_cons (pv 1) pa_nil)) pe_int (nomark _)) (pss_one (ps_expr (pe_cal c__law_closed (hr.mono (by decide)) (by rfl) pass0 (pa_cons (pv 1) pa_nil)))))
    (pss_one (ps_ret (pe_ix (k_ix_list (K := K) rfl) (pe_ix (k_ix_list (K := K) rfl) (pv 1) pe_int (fun _ _ => rfl)) pe_int (fun _ _ => rfl))))))), ?_⟩
    have hcl : cs.length ≤ 22 := hcl
    -- a new frame with two empty bodies
    have newfr : ∀ (σ : L2.St) (H' : Hp) (t1 t2 : TE) (w : Str) (r : Int), Ev t1 σ H' (.str w) → Ev t2 σ H' (.int r) → EvR (tLst (tCons t1 (tCons t2 (tCons (tTup tNil) (tCons (tTup tNil) tNil))))) σ H' (fun H0 v H1 => ∃ t p1 p2, v = .ref t ∧ H0 t = none ∧ H1 t = some (.lst [.str w, .int r, .ref p1, .ref p2]) ∧ BdAt K H1 p1 .nil ∧ BdAt K H1 p2 .nil) := fun σ H' t1 t2 w r h1 h2 => by
      refine (er_lst (R := fun vs H' => ∃ p1 p2, vs = [.str w, .int r, .ref p1, .ref p2] ∧ BdAt K H' p1 .nil ∧ BdAt K H' p2 .nil) (ear_cons h1.toR fun H4 x0 H5 e4 e5 h0 => ear_cons (h2.mono (e4.trans e5)).toR fun H6 x1 H7 e6 e7 h1 => ear_cons (ev_bd0 (K := K)) fun H8 x2 H9 e8 e9 h2 => ear_cons (ev_bd0 (K := K)) fun H10 x3 H11 e10 e11 h3 => fun H12 e12 Q k => ?_) (fun vs H1 ⟨p1, p2, ew, _⟩ => by rw [ew]; show 4 ≤ 100000; decide)).imp fun H1 v H2 _ _ ⟨p, vs, Hx, h1, h0, _, ⟨p1, p2, ew, hb1, hb2⟩, _, e2, h2⟩ => ⟨p, p1, p2, h1, h0, by rw [h2, ew], hb1.ex e2, hb2.ex e2⟩
      obtain ⟨p1, rfl, hp1⟩ := h2
      obtain ⟨p2, rfl, hp2⟩ := h3
      subst h0
      subst h1
      exact k [] H12 (Ex.refl H12) ⟨p1, p2, rfl, hp1.ex ((e10.trans e11).trans e12), hp2.ex e12⟩
    refine q_asgR (er_lst (R := fun ws H' => ∃ t p1 p2, ws = [.ref t] ∧ H t = none ∧ H' t = some (.lst [.str ("whole" : Str), .int 0, .ref p1, .ref p2]) ∧ BdAt K H' p1 .nil ∧ BdAt K H' p2 .nil) (ear_cons (newfr _ _ _ _ _ _ ev_c ev_c) fun H3 x H4 e3 e4 hx => ?_) (fun ws H' ⟨t, p1, p2, ew, _⟩ => by rw [ew]; show 1 ≤ 100000; decide)) fun v1 H1 e1 r1 => ?_
    · obtain ⟨t, p1, p2, rfl, ht, h4, hb1, hb2⟩ := hx
      intro H5 e5 Q k
      exact k [] H5 (Ex.refl H5) ⟨t, p1, p2, rfl, fresh_back e3 ht, e5 _ _ h4, hb1.ex e5, hb2.ex e5⟩
    obtain ⟨fl, ws, Hx, rfl, fl0, ex1, ⟨t0, p1, p2, rfl, ht0, hx0, hb1, hb2⟩, hxfl, ex2, hfl⟩ := r1
    have M0 : FmsAt K H H1 fl [⟨0, 0, .nil, .nil⟩] := by
      refine ⟨[t0], hfl, fl0, ?_, List.nodup_cons.mpr ⟨List.not_mem_nil, List.nodup_nil⟩, ?_, t0, [], p1, p2, rfl, ex2 _ _ hx0, hb1.ex ex2, hb2.ex ex2, rfl⟩
      · intro hm
        have z := List.mem_singleton.mp hm
        subst z
        rw [hxfl] at hx0
        cases hx0
      · intro u hu
        have z := List.mem_singleton.mp hu
        subst z
        exact ht0
    refine q_forLn (ev_var rfl) (ex_l e1 hcs) (fun i σ' H' => ∃ (fs : List Fm) (y2 y3 y4 y5 y6 : Option V), Ex H H' ∧ FmsAt K H H' fl fs ∧ OkF fs ∧ szF fs ≤ 4 + 10 * i ∧ fs.length ≤ 6 ∧ σ' = [some (.ref ca), some (.ref fl), y2, y3, y4, y5, y6, none])
      (fun H2 e2 => ⟨_, none, none, none, none, none, e1.trans e2, M0.ex e2, ⟨rfl, trivial⟩, by show 0 + 0 + 2 + 0 ≤ 4 + 10 * 0; decide, by show 1 ≤ 6; decide, rfl⟩) (fun i σ' H' _ ⟨fs, _, _, _, _, _, e, _⟩ => ex_l e hcs) ?_ ?_
    · rintro i x σ' H' hi ⟨fs0, y2, y3, y4, y5, y6, e, hM, hO, hS, hL, rfl⟩
      rw [List.getElem?_map] at hi
      have hil : i < cs.length := by
        by_cases hlt : i < cs.length
        · exact hlt
        · rw [List.getElem?_eq_none (by omega)] at hi
          cases hi
      rw [List.getElem?_eq_getElem hil] at hi
      have hi := Option.some.inj hi
      subst hi
      generalize cs[i] = c
      cases fs0 with
      | nil => exact hO.elim
      | cons f fs =>
      have m0 : 0 ≤ c % 9 := Int.emod_nonneg _ (by decide)
      have m1 : c % 9 < 9 := Int.emod_lt_of_pos _ (by decide)
      obtain ⟨kd, hkd⟩ : ∃ kd : Nat, (kd : Int) = c % 9 := ⟨(c % 9).toNat, Int.toNat_of_nonneg m0⟩
      refine q_asg (v := .int (kd : Int)) (ev_is (v := .int (c % 9)) (ev_op (ev_var rfl) ev_c (rv_modN (by decide))) (by rw [hkd])) fun H2 e2 => ?_
      have hM2 := hM.ex e2
      have hw4 := okF_w hO
      -- the kinds
      refine q_asgL (xs := ((((f :: fs).reverse.map Fm.w).filter isBL).map fmword).map V.str) ?_ fun ka H3 _ e3 h3 => ?_
      · obtain ⟨ts, h1, h2, h3, h4, h5, h6⟩ := hM2
        have htl : ts.length = (f :: fs).length := h6.len
        have hq := el_lcL (K := K) (tl := tVar 1) (a := fl) (σ := [some (.ref ca), some (.ref fl), some (.int c), some (.int (kd : Int)), y4, y5, y6, none]) (vs := [7]) (j := 7) (te := tOp (rIxL K) (tVar 7) (tC (.int 0))) (xs := ts.reverse.map V.ref) (H := H2) (fun i => isBL (((f :: fs).reverse.map Fm.w).getD i 0)) (fun i => .str (fmword (((f :: fs).reverse.map Fm.w).getD i 0)))
          (t := tTest (tOp (rIn K false) (tOp (rIxL K) (tVar 7) (tC (.int 0))) (tTup (tCons (tC (.str ("block" : Str))) (tCons (tC (.str ("loop" : Str))) tNil))))) (ev_var rfl) (sq_of h1) (by rw [List.length_map, List.length_reverse, htl]; omega) (fun x => rfl) ?_ ?_
        · have hll : (ts.reverse.map V.ref).length = ((f :: fs).reverse.map Fm.w).length := by rw [List.length_map, List.length_map, List.length_reverse, List.length_reverse, htl]
          rw [hll, given_map (α := Nat) ((f :: fs).reverse.map Fm.w) isBL (fun k => V.str (fmword k))] at hq
          rw [List.map_map]
          exact hq
        · intro i x H3 e3 hi
          rw [List.getElem?_map] at hi
          have hil : i < ts.length := by
            by_cases hlt : i < ts.reverse.length
            · rw [List.length_reverse] at hlt
              exact hlt
            · rw [List.getElem?_eq_none (by omega)] at hi
              cases hi
          rw [List.getElem?_reverse hil, List.getElem?_eq_getElem (by omega)] at hi
          have hi := Option.some.inj hi
          subst hi
          obtain ⟨g, pb, pc, hg, hgt, _⟩ := h6.get (ts.length - 1 - i) _ (List.getElem?_eq_getElem (by omega))
          have hgm : g ∈ f :: fs := List.mem_of_getElem? hg
          have hgw : ((f :: fs).reverse.map Fm.w).getD i 0 = g.w := by
            rw [List.getD_eq_getElem?_getD, List.getElem?_map, List.getElem?_reverse (by rw [← htl]; exact hil), ← htl, hg]
            rfl
          rw [hgw, ← in_BL (hw4 g hgm)]
          have hgt : H2 _ = some (.lst [.str (fmword g.w), .int (g.row : Int), .ref pb, .ref pc]) := hgt
          exact et_test (ev_inU (ev_op (ev_var rfl) ev_c (rv_ixL (sq_of (e3 _ _ hgt)) rfl)) (eu_tup (ea_cons ev_c (ea_cons ev_c ea_nil)) (by show 2 ≤ 100000; decide)) rfl rfl)
        · intro i x H3 e3 hi _
          rw [List.getElem?_map] at hi
          have hil : i < ts.length := by
            by_cases hlt : i < ts.reverse.length
            · rw [List.length_reverse] at hlt
              exact hlt
            · rw [List.getElem?_eq_none (by omega)] at hi
              cases hi
          rw [List.getElem?_reverse hil, List.getElem?_eq_getElem (by omega)] at hi
          have hi := Option.some.inj hi
          subst hi
          obtain ⟨g, pb, pc, hg, hgt, _⟩ := h6.get (ts.length - 1 - i) _ (List.getElem?_eq_getElem (by omega))
          have hgw : ((f :: fs).reverse.map Fm.w).getD i 0 = g.w := by
            rw [List.getD_eq_getElem?_getD, List.getElem?_map, List.getElem?_reverse (by rw [← htl]; exact hil), ← htl, hg]
            rfl
          rw [hgw]
          have hgt : H2 _ = some (.lst [.str (fmword g.w), .int (g.row : Int), .ref pb, .ref pc]) := hgt
          exact ev_op (ev_var rfl) ev_c (rv_ixL (sq_of (e3 _ _ hgt)) rfl)
      have hkl := cntw_rev (f :: fs)
      have hkl2 : (((((f :: fs).reverse.map Fm.w).filter isBL).map fmword)).length ≤ 1000 := by
        have h1 := List.length_filter_le isBL ((f :: fs).reverse.map Fm.w)
        rw [List.length_map]
        rw [List.length_map, List.length_reverse] at h1
        omega
      generalize (((f :: fs).reverse.map Fm.w).filter isBL).map fmword = ks at h3 hkl hkl2
      have hM3 := hM2.ex e3
      have e03 : Ex H H3 := (e.trans e2).trans e3
      obtain ⟨t, us, pb, pc, hfl, hul, tf, ft, ff, ht, hpb, hpc, kpop, kset⟩ := hM3.top
      have ht : H3 t = some (.lst [.str (fmword f.w), .int (f.row : Int), .ref pb, .ref pc]) := ht
      have hat : atI (us ++ [V.ref t]) (((us ++ [V.ref t]).length : Int) - 1) = some (.ref t) := atI_last
      refine q_asg (v := .ref t) (ev_op (ev_var rfl) (ev_op (ev_len (ev_var rfl) (sq_of hfl)) ev_c rv_I0) (rv_ixL (sq_of hfl) hat)) fun H4 e4 => ?_
      have e04 := e03.trans e4
      have h4k := e4 _ _ h3
      have hsz : f.b.size + f.c.size + 2 + szF fs ≤ 4 + 10 * i := hS
      have lenE : ((us ++ [V.ref t]).length : Int) = ((f :: fs).length : Nat) := by
        rw [List.length_append, List.length_singleton, hul, List.length_cons]
      -- the uppermost body grows
      have grow : ∀ (σ : L2.St) (H5 : Hp) (tc : TE) (y6 : Option V), σ = [some (.ref ca), some (.ref fl), some (.int c), some (.int (kd : Int)), some (.ref ka), some (.ref t), y6, none] → Ex H4 H5 → EvR tc σ H5 (Made K (cntw (f :: fs)) 10) → ∀ (D : Ends), (∀ σ2 H2, (∃ (fs : List Fm) (y2 y3 y4 y5 y6 : Option V), Ex H H2 ∧ FmsAt K H H2 fl fs ∧ OkF fs ∧ szF fs ≤ 4 + 10 * (i + 1) ∧ fs.length ≤ 6 ∧ σ2 = [some (.ref ca), some (.ref fl), y2, y3, y4, y5, y6, none]) → D.nx σ2 H2) →
          tAsg (tOp (rCatA K) (tOp (rIxL K) (tVar 5) (tC (.int 2))) tc) (gSub (tVar 5) (tC (.int 2)) rSetL) D σ H5 := fun σ H5 tc y6 hσ e5 hm D hD => by
        subst hσ
        have ht5 := e5 _ _ (e4 _ _ ht)
        refine s_setLR (l := t) (xs := fmV f pb pc) (j := 2) (R := Grown K f.b (cntw (f :: fs)) 10) ht5 (ev_catMade (ev_bdV (ev_op (ev_var rfl) ev_c (rv_ixL (sq_of ht5) rfl)) (hpb.ex (e4.trans e5))) hm (by omega)) (ev_var rfl) ev_c (by show 2 < 4; decide) fun v H6 H7 e6 r6 e7 => ?_
        obtain ⟨d, d1, d2, pn, rfl, hpn⟩ := r6
        have e37 := (e4.trans e5).trans (e6.trans e7)
        have ht7 := e37 _ _ ht
        have hP := kset (upd H7 t (.lst ((fmV f pb pc).set 2 (.ref pn)))) ⟨f.w, f.row, f.b.app d, f.c⟩ pn pc ((KeepT.ex e37).trans (KeepT.upd ht7)) (fun a o ha ho => by
          rw [upd_ne ha]
          exact e37 _ _ ho) upd_same ((hpn.ex e7).keep (KeepT.upd ht7)) ((hpc.ex e37).keep (KeepT.upd ht7))
        refine hD _ _ ⟨⟨f.w, f.row, f.b.app d, f.c⟩ :: fs, _, _, _, _, _, Ex.mut (e03.trans e37) ft, hP, okF_set (f := f) hO rfl rfl rfl (Bd.ok_app (okF_b hO) d1), ?_, hL, rfl⟩
        show (f.b.app d).size + f.c.size + 2 + szF fs ≤ _
        rw [Bd.size_app]
        omega
      have stay : ∀ (H5 : Hp) (fs : List Fm), Ex H H5 → FmsAt K H H5 fl fs → OkF fs → szF fs ≤ 4 + 10 * (i + 1) → fs.length ≤ 6 → ∃ (fs : List Fm) (z2 z3 z4 z5 z6 : Option V), Ex H H5 ∧ FmsAt K H H5 fl fs ∧ OkF fs ∧ szF fs ≤ 4 + 10 * (i + 1) ∧ fs.length ≤ 6 ∧ [some (V.ref ca), some (.ref fl), some (.int c), some (.int (kd : Int)), some (.ref ka), some (.ref t), y6, none] = [some (.ref ca), some (.ref fl), z2, z3, z4, z5, z6, none] := fun H5 fs h1 h2 h3 h4 h5 =>
        ⟨fs, _, _, _, _, _, h1, h2, h3, h4, h5, rfl⟩
      refine s_if (b := decide (kd < 2)) (et_is (et_test (ev_op (ev_var rfl) ev_c (rv_I0b rfl))) (decide_eq_decide.mpr (by omega))) (fun hb H5 e5 => ?_) fun hb H5 e5 => ?_
      · have hk : kd < 2 := of_decide_eq_true hb
        exact grow _ H5 _ _ rfl e5 (made_of (ev_bd1 (one_do (ev_var rfl))) ⟨hk, trivial⟩ (by show 2 ≤ 10; decide)) _ fun _ _ h => h
      have hk2 : 2 ≤ kd := by
        have := of_decide_eq_false hb
        omega
      apply s_if
      · exact et_and (et_test (ev_op (ev_var rfl) ev_c (rv_I0b rfl))) fun _ => et_test (ev_op (ev_op (ev_op (ev_var rfl) ev_c (rv_fdivN (by decide) (by decide))) ev_c (rv_modN (by decide))) ev_c (rv_eq rfl))
      · intro hb H6 e6
        refine grow _ H6 _ _ rfl (e5.trans e6) ((ev_made (ev_op (ev_var rfl) ev_c (rv_fdivN (by decide) (by decide))) (ev_var rfl) (sq_of (e6 _ _ (e5 _ _ h4k))) hkl2 hkl).imp fun _ _ _ _ _ ⟨d, d1, d2, d3⟩ => ⟨d, d1, by omega, d3⟩) _ fun _ _ h => h
      intro _ H6 e6
      refine s_if (b := decide (kd < 4)) (et_is (et_test (ev_op (ev_var rfl) ev_c (rv_I0b rfl))) (decide_eq_decide.mpr (by omega))) (fun hb H7 e7 => ?_) fun hb H7 e7 => ?_
      · have hk4 : kd < 4 := of_decide_eq_true hb
        have e47 := (e5.trans e6).trans e7
        have mk : ∀ (σ : L2.St) (H' : Hp) (t1 t2 : TE) (z : Int), Ex H4 H' → Ev t1 σ H' (.int z) → Ev t2 σ H' (.ref ka) → EvR (tCall (spSide K 4) [] E0 (tCons t1 (tCons t2 tNil))) σ H' (Made K (cntw (f :: fs)) 4) := fun σ H' t1 t2 z e h1 h2 =>
          ev_made h1 h2 (sq_of (e _ _ h4k)) hkl2 hkl
        refine q_asgR (er_tup (R := fun vs H' => ∃ p q y n, vs = [.ref p, .ref q] ∧ BdAt K H' p y ∧ BdAt K H' q n ∧ y.ok A2 M2 (cntw (f :: fs)) false ∧ n.ok A2 M2 (cntw (f :: fs)) false ∧ y.size ≤ 4 ∧ n.size ≤ 4) (ear_cons (mk _ _ _ _ _ e47 (ev_op (ev_var rfl) ev_c (rv_fdivN (by decide) (by decide))) (ev_var rfl)) fun H8 x H9 e8 e9 h9 => ear_cons (mk _ _ _ _ _ (e47.trans (e8.trans e9)) (ev_op (ev_var rfl) ev_c (rv_fdivN (by decide) (by decide))) (ev_var rfl)) fun H10 x2 H11 e10 e11 h11 => fun H12 e12 Q k => ?_) (fun vs H1 ⟨p, q, y, n, ew, _⟩ => by rw [ew]; show 2 ≤ 100000; decide)) fun v H8 e8 r8 => ?_
        · obtain ⟨y, y1, y2, p, rfl, hp⟩ := h9
          obtain ⟨n, n1, n2, p2, rfl, hp2⟩ := h11
          exact k [] H12 (Ex.refl H12) ⟨p, p2, y, n, rfl, hp.ex ((e10.trans e11).trans e12), hp2.ex e12, y1, n1, y2, n2⟩
        obtain ⟨sa, ws, Hx, rfl, _, ex1, ⟨p, p2, y, n, rfl, hp, hp2, y1, n1, y2, n2⟩, _, ex2, hsa⟩ := r8
        have hp := hp.ex ex2
        have hp2 := hp2.ex ex2
        refine grow _ H8 _ _ rfl (e47.trans e8) (made_of (d := .ch kd y n .nil) (ev_bd1 (ev_one (eu_catU (xs := [.str ("choose" : Str), .int (kd : Int)]) (ys := [.ref p, .ref p2]) (eu_tup (ea_cons ev_c (ea_cons (ev_var rfl) ea_nil)) (by show 2 ≤ 100000; decide)) (ev_var rfl) (SqT.of hsa) (List.cons_ne_nil _ _) (List.cons_ne_nil _ _) (by show 4 ≤ 100000; decide)) fun t H9 e9 h9 => ?_)) ⟨⟨hk2, hk4⟩, Bd.ok_mono y1, Bd.ok_mono n1, trivial⟩ (by simp only [Bd.size]; omega)) _ fun _ _ h => h
        obtain ⟨ps, h1, h2⟩ := hp.ex e9
        obtain ⟨ps2, h3, h4⟩ := hp2.ex e9
        exact ⟨t, [], p, ps, p2, ps2, rfl, SqT.of h9, h1, h2, h3, h4, rfl⟩
      have hk4 : 4 ≤ kd := by
        have := of_decide_eq_false hb
        omega
      have e47 := (e5.trans e6).trans e7
      have hfl7 := e47 _ _ (e4 _ _ hfl)
      refine s_if (b := decide (kd < 7) && decide ((f :: fs).length < 6)) (et_is (et_and (et_test (ev_op (ev_var rfl) ev_c (rv_I0b rfl))) fun _ => et_test (ev_op (ev_len (ev_var rfl) (sq_of hfl7)) ev_c (rv_I0b rfl))) ?_) (fun hb H8 e8 => ?_) fun hb H8 e8 => ?_
      · rw [lenE]
        congr 1
        · exact decide_eq_decide.mpr (by omega)
        · exact decide_eq_decide.mpr (by omega)
      · rw [Bool.and_eq_true, decide_eq_true_iff, decide_eq_true_iff] at hb
        obtain ⟨hk7, hl6⟩ := hb
        have hfs6 : fs.length + 1 ≤ 5 := by
          have h1 := hul
          simp only [List.length_append, List.length_cons, List.length_nil] at hl6
          omega
        have c0 : 0 ≤ c / 9 % 2 := Int.emod_nonneg _ (by decide)
        have c1 : c / 9 % 2 < 2 := Int.emod_lt_of_pos _ (by decide)
        obtain ⟨rq, hrq⟩ : ∃ r : Nat, (r : Int) = 2 + c / 9 % 2 := ⟨(2 + c / 9 % 2).toNat, Int.toNat_of_nonneg (by omega)⟩
        obtain ⟨wk, hwk, hwk2⟩ : ∃ w : Nat, (w = 1 ∨ w = 2 ∨ w = 3) ∧ atI [V.str ("block" : Str), .str ("loop" : Str), .str ("yes" : Str)] ((kd : Int) - 4) = some (.str (fmword w)) := by
          have : kd = 4 ∨ kd = 5 ∨ kd = 6 := by omega
          rcases this with z | z | z <;> subst z
          · exact ⟨1, by omega, rfl⟩
          · exact ⟨2, by omega, rfl⟩
          · exact ⟨3, by omega, rfl⟩
        have ewd : Ev (tOp (rIxL K) (tLst (tCons (tC (V.str ("block" : Str))) (tCons (tC (V.str ("loop" : Str))) (tCons (tC (V.str ("yes" : Str))) tNil)))) (tOp (rI0 fun i j => V.int (i - j)) (tVar 3) (tC (V.int 4)))) [some (.ref ca), some (.ref fl), some (.int c), some (.int (kd : Int)), some (.ref ka), some (.ref t), y6, none] H8 (.str (fmword wk)) :=
          ev_opL1 (el_lst (ea_cons ev_c (ea_cons ev_c (ea_cons ev_c ea_nil))) (by show 3 ≤ 100000; decide)) (fun H1 e1 => ev_op (ev_var rfl) ev_c rv_I0) fun p H1 hp e1 => rv_ixL (sq_of hp) hwk2
        have hfl8 := e8 _ _ hfl7
        have hlus : us.length ≤ 6 := by omega
        refine s_appR hfl8 (ev_var rfl) (newfr _ _ _ _ _ (rq : Int) ewd (ev_is (v := .int (2 + c / 9 % 2)) (ev_op ev_c (ev_op (ev_op (ev_var rfl) ev_c (rv_fdivN (by decide) (by decide))) ev_c (rv_modN (by decide))) rv_I0) (by rw [hrq]))) (by rw [List.length_append, List.length_singleton]; omega) fun v H9 H10 e9 e10 r10 => ?_
        obtain ⟨t2, q1, q2, rfl, ht2, ht2', hq1, hq2⟩ := r10
        have e39 := (e4.trans e47).trans (e8.trans e9)
        have hP := (hM3.ex e39).push (H' := upd H10 fl (.lst ((us ++ [.ref t]) ++ [.ref t2]))) (f := ⟨wk, rq, .nil, .nil⟩) (pb := q1) (pc := q2) (e03.trans e39) (e39 _ _ hfl) ht2 ht2' e10 hq1 hq2 (KeepT.upd (e10 _ _ (e39 _ _ hfl))) (fun a o ha ho => by
          rw [upd_ne ha]
          exact ho) upd_same
        refine stay _ (⟨wk, rq, .nil, .nil⟩ :: f :: fs) (Ex.mut (e03.trans (e39.trans e10)) ff) hP ⟨by show wk = 1 ∨ wk = 2 ∨ wk = 3 ∨ wk = 4; omega, trivial, trivial, ⟨by show 2 ≤ rq; omega, by show rq < 4; omega⟩, hO⟩ ?_ (by rw [List.length_cons, List.length_cons]; omega)
        show 0 + 0 + 2 + (f.b.size + f.c.size + 2 + szF fs) ≤ _
        omega
      have hfl8 := e8 _ _ hfl7
      have e38 := (e4.trans e47).trans e8
      refine s_when (b := decide (1 < (f :: fs).length)) (et_is (et_test (ev_op (ev_len (ev_var rfl) (sq_of hfl8)) ev_c (rv_I0b rfl))) (by rw [lenE]; exact decide_eq_decide.mpr (by omega))) (fun hb H9 e9 => ?_) fun hb H9 e9 => ?_
      · cases fs with
        | nil => cases hb
        | cons g fs =>
        have hc := close_ok hO
        refine s_closed (ev_var rfl) (e03.trans (e38.trans e9)) (hM3.ex (e38.trans e9)) hO (by omega) fun H10 e10 hM10 => ?_
        exact stay H10 _ e10 hM10 hc.1 (Nat.le_trans hc.2.1 (by omega)) (Nat.le_trans hc.2.2.2 hL)
      · exact stay H9 _ (e03.trans (e38.trans e9)) (hM3.ex (e38.trans e9)) hO (by omega) hL
    · rintro σ' H' ⟨fs0, y2, y3, y4, y5, y6, e, hM, hO, hS, hL, rfl⟩
      rw [List.length_map] at hS
      refine q_whileW (fun m σ' H' => ∃ (fs : List Fm), m = msF fs ∧ Ex H H' ∧ FmsAt K H H' fl fs ∧ OkF fs ∧ szF fs ≤ 230 ∧ σ' = [some (.ref ca), some (.ref fl), y2, y3, y4, y5, y6, none]) (msF fs0) ⟨fs0, rfl, e, hM, hO, by omega, rfl⟩ ?_
      rintro m σ' H2 ⟨fs0, rfl, e, hM, hO, hS, rfl⟩
      cases fs0 with
      | nil => exact hO.elim
      | cons f fs =>
      obtain ⟨t, us, pb, pc, hfl, hul, tf, ft, ff, ht, hpb, hpc, kpop, kset⟩ := hM.top
      refine ⟨decide (1 < (f :: fs).length), et_is (et_test (ev_op (ev_len (ev_var rfl) (sq_of hfl)) ev_c (rv_I0b rfl))) ?_, fun hb H3 e3 => ?_, fun hb H3 e3 => ?_⟩
      · rw [List.length_append, List.length_singleton, hul, List.length_cons]
        exact decide_eq_decide.mpr (by omega)
      · cases fs with
        | nil => cases hb
        | cons g fs =>
        refine s_closed (ev_var rfl) (e.trans e3) (hM.ex e3) hO (by omega) fun H4 e4 hM4 => ?_
        have hc := close_ok hO
        exact ⟨_, hc.2.2.1, closeF (f :: g :: fs), rfl, e4, hM4, hc.1, Nat.le_trans hc.2.1 hS, rfl⟩
      · cases fs with
        | cons g fs => exact absurd (of_decide_eq_false hb) (by rw [List.length_cons, List.length_cons]; omega)
        | nil =>
        have hus : us = [] := List.eq_nil_of_length_eq_zero hul
        subst hus
        have ht3 : H3 t = some (.lst [.str (fmword f.w), .int (f.row : Int), .ref pb, .ref pc]) := e3 _ _ ht
        refine s_ret (v := .ref pb) (ev_op (ev_op (ev_var rfl) ev_c (rv_ixL (sq_of (e3 _ _ hfl)) rfl)) ev_c (rv_ixL (sq_of ht3) rfl)) fun H4 e4 => q _ H4 ((e.trans e3).trans e4) ⟨f.b, hO.2, ?_, pb, rfl, hpb.ex (e3.trans e4)⟩
        have h1 : f.b.size + f.c.size + 2 + 0 ≤ 230 := hS
        omega

abbrev s_is_whole : Stmt := topS 6
theorem sc_is_whole : FnScope ["thing"] ["thing"] (defScope s_is_whole) := ⟨rfl, rfl, rfl, by decide +kernel, rfl, by decide +kernel, by decide +kernel⟩
theorem c_is_whole (T : Txt mg) (D : DefAt K mg "is_whole" s_is_whole) : Cal P w K mg base CX0 1 "is_whole" ["thing"] spWhole := by
  refine cal_of (k := 0) D sc_is_whole (fun _ _ _ _ _ _ us hl => match us, hl with | [_], _ => rfl) (fun vs H Q E h => ?_) (fun f cdv A outer s H vs Q E hr h => ?_)
  · obtain ⟨i, rfl, _⟩ := h
    rfl
  · obtain ⟨i, rfl, q⟩ := h
    walk_at "ds"
    refine ⟨_, (pss_one (ps_ret (pe_and (pe_callB (k_isi (K := K) rfl) (by rfl) T.n_isinstance (by decide +kernel) (pa_cons (pv 0) (pa_cons (pe_bltn (v := .ty "int") (by rfl) T.n_int (by decide +kernel) rfl) pa_nil))) (pe_one (pe_not (pe_callB (k_isi (K := K) rfl) (by rfl) T.n_isinstance (by decide +kernel) (pa_cons (pv 0) (pa_cons (pe_bltn (v := .ty "bool") (by rfl) T.n_bool (by decide +kernel) rfl) pa_nil)))))))), ?_⟩
    apply s_ret
    · walk_at "ev"
    · intro H1 e1
      exact q _ H1 e1 rfl

abbrev s_good_row : Stmt := topS 7
theorem sc_good_row : FnScope ["row", "many"] ["row", "many"] (defScope s_good_row) := ⟨rfl, rfl, rfl, by decide +kernel, rfl, by decide +kernel, by decide +kernel⟩
theorem c_good_row (T : Txt mg) (D : DefAt K mg "good_row" s_good_row) (k_BOXES : ∃ t, mg "BOXES" = some (Value.int 4 t)) (c_is_whole : Cal P w K mg base CX0 1 "is_whole" ["thing"] spWhole) : Cal P w K mg base CX0 2 "good_row" ["row", "many"] (spGood K) := by
  refine cal_of (k := 1) D sc_good_row (fun _ _ _ _ _ _ us hl => match us, hl with | [_, _], _ => rfl) (fun vs H Q E h => ?_) (fun f cdv A outer s H vs Q E hr h => ?_)
  · obtain ⟨⟨t, r, m⟩, ⟨rfl, _⟩, _⟩ := h
    rfl
  · obtain ⟨⟨t, r, m⟩, ⟨rfl, hS, ho⟩, q⟩ := h
    walk_at "ds"
    refine ⟨_, (pss_cons (ps_if (PW.pt (pw_or (pt_cmpR op_ne (pe_callB (k_len_seq (K := K) rfl) (by rfl) T.n_len PySem.boot_len (pa_cons (pv 0) pa_nil)) pe_int (nomark _)) (pw_or (pt_not (pt_val (pe_callB (k_isi (K := K) rfl) (by rfl) T.n_isinstance (by decide +kernel) (pa_cons (pe_ix (k_ix_tup (K := K) rfl) (pv 0) pe_int (fun _ _ => rfl)) (pa_cons (pe_bltn (v := .ty "str") (by rfl) T.n_str (by decide +kernel) rfl) pa_nil))))) (pw_or1 (pt_cmpR (k_notIn_seq (K := K) rfl) (pe_ix (k_ix_tup (K := K) rfl) (pv 0) pe_int (fun _ _ => rfl)) (pe_tup (pa_cons pe_str (pa_cons pe_str pa_nil))) (by first | exact nomark _ | rfl)))))) (pss_one (ps_ret pe_bl)) pss_nil)
    (pss_cons (ps_if (PW.pt (pw_or (pt_not (pt_val (pe_cal c_is_whole (hr.mono (by decide)) (by rfl) pass0 (pa_cons (pe_ix (k_ix_tup (K := K) rfl) (pv 0) pe_int (fun _ _ => rfl)) pa_nil)))) (pw_or (pt_not (pt_val (pe_cal c_is_whole (hr.mono (by decide)) (by rfl) pass0 (pa_cons (pe_ix (k_ix_tup (K := K) rfl) (pv 0) pe_int (fun _ _ => rfl)) pa_nil)))) (pw_or1 (pt_not (pt_val (pe_cal c_is_whole (hr.mono (by decide)) (by rfl) pass0 (pa_cons (pe_ix (k_ix_tup (K := K) rfl) (pv 0) pe_int (fun _ _ => rfl)) pa_nil)))))))) (pss_one (ps_ret pe_bl)) pss_nil)
    (pss_cons (ps_if (PW.pt (pw_and (pt_cmpR op_eq (pe_ix (k_ix_tup (K := K) rfl) (pv 0) pe_int (fun _ _ => rfl)) pe_str (nomark _)) (pw_and1 (pt_not (pt_chain op_le op_le pe_int (pe_ix (k_ix_tup (K := K) rfl) (pv 0) pe_int (fun _ _ => rfl)) (pv 1)))))) (pss_one (ps_ret pe_bl)) pss_nil)
    (pss_one (ps_ret (pe_and (pe_chain op_le op_lt pe_int (pe_ix (k_ix_tup (K := K) rfl) (pv 0) pe_int (fun _ _ => rfl)) (pe_globI (by rfl) k_BOXES)) (pe_one (pe_chain op_le op_le pe_int (pe_ix (k_ix_tup (K := K) rfl) (pv 0) pe_int (fun _ _ => rfl)) (pv 1))))))))), ?_⟩
    have hS : SqT K H t [.str r.word, .int r.box, .int r.mid, .int r.last] := by
      rw [← r.vs_eq]
      exact hS
    have whole : ∀ (H' : Hp) (σ : L2.St) (t1 : TE) (i : Int), Ev t1 σ H' (.int i) → EvT (tNot (tB (tCall spWhole [] E0 (tCons t1 tNil)))) σ H' false := fun H' σ t1 i h1 =>
      et_is (et_not (et_B (ev_callV i (ea_cons h1 ea_nil) (fun _ _ => rfl)))) rfl
    refine q_when (b := false) ?_ (fun hb => by cases hb) fun _ H1 e1 => ?_
    · refine et_is (et_or (et_test (by walk_at "ev")) fun _ => et_or (b := false) (by walk_at "et") fun _ => et_test (ev_is (v := .bl (!inV (.str r.word) [.str ("add" : Str), .str ("more" : Str)])) (ev_niU (by walk_at "ev") (eu_tup (by walk_at "ea") (by show 2 ≤ 100000; decide)) rfl rfl) ?_)) ?_
      · show _ = V.bl false
        cases r <;> rfl
      · rfl
    have hS1 := ex_t e1 hS
    refine q_when (b := false) ?_ (fun hb => by cases hb) fun _ H2 e2 => ?_
    · exact et_is (et_or (whole _ _ _ _ (by walk_at "ev")) fun _ => et_or (whole _ _ _ _ (by walk_at "ev")) fun _ => whole _ _ _ _ (by walk_at "ev")) rfl
    have hS2 := ex_t e2 hS1
    refine q_when (b := false) ?_ (fun hb => by cases hb) fun _ H3 e3 => ?_
    · refine et_is (et_and (et_test (ev_op (ev_op (by walk_at "ev") (by walk_at "ev") (by walk_at "rv")) (by walk_at "ev") (by walk_at "rv"))) fun hw => et_not (et_test (ev_is (w := .bl true) (ev_chain (a := true) (b := true) (by walk_at "ev") (ev_op (by walk_at "ev") (by walk_at "ev") (by walk_at "rv")) (rv_I0b ?_) (fun _ => ⟨by walk_at "ev", rv_I0b ?_⟩)) rfl))) ?_
      · cases r with
        | add b n x => exact absurd (of_decide_eq_true hw) (by intro z; exact add_ne_more (V.str.inj z).symm)
        | more b y x => exact congrArg V.bl (decide_eq_true (by show (0 : Int) ≤ (y : Int); omega))
      · cases r with
        | add b n x => exact absurd (of_decide_eq_true hw) (by intro z; exact add_ne_more (V.str.inj z).symm)
        | more b y x => exact congrArg V.bl (decide_eq_true (by have := ho.2.1; show (y : Int) ≤ (m : Int); omega))
      · rw [Bool.not_true, Bool.and_false]
    have hS3 := ex_t e3 hS2
    have hb := URow.box_lt ho
    have hl := URow.last_le ho
    refine s_ret (v := .bl true) (ev_is (ev_andV (ev_chain (a := true) (b := true) (by walk_at "ev") (ev_op (by walk_at "ev") (by walk_at "ev") (by walk_at "rv")) (rv_I0b ?_) (fun _ => ⟨by walk_at "ev", rv_I0b ?_⟩))
      fun _ => ev_chain (a := true) (b := true) (by walk_at "ev") (ev_op (by walk_at "ev") (by walk_at "ev") (by walk_at "rv")) (rv_I0b ?_) (fun _ => ⟨by walk_at "ev", rv_I0b ?_⟩)) rfl) fun H4 e4 => q _ H4 (((e1.trans e2).trans e3).trans e4) rfl
    · exact congrArg V.bl (decide_eq_true (by omega))
    · exact congrArg V.bl (decide_eq_true (by omega))
    · exact congrArg V.bl (decide_eq_true (by omega))
    · exact congrArg V.bl (decide_eq_true (by omega))

abbrev s_need_rows : Stmt := topS 8
theorem sc_need_rows : FnScope ["rows", "row"] ["rows"] (defScope s_need_rows) := ⟨rfl, rfl, rfl, by decide +kernel, rfl, by decide +kernel, by decide +kernel⟩
theorem c_need_rows (T : Txt mg) (D : DefAt K mg "need_rows" s_need_rows) (k_MOST_ROWS : ∃ t, mg "MOST_ROWS" = some (Value.int 20 t)) (c_good_row : Cal P w K mg base CX0 2 "good_row" ["row", "many"] (spGood K)) : Cal P w K mg base CX0 3 "need_rows" ["rows"] (spNeed K) := by
  refine cal_of (k := 2) D sc_need_rows (fun _ _ _ _ _ _ us hl => match us, hl with | [_], _ => rfl) (fun vs H Q E h => ?_) (fun f cdv A outer s H vs Q E hr h => ?_)
  · obtain ⟨⟨a, rs⟩, ⟨rfl, _⟩, _⟩ := h
    rfl
  · obtain ⟨⟨a, rs⟩, ⟨rfl, hR, ho⟩, q⟩ := h
    walk_at "ds"
    refine ⟨_, (pss_cons (ps_if (pt_not (pt_chain op_le op_le pe_int (pe_callB (k_len_seq (K := K) rfl) (by rfl) T.n_len PySem.boot_len (pa_cons (pv 0) pa_nil)) (pe_globI (by rfl) k_MOST_ROWS))) (pss_one ps_never) pss_nil)
    (pss_one (ps_for PassesOwn.never rfl (pi_list (pv 0)) (pg_name (i := 1) sc_need_rows.nd rfl (by first | exact Or.inl rfl | exact Or.inr rfl)) (pss_one (ps_if (pt_not (pt_val (pe_cal c_good_row (hr.mono (by decide)) (by rfl) pass0 (pa_cons (pv 1) (pa_cons (pe_callB (k_len_seq (K := K) rfl) (by rfl) T.n_len PySem.boot_len (pa_cons (pv 0) pa_nil)) pa_nil))))) (pss_one ps_never) pss_nil))))), ?_⟩
    obtain ⟨vs, hS, hl, hg⟩ := id hR
    refine q_when (b := false) ?_ (fun hb => by cases hb) fun _ H1 e1 => ?_
    · refine et_is (et_not (et_test (ev_is (w := .bl true) (ev_chain (a := true) (b := true) (by walk_at "ev") (by walk_at "ev") (rv_I0b ?_) (fun _ => ⟨by walk_at "ev", rv_I0b ?_⟩)) rfl))) rfl
      · exact congrArg V.bl (decide_eq_true (by have := ho.1; omega))
      · exact congrArg V.bl (decide_eq_true (by have := ho.2.1; omega))
    have hS1 := ex_l e1 hS
    refine s_forLn (by walk_at "ev") hS1 (fun i σ' H' => Ex H H' ∧ ∃ y, σ' = [some (.ref a), y]) (fun H2 e2 => ⟨e1.trans e2, none, rfl⟩) (fun i σ' H' _ ⟨e, _⟩ => ex_l e hS) ?_ ?_
    · rintro i x σ' H' hi ⟨e, y, rfl⟩
      have hSe := ex_l e hS
      have hi2 : i < rs.length := by
        have := (List.getElem?_eq_some_iff.mp hi).1
        omega
      obtain ⟨t, rfl, ht⟩ := hg i x rs[i] hi (List.getElem?_eq_getElem hi2)
      refine s_when (b := false) ?_ (fun hb => by cases hb) fun _ H3 e3 => ⟨e.trans e3, _, rfl⟩
      refine et_is (et_not (et_B (ev_callV (t, rs[i], rs.length) (ea_cons (by walk_at "ev") (ea_cons (ev_is (v := .int (vs.length : Nat)) (by walk_at "ev") (by rw [hl])) ea_nil)) (fun H4 e4 => ⟨rfl, ex_t (e.trans e4) ht, ho.2.2 _ (List.getElem_mem hi2)⟩)))) rfl
    · rintro σ' H' ⟨e, y, rfl⟩
      exact q _ H' e rfl

abbrev s_behind : Stmt := topS 9
theorem sc_behind : FnScope ["row", "boxes"] ["row", "boxes"] (defScope s_behind) := ⟨rfl, rfl, rfl, by decide +kernel, rfl, by decide +kernel, by decide +kernel⟩
theorem c_behind (T : Txt mg) (D : DefAt K mg "behind" s_behind) : Cal P w K mg base CX0 1 "behind" ["row", "boxes"] (spBehind K) := by
  refine cal_of (k := 0) D sc_behind (fun _ _ _ _ _ _ us hl => match us, hl with | [_, _], _ => rfl) (fun vs H Q E h => ?_) (fun f cdv A outer s H vs Q E hr h => ?_)
  · obtain ⟨t, l, r, m, bx, rfl, _⟩ := h
    rfl
  · obtain ⟨t, l, r, m, bx, rfl, hS, ho, hl, h4, q⟩ := h
    walk_at "ds"
    refine ⟨_, (pss_cons (ps_if (pt_cmpR op_eq (pe_ix (k_ix_tup (K := K) rfl) (pv 0) pe_int (fun _ _ => rfl)) pe_str (nomark _)) (pss_cons (ps_asg (pe_op op_add (pe_ix (k_ix_list (K := K) rfl) (pv 1) (pe_ix (k_ix_tup (K := K) rfl) (pv 0) pe_int (fun _ _ => rfl)) (fun _ _ => rfl)) (pe_ix (k_ix_tup (K := K) rfl) (pv 0) pe_int (fun _ _ => rfl))) (pg_sub (pv 1) (pe_ix (k_ix_tup (K := K) rfl) (pv 0) pe_int (fun _ _ => rfl)) set_list))
    (pss_one (ps_ret (pe_ix (k_ix_tup (K := K) rfl) (pv 0) pe_int (fun _ _ => rfl))))) pss_nil)
    (pss_cons (ps_if (pt_cmpR op_gt (pe_ix (k_ix_list (K := K) rfl) (pv 1) (pe_ix (k_ix_tup (K := K) rfl) (pv 0) pe_int (fun _ _ => rfl)) (fun _ _ => rfl)) pe_int (nomark _)) (pss_one (ps_ret (pe_ix (k_ix_tup (K := K) rfl) (pv 0) pe_int (fun _ _ => rfl)))) pss_nil)
    (pss_one (ps_ret (pe_ix (k_ix_tup (K := K) rfl) (pv 0) pe_int (fun _ _ => rfl)))))), ?_⟩
    have hb : r.box < bx.length := by
      have := URow.box_lt ho
      omega
    have gb : ∀ b : Nat, b < bx.length → atI (bx.map V.int) ((b : Nat) : Int) = some (.int (bx.getD b 0)) := fun b h => atI_nat (by
      rw [List.getElem?_map, List.getD_eq_getElem?_getD, List.getElem?_eq_getElem h]
      rfl)
    cases r with
    | add b n x =>
      have hS : SqT K H t [.str ("add" : Str), .int b, .int n, .int x] := hS
      have hb : b < bx.length := hb
      have g := gb b hb
      refine q_when (b := true) (et_is (by walk_at "et") (by exact decide_eq_true rfl)) (fun _ H1 e1 => ?_) (fun hb => by cases hb)
      have hS1 := ex_t e1 hS
      have hl1 := e1 l _ hl
      refine q_setL (l := l) (xs := bx.map V.int) (j := b) (v := .int (bx.getD b 0 + n)) hl1 (by walk_at "ev") (by walk_at "ev") (by walk_at "ev") (by rw [List.length_map]; exact hb) fun H2 e2 => ?_
      have e3 : ∀ a o, a ≠ l → H1 a = some o → upd H2 l (.lst ((bx.map V.int).set b (.int (bx.getD b 0 + n)))) a = some o := fun a o ha ho => by
        rw [upd_ne ha]
        exact e2 a o ho
      have hlt : ∀ o u, H1 l = some (.lst o) → H1 t = some (.tup u) → t ≠ l := fun o u h1 h2 z => by
        subst z
        rw [h1] at h2
        cases h2
      have hS3 : SqT K (upd H2 l (.lst ((bx.map V.int).set b (.int (bx.getD b 0 + n))))) t [.str ("add" : Str), .int b, .int n, .int x] := by
        rcases hS1 with (z | ⟨o, z⟩) | z
        · exact Or.inl (Or.inl (e3 t _ (fun y => by subst y; rw [hl1] at z; cases z) z))
        · exact Or.inl (Or.inr ⟨o, e3 t _ (fun y => by subst y; rw [hl1] at z; cases z) z⟩)
        · exact Or.inr z
      refine s_ret (v := .int (x : Int)) (by walk_at "ev") fun H4 e4 => q H4 (fun a o ha ho => e4 a o (e3 a o ha (e1 a o ho))) ?_
      rw [e4 l _ upd_same]
      show _ = some (HO.lst ((bx.set b (bx.getD b 0 + n)).map V.int))
      rw [List.map_set]
    | more b y x =>
      have hS : SqT K H t [.str ("more" : Str), .int b, .int y, .int x] := hS
      have hb : b < bx.length := hb
      have g := gb b hb
      refine q_when (b := false) (et_is (by walk_at "et") (by exact decide_eq_false fun z => add_ne_more (V.str.inj z))) (fun hb => by cases hb) (fun _ H1 e1 => ?_)
      have hS1 := ex_t e1 hS
      have hl1 := e1 l _ hl
      apply q_when
      · walk_at "et"
      · intro hb2 H2 e2
        have hS2 := ex_t e2 hS1
        refine s_ret (v := .int (y : Int)) (by walk_at "ev") fun H3 e3 => ?_
        have z : (behindF (.more b y x) bx).2 = y := if_pos (of_decide_eq_true hb2)
        have w := q H3 (fun a o _ ho => e3 a o (e2 a o (e1 a o ho))) (e3 l _ (e2 l _ hl1))
        rw [z] at w
        exact w
      · intro hb2 H2 e2
        have hS2 := ex_t e2 hS1
        refine s_ret (v := .int (x : Int)) (by walk_at "ev") fun H3 e3 => ?_
        have z : (behindF (.more b y x) bx).2 = x := if_neg (of_decide_eq_false hb2)
        have w := q H3 (fun a o _ ho => e3 a o (e2 a o (e1 a o ho))) (e3 l _ (e2 l _ hl1))
        rw [z] at w
        exact w

abbrev s_gone_on : Stmt := topS 12
theorem sc_gone_on : FnScope ["pile", "deed", "left", "top"] ["pile", "deed"] (defScope s_gone_on) := ⟨rfl, rfl, rfl, by decide +kernel, rfl, by decide +kernel, by decide +kernel⟩
theorem c_gone_on (T : Txt mg) (D : DefAt K mg "gone_on" s_gone_on) : Cal P w K mg base CX0 1 "gone_on" ["pile", "deed"] (spGone K) := by
  refine cal_of (k := 0) D sc_gone_on (fun _ _ _ _ _ _ us hl => match us, hl with | [_, _], _ => rfl) (fun vs H Q E h => ?_) (fun f cdv A outer s H vs Q E hr h => ?_)
  · obtain ⟨F, pl, dt, fs, ag, d, rfl, _⟩ := h
    rfl
  · obtain ⟨F, pl, dt, fs, ag, d, rfl, eF, hP, hD0, hd, hz, q⟩ := h
    walk_at "ds"
    refine ⟨_, (pss_cons (ps_set (i := 2) sc_gone_on.nd rfl (by first | exact Or.inl rfl | exact Or.inr rfl) (pe_ix (k_ix_tup (K := K) rfl) (pv 1) pe_int (fun _ _ => rfl)))
    (pss_cons (ps_while PassesOwn.never (pt_cmpR op_gt (pe_callB (k_len_seq (K := K) rfl) (by rfl) T.n_len PySem.boot_len (pa_cons (pv 0) pa_nil)) pe_int (nomark _)) (pss_cons (ps_set (i := 3) sc_gone_on.nd rfl (by first | exact Or.inl rfl | exact Or.inr rfl) (pe_ix (k_ix_list (K := K) rfl) (pv 0) (pe_op op_sub (pe_callB (k_len_seq (K := K) rfl) (by rfl) T.n_len PySem.boot_len (pa_cons (pv 0) pa_nil)) pe_int) (fun _ _ => rfl)))
    (pss_cons (ps_if (pt_cmpR op_ne (pe_ix (k_ix_list (K := K) rfl) (pv 3) pe_int (fun _ _ => rfl)) pe_str (nomark _)) (pss_cons (ps_if (pt_cmpR op_eq (pv 2) pe_int (nomark _)) (pss_one ps_break) pss_nil)
    (pss_one (ps_set (i := 2) sc_gone_on.nd rfl (by first | exact Or.inl rfl | exact Or.inr rfl) (pe_op op_sub (pv 2) pe_int)))) pss_nil)
    (pss_one (ps_expr (pe_bm0 PySem.F.plainAttrs_list PySem.F.slot_list_pop PySem.F.type_list_pop mt_pop (pv 0)))))))
    (pss_one (ps_if (pt_cmpR op_eq (pe_ix (k_ix_tup (K := K) rfl) (pv 1) pe_int (fun _ _ => rfl)) pe_str (nomark _)) (pss_one (ps_expr (pe_bm0 PySem.F.plainAttrs_list PySem.F.slot_list_pop PySem.F.type_list_pop mt_pop (pv 0)))) (pss_one (ps_asg pe_int (pg_sub (pe_ix (k_ix_list (K := K) rfl) (pv 0) (pe_op op_sub (pe_callB (k_len_seq (K := K) rfl) (by rfl) T.n_len PySem.boot_len (pa_cons (pv 0) pa_nil)) pe_int) (fun _ _ => rfl)) pe_int set_list))))))), ?_⟩
    have hD := ex_t eF hD0
    refine q_asg (v := .int (d : Int)) (by walk_at "ev") fun H1 e1 => ?_
    refine q_whileW (fun m σ' H' => ∃ (gs : List Fr) (e : Nat) (y : Option V), m = gs.length ∧ gs.length ≤ 90000 ∧ Ex F H' ∧ KeepP pl H H' ∧ PlAt K F H' pl gs ∧ e < cnt gs ∧ popTo gs e = popTo fs d ∧
        σ' = [some (.ref pl), some (.ref dt), some (.int (e : Int)), y]) fs.length ?_ ?_
    · exact ⟨fs, d, _, rfl, hz, eF.trans e1, KeepP.ex e1, hP.ex e1, hd, rfl, rfl⟩
    · rintro m σ' H' ⟨gs, e, y, rfl, hz, eF', kp, hP', he, hp, rfl⟩
      cases gs with
      | nil => exact absurd he (Nat.not_lt_zero _)
      | cons f gs =>
      obtain ⟨t, us, p, ps, hl, hul, tp, ft, fp, hf, hps, hbs, kpop, kset⟩ := hP'.top
      refine ⟨true, ?_, fun _ H2 e2 => ?_, fun hb => by cases hb⟩
      · refine et_is (et_test (ev_op (by walk_at "ev") (by walk_at "ev") (rv_I0b rfl))) ?_
        rw [List.length_append, List.length_singleton]
        exact decide_eq_true (by omega)
      have hl2 := e2 _ _ hl
      have hf2 := e2 _ _ hf
      have hat : atI (us ++ [V.ref t]) (((us ++ [V.ref t]).length : Int) - 1) = some (.ref t) := atI_last
      refine q_asg (v := .ref t) (ev_op (by walk_at "ev") (ev_op (by walk_at "ev") (by walk_at "ev") rv_I0) (rv_ixL (sq_of hl2) hat)) fun H3 e3 => ?_
      have hl3 := e3 _ _ hl2
      have hf3 : H3 t = some (.lst [.str (fword f.k), .ref p, .int (f.p : Int)]) := e3 _ _ hf2
      have eF3 : Ex F H3 := (eF'.trans e2).trans e3
      have kp3 : KeepP pl H H3 := kp.trans (KeepP.ex (e2.trans e3))
      -- the pile one shorter
      have shorter : ∀ (H4 : Hp) (e' : Nat), Ex H3 H4 → e' < cnt gs → popTo gs e' = popTo fs d → ∃ m', m' < (f :: gs).length ∧ ∃ (gs : List Fr) (e : Nat) (y : Option V), m' = gs.length ∧ gs.length ≤ 90000 ∧ Ex F (upd H4 pl (.lst us)) ∧ KeepP pl H (upd H4 pl (.lst us)) ∧ PlAt K F (upd H4 pl (.lst us)) pl gs ∧ e < cnt gs ∧ popTo gs e = popTo fs d ∧
          [some (V.ref pl), some (.ref dt), some (.int (e' : Int)), some (.ref t)] = [some (.ref pl), some (.ref dt), some (.int (e : Int)), y] := fun H4 e' e4 he' hp' =>
        ⟨gs.length, by rw [List.length_cons]; omega, gs, e', _, rfl, by rw [List.length_cons] at hz; omega, Ex.mut (eF3.trans e4) fp, (kp3.trans (KeepP.ex e4)).trans KeepP.pl, kpop _ (fun a o ha ho => by
          rw [upd_ne ha]
          exact e4 _ _ (e3 _ _ (e2 _ _ ho))) upd_same, he', hp', rfl⟩
      by_cases hk : f.k = 0
      · refine q_when (b := false) (et_is (by walk_at "et") (by rw [str_eq (fword_zero hk)]; rfl)) (fun hb => by cases hb) fun _ H4 e4 => ?_
        refine s_pop (by walk_at "ev") (e4 _ _ hl3) fun H5 e5 => ?_
        rw [cnt_skip hk] at he
        rw [popTo_skip hk] at hp
        exact shorter H5 e (e4.trans e5) he hp
      · refine q_when (b := true) (et_is (by walk_at "et") (by rw [str_ne (fword_ne hk)]; rfl)) (fun _ H4 e4 => ?_) (fun hb => by cases hb)
        by_cases h0 : e = 0
        · subst h0
          refine q_when (b := true) (et_is (by walk_at "et") (by exact decide_eq_true (congrArg V.int (Int.natCast_zero)))) (fun _ H5 e5 => ?_) (fun hb => by cases hb)
          have hl5 := e5 _ _ (e4 _ _ hl3)
          have hf5 : H5 t = some (.lst [.str (fword f.k), .ref p, .int (f.p : Int)]) := e5 _ _ (e4 _ _ hf3)
          have eF5 : Ex F H5 := eF3.trans (e4.trans e5)
          have kp5 : KeepP pl H H5 := kp3.trans (KeepP.ex (e4.trans e5))
          have hD5 := ex_t eF5 hD0
          have ho : popTo fs d = f :: gs := hp.symm.trans (popTo_here hk)
          refine s_if (b := !ag) (et_is (et_test (ev_op (ev_op (ev_var rfl) ev_c (rv_ixT hD5 rfl)) ev_c (rv_eq rfl))) ?_) (fun hb H6 e6 => ?_) (fun hb H6 e6 => ?_)
          · cases ag
            · exact str_eq rfl
            · exact str_ne (by decide +kernel)
          · have ha : ag = false := by
              cases ag
              · rfl
              · cases hb
            refine s_pop (ev_var rfl) (e6 _ _ hl5) fun H7 e7 => ?_
            refine q _ (Ex.mut (eF5.trans (e6.trans e7)) fp) ((kp5.trans (KeepP.ex (e6.trans e7))).trans KeepP.pl) ?_
            have hout : outF ag fs d = gs := by
              unfold outF
              rw [ho, ha]
              rfl
            rw [hout]
            exact kpop _ (fun a o ha ho => by
              rw [upd_ne ha]
              exact e7 _ _ (e6 _ _ (e5 _ _ (e4 _ _ (e3 _ _ (e2 _ _ ho)))))) upd_same
          · have ha : ag = true := by
              cases ag
              · cases hb
              · rfl
            have hl6 := e6 _ _ hl5
            refine s_setL (l := t) (xs := frV f p) (j := 2) (v := .int 0) (e6 _ _ hf5) ev_c (ev_op (ev_var rfl) (ev_op (ev_len (ev_var rfl) (sq_of hl6)) ev_c rv_I0) (rv_ixL (sq_of hl6) hat)) ev_c (by show 2 < 3; decide) fun H7 e7 => ?_
            have eF7 : Ex F H7 := eF5.trans (e6.trans e7)
            refine q _ (Ex.mut eF7 ft) ((kp5.trans (KeepP.ex (e6.trans e7))).trans (KeepP.fr (e7 _ _ (e6 _ _ hf5)) (isFr_frV f p))) ?_
            have hout : outF ag fs d = f.again :: gs := by
              unfold outF
              rw [ho, ha]
              rfl
            rw [hout]
            exact kset _ f.again rfl (fun a o ha ho => by
              rw [upd_ne ha]
              exact e7 _ _ (e6 _ _ (e5 _ _ (e4 _ _ (e3 _ _ (e2 _ _ ho)))))) upd_same
        · refine q_when (b := false) (et_is (by walk_at "et") (by exact decide_eq_false (fun z => h0 (by have := V.int.inj z; omega)))) (fun hb => by cases hb) fun _ H5 e5 => ?_
          refine s_asg (v := .int ((e : Int) - 1)) (ev_op (ev_var rfl) ev_c rv_I0) fun H6 e6 => ?_
          refine s_pop (ev_var rfl) (e6 _ _ (e5 _ _ (e4 _ _ hl3))) fun H7 e7 => ?_
          have he2 : e - 1 < cnt gs := by
            have := cnt_on (fs := gs) hk
            omega
          have hp2 : popTo gs (e - 1) = popTo fs d := (popTo_on hk h0).symm.trans hp
          have z : ((e : Int) - 1) = ((e - 1 : Nat) : Int) := by omega
          rw [z]
          exact shorter H7 (e - 1) (e4.trans (e5.trans (e6.trans e7))) he2 hp2

abbrev s_walk : Stmt := topS 13
theorem sc_walk : FnScope ["rows", "body", "boxes", "most", "held", "pile", "steps", "top", "deed", "row"] ["rows", "body", "boxes", "most"] (defScope s_walk) := ⟨rfl, rfl, rfl, by decide +kernel, rfl, by decide +kernel, by decide +kernel⟩
theorem c_walk (T : Txt mg) (D : DefAt K mg "walk" s_walk) (c_need_rows : Cal P w K mg base CX0 3 "need_rows" ["rows"] (spNeed K)) (c_behind : Cal P w K mg base CX0 1 "behind" ["row", "boxes"] (spBehind K)) (c_gone_on : Cal P w K mg base CX0 1 "gone_on" ["pile", "deed"] (spGone K)) : Cal P w K mg base CX0 4 "walk" ["rows", "body", "boxes", "most"] (spWalk K) := by
  refine cal_of (k := 3) D sc_walk (fun _ _ _ _ _ _ us hl => match us, hl with | [_, _, _, _], _ => rfl) (fun vs H Q E h => ?_) (fun f cdv A outer s H vs Q E hr h => ?_)
  · obtain ⟨⟨a, bo, ba, rs, b, bx0, n⟩, ⟨rfl, _⟩, _⟩ := h
    rfl
  · obtain ⟨⟨a, bo, ba, rs, b, bx0, n⟩, ⟨rfl, hR, ho, hBo, hok, hsz, hBa, h40, hn⟩, q⟩ := h
    walk_at "ds"
    refine ⟨_, (pss_cons (ps_expr (pe_cal c_need_rows (hr.mono (by decide)) (by rfl) pass0 (pa_cons (pv 0) pa_nil)))
    (pss_cons (ps_set (i := 4) sc_walk.nd rfl (by first | exact Or.inl rfl | exact Or.inr rfl) (pe_callTy (k_list_of (K := K) rfl) (by rfl) T.n_list (by decide +kernel) (pa_cons (pv 2) pa_nil)))
    (pss_cons (ps_set (i := 5) sc_walk.nd rfl (by first | exact Or.inl rfl | exact Or.inr rfl) (pe_lst (pa_cons (pe_lst (pa_cons pe_str (pa_cons (pv 1) (pa_cons pe_int pa_nil)))) pa_nil)))
    (pss_cons (ps_set (i := 6) sc_walk.nd rfl (by first | exact Or.inl rfl | exact Or.inr rfl) pe_int)
    (pss_cons (ps_while PassesOwn.never (pt_cmpR op_gt (pe_callB (k_len_seq (K := K) rfl) (by rfl) T.n_len PySem.boot_len (pa_cons (pv 5) pa_nil)) pe_int (nomark _)) (pss_cons (ps_set (i := 7) sc_walk.nd rfl (by first | exact Or.inl rfl | exact Or.inr rfl) (pe_ix (k_ix_list (K := K) rfl) (pv 5) (pe_op op_sub (pe_callB (k_len_seq (K := K) rfl) (by rfl) T.n_len PySem.boot_len (pa_cons (pv 5) pa_nil)) pe_int) (fun _ _ => rfl)))
    (pss_cons (ps_if (pt_cmpR op_eq (pe_ix (k_ix_list (K := K) rfl) (pv 7) pe_int (fun _ _ => rfl)) (pe_callB (k_len_seq (K := K) rfl) (by rfl) T.n_len PySem.boot_len (pa_cons (pe_ix (k_ix_list (K := K) rfl) (pv 7) pe_int (fun _ _ => rfl)) pa_nil)) (nomark _)) (pss_cons (ps_expr (pe_bm0 PySem.F.plainAttrs_list PySem.F.slot_list_pop PySem.F.type_list_pop mt_pop (pv 5)))
    (pss_one ps_continue)) pss_nil)
    (pss_cons (ps_set (i := 8) sc_walk.nd rfl (by first | exact Or.inl rfl | exact Or.inr rfl) (pe_ix (k_ix_tup (K := K) rfl) (pe_ix (k_ix_list (K := K) rfl) (pv 7) pe_int (fun _ _ => rfl)) (pe_ix (k_ix_list (K := K) rfl) (pv 7) pe_int (fun _ _ => rfl)) (fun _ _ => rfl)))
    (pss_cons (ps_if (PW.pt (pw_and (pt_cmpR (k_in_seq (K := K) rfl) (pe_ix (k_ix_tup (K := K) rfl) (pv 8) pe_int (fun _ _ => rfl)) (pe_tup (pa_cons pe_str (pa_cons pe_str pa_nil))) (by first | exact nomark _ | rfl)) (pw_and1 (pt_cmpR op_eq (pv 6) (pv 3) (nomark _))))) (pss_one (ps_ret (pe_tup (pa_cons (pv 4) (pa_cons (pv 6) (pa_cons pe_bl pa_nil)))))) pss_nil)
    (pss_cons (ps_asg (pe_op op_add (pe_ix (k_ix_list (K := K) rfl) (pv 7) pe_int (fun _ _ => rfl)) pe_int) (pg_sub (pv 7) pe_int set_list))
    (pss_one (ps_if (pt_cmpR op_eq (pe_ix (k_ix_tup (K := K) rfl) (pv 8) pe_int (fun _ _ => rfl)) pe_str (nomark _)) (pss_cons (ps_expr (pe_cal c_behind (hr.mono (by decide)) (by rfl) pass0 (pa_cons (pe_ix (k_ix_list (K := K) rfl) (pv 0) (pe_ix (k_ix_tup (K := K) rfl) (pv 8) pe_int (fun _ _ => rfl)) (fun _ _ => rfl)) (pa_cons (pv 4) pa_nil))))
    (pss_one (ps_set (i := 6) sc_walk.nd rfl (by first | exact Or.inl rfl | exact Or.inr rfl) (pe_op op_add (pv 6) pe_int)))) (pss_one (ps_if (pt_cmpR op_eq (pe_ix (k_ix_tup (K := K) rfl) (pv 8) pe_int (fun _ _ => rfl)) pe_str (nomark _)) (pss_cons (ps_set (i := 9) sc_walk.nd rfl (by first | exact Or.inl rfl | exact Or.inr rfl) (pe_ix (k_ix_list (K := K) rfl) (pv 0) (pe_ix (k_ix_tup (K := K) rfl) (pv 8) pe_int (fun _ _ => rfl)) (fun _ _ => rfl)))
    (pss_cons (ps_expr (pe_bm PySem.F.plainAttrs_list PySem.F.slot_list_append PySem.F.type_list_append mt_append (pv 5) (pa_cons (pe_lst (pa_cons pe_str (pa_cons (pe_ifExp (pt_cmpR op_gt (pe_ix (k_ix_list (K := K) rfl) (pv 4) (pe_ix (k_ix_tup (K := K) rfl) (pv 9) pe_int (fun _ _ => rfl)) (fun _ _ => rfl)) pe_int (nomark _)) (pe_ix (k_ix_tup (K := K) rfl) (pv 8) pe_int (fun _ _ => rfl)) (pe_ix (k_ix_tup (K := K) rfl) (pv 8) pe_int (fun _ _ => rfl))) (pa_cons pe_int pa_nil)))) pa_nil)))
    (pss_one (ps_set (i := 6) sc_walk.nd rfl (by first | exact Or.inl rfl | exact Or.inr rfl) (pe_op op_add (pv 6) pe_int))))) (pss_one (ps_if (pt_cmpR op_eq (pe_ix (k_ix_tup (K := K) rfl) (pv 8) pe_int (fun _ _ => rfl)) pe_str (nomark _)) (pss_one (ps_set (i := 5) sc_walk.nd rfl (by first | exact Or.inl rfl | exact Or.inr rfl) (pe_lst pa_nil))) (pss_one (ps_if (PW.pt (pw_or (pt_cmpR op_eq (pe_ix (k_ix_tup (K := K) rfl) (pv 8) pe_int (fun _ _ => rfl)) pe_str (nomark _)) (pw_or1 (pt_cmpR op_eq (pe_ix (k_ix_tup (K := K) rfl) (pv 8) pe_int (fun _ _ => rfl)) pe_str (nomark _))))) (pss_one (ps_expr (pe_bm PySem.F.plainAttrs_list PySem.F.slot_list_append PySem.F.type_list_append mt_append (pv 5) (pa_cons (pe_lst (pa_cons (pe_ix (k_ix_tup (K := K) rfl) (pv 8) pe_int (fun _ _ => rfl)) (pa_cons (pe_ix (k_ix_tup (K := K) rfl) (pv 8) pe_int (fun _ _ => rfl)) (pa_cons pe_int pa_nil)))) pa_nil)))) (pss_one (ps_expr (pe_cal c_gone_on (hr.mono (by decide)) (by rfl) pass0 (pa_cons (pv 5) (pa_cons (pv 8) pa_nil)))))))))))))))))))
    (pss_one (ps_ret (pe_tup (pa_cons (pv 4) (pa_cons (pv 6) (pa_cons pe_bl pa_nil))))))))))), ?_⟩
    refine q_drop (ev_callV (a, rs) (ea_cons (ev_var rfl) ea_nil) (fun H1 e1 => ⟨rfl, hR.mono e1, ho⟩)) fun H1 e1 => ?_
    refine q_asgL (el_listS (ev_var rfl) (ex_l e1 hBa)) fun l H2 hl e2 h2 => ?_
    have l0 : H l = none := fresh_back e1 hl
    refine q_asgR (er_lst (R := fun ws H' => ∃ t, ws = [.ref t] ∧ H2 t = none ∧ H' t = some (.lst [.str ("choose" : Str), .ref bo, .int 0])) (ear_cons (el_lst (vs := [.str ("choose" : Str), .ref bo, .int 0]) (ea_cons ev_c (ea_cons (ev_var rfl) (ea_cons ev_c ea_nil))) (by show 3 ≤ 100000; decide)).toR fun H3 x H4 e3 e4 hx => ?_) (fun ws H' ⟨t, ew, _⟩ => by rw [ew]; show 1 ≤ 100000; decide)) fun v3 H3 e3 r3 => ?_
    · obtain ⟨t, rfl, ht, h4⟩ := hx
      intro H5 e5 Q k
      exact k [] H5 (Ex.refl H5) ⟨t, rfl, fresh_back e3 ht, e5 _ _ h4⟩
    obtain ⟨pl, ws, Hx, rfl, pl0, ex1, ⟨t0, rfl, ht0, hx0⟩, hxpl, ex2, hpl⟩ := r3
    refine q_asg (v := .int 0) ev_c fun H4 e4 => ?_
    have e02 : Ex H H2 := e1.trans e2
    have e04 : Ex H H4 := (e02.trans e3).trans e4
    have hl4 : H4 l = some (.lst (bx0.map V.int)) := e4 _ _ (e3 _ _ h2)
    obtain ⟨bs, hbs, hbb⟩ := hBo
    have P0 : PlAt K H H4 pl [⟨0, b, 0⟩] := by
      refine ⟨[t0], e4 _ _ hpl, fresh_back e02 pl0, ?_, List.nodup_cons.mpr ⟨List.not_mem_nil, List.nodup_nil⟩, ?_, t0, [], bo, bs, rfl, e4 _ _ (ex2 _ _ hx0), hbs, hbb, rfl⟩
      · intro hm
        have z := List.mem_singleton.mp hm
        subst z
        rw [hxpl] at hx0
        cases hx0
      · intro u hu
        have z := List.mem_singleton.mp hu
        subst z
        exact fresh_back e02 ht0
    have I0 : InvF (IsAdd rs) (IsMore rs) (b.size + 1) n (st0 b bx0) := ⟨⟨⟨hok, (by show (b.drop 0).ok _ _ _ _; rw [Bd.drop_zero]; exact hok), Nat.zero_le _⟩, trivial⟩, ⟨Nat.le_refl _, trivial⟩, Nat.zero_le _, h40⟩
    have nFl : ∀ (cx : List Int), ¬ IsFr (.lst (cx.map V.int)) := not_isFr_ints
    refine q_whileW (fun m σ' H' => ∃ (s : List Fr × List Int × List Nat) (pl : Addr) (y1 y2 y3 : Option V), m = measF (b.size + 1) n s ∧ InvF (IsAdd rs) (IsMore rs) (b.size + 1) n s ∧ Ex H H' ∧ H' l = some (.lst (s.2.1.map V.int)) ∧ PlAt K H H' pl s.1 ∧ l ≠ pl ∧ (∀ s1, EndsF rs n s s1 → EndsF rs n (st0 b bx0) s1) ∧
        σ' = [some (.ref a), some (.ref bo), some (.ref ba), some (.int (n : Int)), some (.ref l), some (.ref pl), some (.int (s.2.2.length : Nat)), y1, y2, y3]) (measF (b.size + 1) n (st0 b bx0)) ?_ ?_
    · refine ⟨st0 b bx0, pl, none, none, none, rfl, I0, e04, hl4, P0, ?_, fun _ h => h, rfl⟩
      intro z
      subst z
      rw [h2] at pl0
      cases pl0
    · rintro m σ' H' ⟨⟨fs0, bx, tr⟩, pl, y1, y2, y3, rfl, inv, e, hl', hP, lp, hend, rfl⟩
      walk_at "ds"
      obtain ⟨xs, hx, hxl⟩ := hP.len
      have hxl : xs.length = fs0.length := hxl
      refine ⟨!fs0.isEmpty, ?_, fun hb H5 e5 => ?_, fun hb H5 e5 => ?_⟩
      · refine et_is (et_test (ev_op (ev_len (ev_var rfl) (sq_of hx)) ev_c (rv_I0b rfl))) ?_
        rw [hxl]
        cases fs0 with
        | nil => rfl
        | cons f fs => exact decide_eq_true (by rw [List.length_cons]; omega)
      · cases fs0 with
        | nil => cases hb
        | cons f fs =>
        have inv' := inv
        obtain ⟨⟨hf0, hlow⟩, hrb, hm, h4⟩ := inv'
        have hm : tr.length ≤ n := hm
        have h4 : bx.length = 4 := h4
        have e5' : Ex H H5 := e.trans e5
        have hP5 := hP.ex e5
        have hl5 := e5 _ _ hl'
        obtain ⟨t, us, p, ps, hpl, hul, tp, ft, fp, hf, hps, hbs, kpop, kset⟩ := hP5.top
        have hf : H5 t = some (.lst [.str (fword f.k), .ref p, .int (f.p : Int)]) := hf
        have hat : atI (us ++ [V.ref t]) (((us ++ [V.ref t]).length : Int) - 1) = some (.ref t) := atI_last
        have tl : t ≠ l := fun z => by
          subst z
          rw [hf] at hl5
          exact not_isFr_ints bx ⟨_, _, _, (Option.some.inj hl5).symm⟩
        have hlen5 := rb_len hrb
        have hlen6 : us.length + 1 ≤ 50001 := by
          rw [List.length_cons] at hlen5
          omega
        have nxt : ∀ (H2 : Hp) (pl' : Addr) (y1 y2 y3 : Option V) (stp : Int), haltF n (f :: fs, bx, tr) = false → Ex H H2 → H2 l = some (.lst ((stepF rs (f :: fs, bx, tr)).2.1.map V.int)) → PlAt K H H2 pl' (stepF rs (f :: fs, bx, tr)).1 → l ≠ pl' → stp = ((stepF rs (f :: fs, bx, tr)).2.2.length : Nat) →
            ∃ m', m' < measF (b.size + 1) n (f :: fs, bx, tr) ∧ ∃ (s : List Fr × List Int × List Nat) (pl : Addr) (z1 z2 z3 : Option V), m' = measF (b.size + 1) n s ∧ InvF (IsAdd rs) (IsMore rs) (b.size + 1) n s ∧ Ex H H2 ∧ H2 l = some (.lst (s.2.1.map V.int)) ∧ PlAt K H H2 pl s.1 ∧ l ≠ pl ∧ (∀ s1, EndsF rs n s s1 → EndsF rs n (st0 b bx0) s1) ∧
              [some (V.ref a), some (.ref bo), some (.ref ba), some (.int (n : Int)), some (.ref l), some (.ref pl'), some (.int stp), y1, y2, y3] = [some (V.ref a), some (.ref bo), some (.ref ba), some (.int (n : Int)), some (.ref l), some (.ref pl), some (.int (s.2.2.length : Nat)), z1, z2, z3] := fun H2 pl' y1 y2 y3 stp hh e2 h2 hp hlp hs =>
          ⟨_, (step_ok inv hh).2, stepF rs (f :: fs, bx, tr), pl', y1, y2, y3, rfl, (step_ok (rs := rs) inv hh).1, e2, h2, hp, hlp, fun s1 h => hend s1 (h.step hh), by rw [hs]⟩
        refine q_asg (v := .ref t) (ev_op (ev_var rfl) (ev_op (ev_len (ev_var rfl) (sq_of hpl)) ev_c rv_I0) (rv_ixL (sq_of hpl) hat)) fun H6 e6 => ?_
        have hf6 := e6 _ _ hf
        have hl6 := e6 _ _ hl5
        have hpl6 := e6 _ _ hpl
        have e6' := e5'.trans e6
        have hps6 := ex_t e6' hps
        have evp : ∀ (H7 : Hp) (σ : L2.St), σ[7]? = some (some (.ref t)) → H7 t = some (.lst [.str (fword f.k), .ref p, .int (f.p : Int)]) → Ev (tOp (rIxL K) (tVar 7) (tC (.int 2))) σ H7 (.int (f.p : Int)) := fun H7 σ hσ h7 => ev_op (ev_var hσ) ev_c (rv_ixL (sq_of h7) rfl)
        have evb : ∀ (H7 : Hp) (σ : L2.St), σ[7]? = some (some (.ref t)) → H7 t = some (.lst [.str (fword f.k), .ref p, .int (f.p : Int)]) → Ev (tOp (rIxL K) (tVar 7) (tC (.int 1))) σ H7 (.ref p) := fun H7 σ hσ h7 => ev_op (ev_var hσ) ev_c (rv_ixL (sq_of h7) rfl)
        have hpl7 : ps.length = f.b.len := hbs.len
        refine q_when (b := decide (f.p = f.b.len)) (et_is (et_test (ev_op (evp H6 _ rfl hf6) (ev_lenT (evb H6 _ rfl hf6) hps6) (rv_eq rfl))) (by rw [hpl7]; exact decide_eq_decide.mpr ⟨fun z => by have := V.int.inj z; omega, fun z => by rw [z]⟩)) (fun hb2 H7 e7 => ?_) fun hb2 H7 e7 => ?_
        · -- at the end of this one
          have hr : f.rest = .nil := (Bd.drop_isNil _ _ hf0.2.2).mpr (of_decide_eq_true hb2)
          refine q_pop (ev_var rfl) (e7 _ _ hpl6) fun H8 e8 => ?_
          have hh : haltF n (f :: fs, bx, tr) = false := by
            show (false || (decide (tr.length = n) && asksB f.rest)) = false
            rw [hr]
            show (false || (decide (tr.length = n) && false)) = false
            rw [Bool.and_false, Bool.false_or]
          refine nxt _ pl _ _ _ _ hh (Ex.mut (e6'.trans (e7.trans e8)) fp) ?_ ?_ lp ?_
          · rw [step_nil hr, upd_ne lp]
            exact e8 _ _ (e7 _ _ hl6)
          · rw [step_nil hr]
            exact kpop _ (fun a o ha ho => by
              rw [upd_ne ha]
              exact e8 _ _ (e7 _ _ (e6 _ _ ho))) upd_same
          · rw [step_nil hr]
        · have hr : f.rest ≠ .nil := fun z => of_decide_eq_false hb2 ((Bd.drop_isNil _ _ hf0.2.2).mp z)
          have hbr : BsAt K H f.rest (ps.drop f.p) := hbs.drop
          obtain ⟨dt, us2, more, hdrop, hdt⟩ := hbr.head hr
          have hatp : atI ps (f.p : Int) = some (.ref dt) := atI_nat (by
            have z : (ps.drop f.p)[0]? = some (.ref dt) := by rw [hdrop]; rfl
            rw [List.getElem?_drop] at z
            exact z)
          refine q_asg (v := .ref dt) (ev_op (evb H7 _ rfl (e7 _ _ hf6)) (evp H7 _ rfl (e7 _ _ hf6)) (rv_ixT (ex_t e7 hps6) hatp)) fun H8 e8 => ?_
          have e8' := (e6'.trans e7).trans e8
          have hdt8 := ex_t e8' hdt
          refine q_when (b := asksB f.rest && decide (tr.length = n)) (et_is (et_and (et_is (et_test (ev_inU (ev_op (ev_var rfl) ev_c (rv_ixT hdt8 (atI_nat (j := 0) rfl))) (eu_tup (ea_cons ev_c (ea_cons ev_c ea_nil)) (by show 2 ≤ 100000; decide)) rfl rfl)) (asks_in hr)) fun _ => et_test (ev_op (ev_var rfl) (ev_var rfl) (rv_eq rfl))) (by congr 1; exact decide_eq_decide.mpr ⟨fun z => by have := V.int.inj z; omega, fun z => by rw [z]⟩)) (fun hb3 H9 e9 => ?_) fun hb3 H9 e9 => ?_
          · have hh : haltF n (f :: fs, bx, tr) = true := by
              show (false || (decide (tr.length = n) && asksB f.rest)) = true
              rw [Bool.and_comm, hb3]
              rfl
            have hl9 := e9 _ _ (e8 _ _ (e7 _ _ hl6))
            refine s_retU (eu_tup (vs := [.ref l, .int (tr.length : Nat), .bl false]) (ea_cons (ev_var rfl) (ea_cons (ev_var rfl) (ea_cons ev_c ea_nil))) (by show 3 ≤ 100000; decide)) fun tt H10 htt e10 h10 => ?_
            refine q _ H10 ((e8'.trans e9).trans e10) ⟨tt, l, (f :: fs, bx, tr), rfl, l0, hend _ (EndsF.done hh), e10 _ _ hl9, h10⟩
          · have hh : haltF n (f :: fs, bx, tr) = false := by
              show (false || (decide (tr.length = n) && asksB f.rest)) = false
              rw [Bool.and_comm, hb3]
              rfl
            have hf9 := e9 _ _ (e8 _ _ (e7 _ _ hf6))
            have hl9 := e9 _ _ (e8 _ _ (e7 _ _ hl6))
            have hpl9 := e9 _ _ (e8 _ _ (e7 _ _ hpl6))
            have e9' := e8'.trans e9
            refine q_setL (l := t) (xs := [.str (fword f.k), .ref p, .int (f.p : Int)]) (j := 2) (v := .int ((f.p : Int) + 1)) hf9 (ev_op (evp H9 _ rfl hf9) ev_c rv_I0) (ev_var rfl) ev_c (by show 2 < 3; decide) fun H10 e10 => ?_
            have eA : Ex H (upd H10 t (.lst [.str (fword f.k), .ref p, .int ((f.p : Int) + 1)])) := Ex.mut (e9'.trans e10) ft
            have hlA : upd H10 t (.lst [.str (fword f.k), .ref p, .int ((f.p : Int) + 1)]) l = some (.lst (bx.map V.int)) := by
              rw [upd_ne (Ne.symm tl)]
              exact e10 _ _ hl9
            have hplA : upd H10 t (.lst [.str (fword f.k), .ref p, .int ((f.p : Int) + 1)]) pl = some (.lst (us ++ [.ref t])) := by
              rw [upd_ne (Ne.symm tp)]
              exact e10 _ _ hpl9
            have hPA : PlAt K H (upd H10 t (.lst [.str (fword f.k), .ref p, .int ((f.p : Int) + 1)])) pl (f.inc :: fs) := kset _ f.inc rfl (fun a o ha ho => by
              rw [upd_ne ha]
              exact e10 _ _ (e9 _ _ (e8 _ _ (e7 _ _ (e6 _ _ ho))))) upd_same
            rw [show ([V.str (fword f.k), V.ref p, V.int (f.p : Int)] : List V).set 2 (V.int ((f.p : Int) + 1)) = [.str (fword f.k), .ref p, .int ((f.p : Int) + 1)] from rfl]
            generalize upd H10 t (.lst [.str (fword f.k), .ref p, .int ((f.p : Int) + 1)]) = HA at eA hlA hplA hPA ⊢
            have hdtA := ex_t eA hdt
            have hlow1 : (asksB f.rest = false ∨ ∃ r y z k, f.rest = .ch r y z k) → LowOk (IsAdd rs) (IsMore rs) (f.inc :: fs) := inc_low ⟨hf0, hlow⟩ hr
            have hh' := hh
            obtain ⟨vs, hvs, hvl, hvr⟩ := id hR
            have hvl : vs.length = rs.length := hvl
            have hokr := hf0.2.1
            have getr : ∀ (r : Nat) (w : URow), rs[r]? = some w → ∃ rt, atI vs (r : Int) = some (.ref rt) ∧ SqT K H rt w.vs ∧ rs.getD r (.add 0 0 0) = w ∧ w.ok rs.length := fun r w hw => by
              have h1 := (List.getElem?_eq_some_iff.mp hw).1
              have h2 : r < vs.length := by omega
              obtain ⟨rt, e1, e2⟩ := hvr r _ _ (List.getElem?_eq_getElem h2) hw
              exact ⟨rt, atI_nat (by rw [List.getElem?_eq_getElem h2, e1]), e2, by rw [List.getD_eq_getElem?_getD, hw]; rfl, ho.2.2 _ (List.mem_of_getElem? hw)⟩
            have hz1 : ((tr.length : Nat) : Int) + 1 = ((tr.length + 1 : Nat) : Int) := by omega
            cases er : f.rest with
            | nil => exact absurd er hr
            | dd r k =>
              rw [er] at hbr hokr
              obtain ⟨t', us', h1, h2, h3⟩ := hbr
              rw [hdrop] at h1
              have h1 := (List.cons.inj h1).1
              cases h1
              obtain ⟨⟨bb, nn, xx, hrow⟩, _⟩ := hokr
              obtain ⟨rt, hat2, hrt, hgd, hro⟩ := getr r _ hrow
              refine s_if (b := true) (et_is (et_test (ev_op (ev_op (ev_var rfl) ev_c (rv_ixT (ex_t eA h2) rfl)) ev_c (rv_eq rfl))) (str_eq rfl)) (fun _ HB eB => ?_) (fun hb => by cases hb)
              have eB' := eA.trans eB
              refine q_behindD (m := rs.length) (ev_op (ev_var rfl) (ev_op (ev_var rfl) ev_c (rv_ixT (ex_t eB' h2) rfl)) (rv_ixL (ex_l eB' hvs) hat2)) (ev_var rfl) (ex_t eB' hrt) hro (eB _ _ hlA) h4 fun HC fC hC => ?_
              refine s_asg (v := .int ((tr.length : Nat) + 1)) (ev_op (ev_var rfl) ev_c rv_I0) fun HD eD => ?_
              refine nxt HD pl _ _ _ _ hh' ((ex_but eB' l0 fC).trans eD) ?_ ?_ lp ?_
              · rw [step_dd er, hgd]
                exact eD _ _ hC
              · rw [step_dd er]
                exact ((hPA.ex eB).keepL (eB _ _ hlA) (not_isFr_ints bx) lp fC).ex eD
              · rw [step_dd er]
                show _ = (((tr ++ [r]).length : Nat) : Int)
                rw [List.length_append, List.length_singleton, hz1]
            | ch r y n2 k =>
              rw [er] at hbr hokr
              obtain ⟨t', us', p2, ps2, q2, qs2, h1, h2, hp2, hb2, hq2, hb2', h3⟩ := hbr
              rw [hdrop] at h1
              have h1 := (List.cons.inj h1).1
              cases h1
              obtain ⟨⟨bb, yy, xx, hrow⟩, _⟩ := hokr
              obtain ⟨rt, hat2, hrt, hgd, hro⟩ := getr r _ hrow
              have hrt : SqT K H rt [.str ("more" : Str), .int bb, .int yy, .int xx] := hrt
              have hbb : bb < bx.length := by
                have := hro.1
                omega
              have gbb : atI (bx.map V.int) ((bb : Nat) : Int) = some (.int (bx.getD bb 0)) := atI_nat (by
                rw [List.getElem?_map, List.getD_eq_getElem?_getD, List.getElem?_eq_getElem hbb]
                rfl)
              refine s_if (b := false) (et_is (et_test (ev_op (ev_op (ev_var rfl) ev_c (rv_ixT (ex_t eA h2) rfl)) ev_c (rv_eq rfl))) (str_ne (by decide +kernel))) (fun hb => by cases hb) (fun _ HB eB => ?_)
              refine s_if (b := true) (et_is (et_test (ev_op (ev_op (ev_var rfl) ev_c (rv_ixT (ex_t (eA.trans eB) h2) rfl)) ev_c (rv_eq rfl))) (str_eq rfl)) (fun _ HC eC => ?_) (fun hb => by cases hb)
              have eC' := (eA.trans eB).trans eC
              refine q_asg (v := .ref rt) (ev_op (ev_var rfl) (ev_op (ev_var rfl) ev_c (rv_ixT (ex_t eC' h2) rfl)) (rv_ixL (ex_l eC' hvs) hat2)) fun HD eD => ?_
              have eD' := eC'.trans eD
              have hlD := eD _ _ (eC _ _ (eB _ _ hlA))
              have hplD := eD _ _ (eC _ _ (eB _ _ hplA))
              have hPD := hPA.ex ((eB.trans eC).trans eD)
              have side : ∀ (pp : Addr) (pps : List V) (bb2 : Bd), SqT K H pp pps → BsAt K H bb2 pps → (if bx.getD bb 0 > 0 then y else n2) = bb2 → (∀ tt HE, HD tt = none → Ex HD HE → HE tt = some (.lst [.str ("choose" : Str), .ref pp, .int 0]) →
                  PlAt K H (upd HE pl (.lst ((us ++ [.ref t]) ++ [.ref tt]))) pl (stepF rs (f :: fs, bx, tr)).1 ∧ Ex H (upd HE pl (.lst ((us ++ [.ref t]) ++ [.ref tt]))) ∧ upd HE pl (.lst ((us ++ [.ref t]) ++ [.ref tt])) l = some (.lst (bx.map V.int))) := fun pp pps bb2 g1 g2 g3 tt HE gt ge gh => by
                refine ⟨?_, Ex.mut (eD'.trans ge) fp, ?_⟩
                · rw [step_ch er, hgd]
                  show PlAt K H _ pl (⟨0, if bx.getD bb 0 > 0 then y else n2, 0⟩ :: f.inc :: fs)
                  rw [g3]
                  exact hPD.push eD' hplD gt gh ge g1 g2 (fun a o ha ho => by
                    rw [upd_ne ha]
                    exact ho) upd_same
                · rw [upd_ne lp]
                  exact ge _ _ hlD
              have evh : Ev (tOp (rIxL K) (tVar 4) (tOp (rIxT K) (tVar 9) (tC (.int 1)))) [some (.ref a), some (.ref bo), some (.ref ba), some (.int (n : Int)), some (.ref l), some (.ref pl), some (.int (tr.length : Nat)), some (.ref t), some (.ref dt), some (.ref rt)] HD (.int (bx.getD bb 0)) :=
                ev_op (ev_var rfl) (ev_op (ev_var rfl) ev_c (rv_ixT (ex_t eD' hrt) rfl)) (rv_ixL (sq_of hlD) gbb)
              by_cases hpos : bx.getD bb 0 > 0
              · refine q_appL (l := pl) hplD (ev_var rfl) (el_lst (vs := [.str ("choose" : Str), .ref p2, .int 0]) (ea_cons ev_c (ea_cons (ev_if (b := true) (et_is (et_test (ev_op evh ev_c (rv_I0b rfl))) (decide_eq_true hpos)) (fun _ => ev_op (ev_var rfl) ev_c (rv_ixT (ex_t eD' h2) rfl)) (fun hb => by cases hb)) (ea_cons ev_c ea_nil))) (by show 3 ≤ 100000; decide)) (by rw [List.length_append, List.length_singleton]; omega) fun tt HE htt eE hE => ?_
                obtain ⟨g1, g2, g3⟩ := side p2 ps2 y hp2 hb2 (if_pos hpos) tt HE htt eE hE
                refine s_asg (v := .int ((tr.length : Nat) + 1)) (ev_op (ev_var rfl) ev_c rv_I0) fun HG eG => ?_
                refine nxt HG pl _ _ _ _ hh' (g2.trans eG) ?_ (g1.ex eG) lp ?_
                · rw [step_ch er]
                  exact eG _ _ g3
                · rw [step_ch er]
                  show _ = (((tr ++ [r]).length : Nat) : Int)
                  rw [List.length_append, List.length_singleton, hz1]
              · refine q_appL (l := pl) hplD (ev_var rfl) (el_lst (vs := [.str ("choose" : Str), .ref q2, .int 0]) (ea_cons ev_c (ea_cons (ev_if (b := false) (et_is (et_test (ev_op evh ev_c (rv_I0b rfl))) (decide_eq_false hpos)) (fun hb => by cases hb) (fun _ => ev_op (ev_var rfl) ev_c (rv_ixT (ex_t eD' h2) rfl))) (ea_cons ev_c ea_nil))) (by show 3 ≤ 100000; decide)) (by rw [List.length_append, List.length_singleton]; omega) fun tt HE htt eE hE => ?_
                obtain ⟨g1, g2, g3⟩ := side q2 qs2 n2 hq2 hb2' (if_neg hpos) tt HE htt eE hE
                refine s_asg (v := .int ((tr.length : Nat) + 1)) (ev_op (ev_var rfl) ev_c rv_I0) fun HG eG => ?_
                refine nxt HG pl _ _ _ _ hh' (g2.trans eG) ?_ (g1.ex eG) lp ?_
                · rw [step_ch er]
                  exact eG _ _ g3
                · rw [step_ch er]
                  show _ = (((tr ++ [r]).length : Nat) : Int)
                  rw [List.length_append, List.length_singleton, hz1]
            | st k =>
              rw [er] at hbr hokr
              obtain ⟨t', us', h1, h2, h3⟩ := hbr
              rw [hdrop] at h1
              have h1 := (List.cons.inj h1).1
              cases h1
              refine s_if (b := false) (et_is (et_test (ev_op (ev_op (ev_var rfl) ev_c (rv_ixT (ex_t eA h2) rfl)) ev_c (rv_eq rfl))) (str_ne (by decide +kernel))) (fun hb => by cases hb) (fun _ HB eB => ?_)
              refine s_if (b := false) (et_is (et_test (ev_op (ev_op (ev_var rfl) ev_c (rv_ixT (ex_t (eA.trans eB) h2) rfl)) ev_c (rv_eq rfl))) (str_ne (by decide +kernel))) (fun hb => by cases hb) (fun _ HC eC => ?_)
              refine s_if (b := true) (et_is (et_test (ev_op (ev_op (ev_var rfl) ev_c (rv_ixT (ex_t ((eA.trans eB).trans eC) h2) rfl)) ev_c (rv_eq rfl))) (str_eq rfl)) (fun _ HD eD => ?_) (fun hb => by cases hb)
              have eD' := ((eA.trans eB).trans eC).trans eD
              refine s_asgL (el_lst (vs := []) ea_nil (by show 0 ≤ 100000; decide)) fun pl2 HE hp2 eE hE => ?_
              have hlD := eD _ _ (eC _ _ (eB _ _ hlA))
              refine nxt HE pl2 _ _ _ _ hh' (eD'.trans eE) ?_ ?_ ?_ ?_
              · rw [step_st er]
                exact eE _ _ hlD
              · rw [step_st er]
                exact PlAt.nil hE (fresh_back eD' hp2)
              · intro z
                subst z
                rw [hlD] at hp2
                cases hp2
              · rw [step_st er]
            | bk b2 k =>
              rw [er] at hbr hokr
              obtain ⟨t', us', p2, ps2, h1, h2, hp2, hb2, h3⟩ := hbr
              rw [hdrop] at h1
              have h1 := (List.cons.inj h1).1
              cases h1
              refine s_if (b := false) (et_is (et_test (ev_op (ev_op (ev_var rfl) ev_c (rv_ixT (ex_t eA h2) rfl)) ev_c (rv_eq rfl))) (str_ne (by decide +kernel))) (fun hb => by cases hb) (fun _ HB eB => ?_)
              refine s_if (b := false) (et_is (et_test (ev_op (ev_op (ev_var rfl) ev_c (rv_ixT (ex_t (eA.trans eB) h2) rfl)) ev_c (rv_eq rfl))) (str_ne (by decide +kernel))) (fun hb => by cases hb) (fun _ HC eC => ?_)
              refine s_if (b := false) (et_is (et_test (ev_op (ev_op (ev_var rfl) ev_c (rv_ixT (ex_t ((eA.trans eB).trans eC) h2) rfl)) ev_c (rv_eq rfl))) (str_ne (by decide +kernel))) (fun hb => by cases hb) (fun _ HD eD => ?_)
              have eD' := ((eA.trans eB).trans eC).trans eD
              refine s_if (b := true) (et_is (et_or (a := true) (b := true) (et_is (et_test (ev_op (ev_op (ev_var rfl) ev_c (rv_ixT (ex_t eD' h2) rfl)) ev_c (rv_eq rfl))) (str_eq rfl)) (fun hb => by cases hb)) rfl) (fun _ HE eE => ?_) (fun hb => by cases hb)
              have eE' := eD'.trans eE
              have hlE := eE _ _ (eD _ _ (eC _ _ (eB _ _ hlA)))
              have hplE := eE _ _ (eD _ _ (eC _ _ (eB _ _ hplA)))
              have hPE := hPA.ex (((eB.trans eC).trans eD).trans eE)
              refine s_appL (l := pl) hplE (ev_var rfl) (el_lst (vs := [.str ("block" : Str), .ref p2, .int 0]) (ea_cons (ev_op (ev_var rfl) ev_c (rv_ixT (ex_t eE' h2) rfl)) (ea_cons (ev_op (ev_var rfl) ev_c (rv_ixT (ex_t eE' h2) rfl)) (ea_cons ev_c ea_nil))) (by show 3 ≤ 100000; decide)) (by rw [List.length_append, List.length_singleton]; omega) fun tt HG htt eG hG => ?_
              refine nxt _ pl _ _ _ _ hh' (Ex.mut (eE'.trans eG) fp) ?_ ?_ lp ?_
              · rw [step_bk er, upd_ne lp]
                exact eG _ _ hlE
              · rw [step_bk er]
                exact hPE.push (f := ⟨1, b2, 0⟩) eE' hplE htt hG eG hp2 hb2 (fun a o ha ho => by
                  rw [upd_ne ha]
                  exact ho) upd_same
              · rw [step_bk er]
            | lp b2 k =>
              rw [er] at hbr hokr
              obtain ⟨t', us', p2, ps2, h1, h2, hp2, hb2, h3⟩ := hbr
              rw [hdrop] at h1
              have h1 := (List.cons.inj h1).1
              cases h1
              refine s_if (b := false) (et_is (et_test (ev_op (ev_op (ev_var rfl) ev_c (rv_ixT (ex_t eA h2) rfl)) ev_c (rv_eq rfl))) (str_ne (by decide +kernel))) (fun hb => by cases hb) (fun _ HB eB => ?_)
              refine s_if (b := false) (et_is (et_test (ev_op (ev_op (ev_var rfl) ev_c (rv_ixT (ex_t (eA.trans eB) h2) rfl)) ev_c (rv_eq rfl))) (str_ne (by decide +kernel))) (fun hb => by cases hb) (fun _ HC eC => ?_)
              refine s_if (b := false) (et_is (et_test (ev_op (ev_op (ev_var rfl) ev_c (rv_ixT (ex_t ((eA.trans eB).trans eC) h2) rfl)) ev_c (rv_eq rfl))) (str_ne (by decide +kernel))) (fun hb => by cases hb) (fun _ HD eD => ?_)
              have eD' := ((eA.trans eB).trans eC).trans eD
              refine s_if (b := true) (et_is (et_or (a := false) (b := true) (et_is (et_test (ev_op (ev_op (ev_var rfl) ev_c (rv_ixT (ex_t eD' h2) rfl)) ev_c (rv_eq rfl))) (str_ne (by decide +kernel))) (fun _ => et_is (et_test (ev_op (ev_op (ev_var rfl) ev_c (rv_ixT (ex_t eD' h2) rfl)) ev_c (rv_eq rfl))) (str_eq rfl))) rfl) (fun _ HE eE => ?_) (fun hb => by cases hb)
              have eE' := eD'.trans eE
              have hlE := eE _ _ (eD _ _ (eC _ _ (eB _ _ hlA)))
              have hplE := eE _ _ (eD _ _ (eC _ _ (eB _ _ hplA)))
              have hPE := hPA.ex (((eB.trans eC).trans eD).trans eE)
              refine s_appL (l := pl) hplE (ev_var rfl) (el_lst (vs := [.str ("loop" : Str), .ref p2, .int 0]) (ea_cons (ev_op (ev_var rfl) ev_c (rv_ixT (ex_t eE' h2) rfl)) (ea_cons (ev_op (ev_var rfl) ev_c (rv_ixT (ex_t eE' h2) rfl)) (ea_cons ev_c ea_nil))) (by show 3 ≤ 100000; decide)) (by rw [List.length_append, List.length_singleton]; omega) fun tt HG htt eG hG => ?_
              refine nxt _ pl _ _ _ _ hh' (Ex.mut (eE'.trans eG) fp) ?_ ?_ lp ?_
              · rw [step_lp er, upd_ne lp]
                exact eG _ _ hlE
              · rw [step_lp er]
                exact hPE.push (f := ⟨2, b2, 0⟩) eE' hplE htt hG eG hp2 hb2 (fun a o ha ho => by
                  rw [upd_ne ha]
                  exact ho) upd_same
              · rw [step_lp er]
            | lv d k =>
              rw [er] at hbr hokr
              obtain ⟨t', us', h1, h2, h3⟩ := hbr
              rw [hdrop] at h1
              have h1 := (List.cons.inj h1).1
              cases h1
              refine s_if (b := false) (et_is (et_test (ev_op (ev_op (ev_var rfl) ev_c (rv_ixT (ex_t eA h2) rfl)) ev_c (rv_eq rfl))) (str_ne (by decide +kernel))) (fun hb => by cases hb) (fun _ HB eB => ?_)
              refine s_if (b := false) (et_is (et_test (ev_op (ev_op (ev_var rfl) ev_c (rv_ixT (ex_t (eA.trans eB) h2) rfl)) ev_c (rv_eq rfl))) (str_ne (by decide +kernel))) (fun hb => by cases hb) (fun _ HC eC => ?_)
              refine s_if (b := false) (et_is (et_test (ev_op (ev_op (ev_var rfl) ev_c (rv_ixT (ex_t ((eA.trans eB).trans eC) h2) rfl)) ev_c (rv_eq rfl))) (str_ne (by decide +kernel))) (fun hb => by cases hb) (fun _ HD eD => ?_)
              have eD' := ((eA.trans eB).trans eC).trans eD
              refine s_if (b := false) (et_is (et_or (a := false) (b := false) (et_is (et_test (ev_op (ev_op (ev_var rfl) ev_c (rv_ixT (ex_t eD' h2) rfl)) ev_c (rv_eq rfl))) (str_ne (by decide +kernel))) (fun _ => et_is (et_test (ev_op (ev_op (ev_var rfl) ev_c (rv_ixT (ex_t eD' h2) rfl)) ev_c (rv_eq rfl))) (str_ne (by decide +kernel)))) rfl) (fun hb => by cases hb) (fun _ HE eE => ?_)
              have eE' := eD'.trans eE
              have hlE := eE _ _ (eD _ _ (eC _ _ (eB _ _ hlA)))
              have hPE := hPA.ex (((eB.trans eC).trans eD).trans eE)
              refine s_gone (F := H) (fs := f.inc :: fs) (ag := false) (d := d) (ev_var rfl) (ev_var rfl) eE' hPE h2 hokr.1 (by rw [List.length_cons]; rw [List.length_cons] at hlen5; omega) fun HG g1 g2 g3 => ?_
              refine nxt HG pl _ _ _ _ hh' g1 ?_ ?_ lp ?_
              · rw [step_lv er]
                exact g2 _ _ hlE lp (not_isFr_ints bx)
              · rw [step_lv er]
                exact g3
              · rw [step_lv er]
            | ag d k =>
              rw [er] at hbr hokr
              obtain ⟨t', us', h1, h2, h3⟩ := hbr
              rw [hdrop] at h1
              have h1 := (List.cons.inj h1).1
              cases h1
              refine s_if (b := false) (et_is (et_test (ev_op (ev_op (ev_var rfl) ev_c (rv_ixT (ex_t eA h2) rfl)) ev_c (rv_eq rfl))) (str_ne (by decide +kernel))) (fun hb => by cases hb) (fun _ HB eB => ?_)
              refine s_if (b := false) (et_is (et_test (ev_op (ev_op (ev_var rfl) ev_c (rv_ixT (ex_t (eA.trans eB) h2) rfl)) ev_c (rv_eq rfl))) (str_ne (by decide +kernel))) (fun hb => by cases hb) (fun _ HC eC => ?_)
              refine s_if (b := false) (et_is (et_test (ev_op (ev_op (ev_var rfl) ev_c (rv_ixT (ex_t ((eA.trans eB).trans eC) h2) rfl)) ev_c (rv_eq rfl))) (str_ne (by decide +kernel))) (fun hb => by cases hb) (fun _ HD eD => ?_)
              have eD' := ((eA.trans eB).trans eC).trans eD
              refine s_if (b := false) (et_is (et_or (a := false) (b := false) (et_is (et_test (ev_op (ev_op (ev_var rfl) ev_c (rv_ixT (ex_t eD' h2) rfl)) ev_c (rv_eq rfl))) (str_ne (by decide +kernel))) (fun _ => et_is (et_test (ev_op (ev_op (ev_var rfl) ev_c (rv_ixT (ex_t eD' h2) rfl)) ev_c (rv_eq rfl))) (str_ne (by decide +kernel)))) rfl) (fun hb => by cases hb) (fun _ HE eE => ?_)
              have eE' := eD'.trans eE
              have hlE := eE _ _ (eD _ _ (eC _ _ (eB _ _ hlA)))
              have hPE := hPA.ex (((eB.trans eC).trans eD).trans eE)
              refine s_gone (F := H) (fs := f.inc :: fs) (ag := true) (d := d) (ev_var rfl) (ev_var rfl) eE' hPE h2 hokr.1 (by rw [List.length_cons]; rw [List.length_cons] at hlen5; omega) fun HG g1 g2 g3 => ?_
              refine nxt HG pl _ _ _ _ hh' g1 ?_ ?_ lp ?_
              · rw [step_ag er]
                exact g2 _ _ hlE lp (not_isFr_ints bx)
              · rw [step_ag er]
                exact g3
              · rw [step_ag er]
      · cases fs0 with
        | cons f fs => cases hb
        | nil =>
        have hl5 := e5 _ _ hl'
        refine s_retU (eu_tup (vs := [.ref l, .int (tr.length : Nat), .bl true]) (ea_cons (ev_var rfl) (ea_cons (ev_var rfl) (ea_cons ev_c ea_nil))) (by show 3 ≤ 100000; decide)) fun tt H10 htt e10 h10 => ?_
        exact q _ H10 ((e.trans e5).trans e10) ⟨tt, l, ([], bx, tr), rfl, l0, hend _ (EndsF.done rfl), e10 _ _ hl5, h10⟩

abbrev s__law_ints : Stmt := topS 17
theorem sc__law_ints : FnScope ["_law_found", "_law_due", "_law_k"] ["_law_found", "_law_due"] (defScope s__law_ints) := ⟨rfl, rfl, rfl, by decide +kernel, rfl, by decide +kernel, by decide +kernel⟩
theorem c__law_ints (T : Txt mg) (D : DefAt K mg "_law_ints" s__law_ints) : Cal P w K mg base CX0 1 "_law_ints" ["_law_found", "_law_due"] (spInts K) := by
  refine cal_of (k := 0) D sc__law_ints (fun _ _ _ _ _ _ us hl => match us, hl with | [_, _], _ => rfl) (fun vs H Q E h => ?_) (fun f cdv A outer s H vs Q E hr h => ?_)
  · obtain ⟨⟨a, b, xs, ys⟩, ⟨rfl, _⟩, _⟩ := h
    rfl
  · obtain ⟨⟨a, b, xs, ys⟩, ⟨rfl, hA, hB, hz⟩, q⟩ := h
    walk_at "ds"
    refine ⟨_, (pss_cons (ps_if (PW.pt (pw_or (pt_not (pt_val (pe_callB (k_isi (K := K) rfl) (by rfl) T.n_isinstance (by decide +kernel) (pa_cons (pv 0) (pa_cons (pe_bltn (v := .ty "list") (by rfl) T.n_list (by decide +kernel) rfl) pa_nil))))) (pw_or1 (pt_cmpR op_ne (pe_callB (k_len_seq (K := K) rfl) (by rfl) T.n_len PySem.boot_len (pa_cons (pv 0) pa_nil)) (pe_callB (k_len_seq (K := K) rfl) (by rfl) T.n_len PySem.boot_len (pa_cons (pv 1) pa_nil)) (nomark _))))) (pss_one (ps_ret pe_bl)) pss_nil)
    (pss_cons (ps_for PassesOwn.never rfl (pi_range1 (by rfl) T.n_range (pa_cons (pe_callB (k_len_seq (K := K) rfl) (by rfl) T.n_len PySem.boot_len (pa_cons (pv 1) pa_nil)) pa_nil)) (pg_name (i := 2) sc__law_ints.nd rfl (by first | exact Or.inl rfl | exact Or.inr rfl)) (pss_one (ps_if (PW.pt (pw_or (pt_not (pt_val (pe_callB (k_isi (K := K) rfl) (by rfl) T.n_isinstance (by decide +kernel) (pa_cons (pe_ix (k_ix_list (K := K) rfl) (pv 0) (pv 2) (fun _ _ => rfl)) (pa_cons (pe_bltn (v := .ty "int") (by rfl) T.n_int (by decide +kernel) rfl) pa_nil))))) (pw_or (pt_val (pe_callB (k_isi (K := K) rfl) (by rfl) T.n_isinstance (by decide +kernel) (pa_cons (pe_ix (k_ix_list (K := K) rfl) (pv 0) (pv 2) (fun _ _ => rfl)) (pa_cons (pe_bltn (v := .ty "bool") (by rfl) T.n_bool (by decide +kernel) rfl) pa_nil)))) (pw_or1 (pt_cmpR op_ne (pe_ix (k_ix_list (K := K) rfl) (pv 0) (pv 2) (fun _ _ => rfl)) (pe_ix (k_ix_list (K := K) rfl) (pv 1) (pv 2) (fun _ _ => rfl)) (nomark _)))))) (pss_one (ps_ret pe_bl)) pss_nil)))
    (pss_one (ps_ret pe_bl)))), ?_⟩
    have hSA : SqL K H a (xs.map V.int) := SqL.of hA
    apply q_when
    · exact et_or (b := !decide (xs.length = ys.length)) (by walk_at "et") fun _ => et_test (ev_is (v := .bl (!decide (V.int ((xs.map V.int).length : Nat) = V.int ((ys.map V.int).length : Nat)))) (by walk_at "ev") (by
        rw [List.length_map, List.length_map]
        congr 2
        exact decide_eq_decide.mpr ⟨fun z => by have := V.int.inj z; omega, fun z => by rw [z]⟩))
    · intro hb H1 e1
      have hne : ¬ xs.length = ys.length := by
        rw [Bool.not_true, Bool.false_or, Bool.not_eq_true', decide_eq_false_iff_not] at hb
        exact hb
      refine s_ret (v := .bl false) (by walk_at "ev") fun H2 e2 => q _ H2 (e1.trans e2) ?_
      rw [decide_eq_false (fun z => hne (by rw [z]))]
    · intro hb H1 e1
      have hl : xs.length = ys.length := by
        rw [Bool.not_true, Bool.false_or, Bool.not_eq_false', decide_eq_true_iff] at hb
        exact hb
      have hB1 := ex_l e1 hB
      have hA1 := e1 a _ hA
      have hSA1 : SqL K H1 a (xs.map V.int) := SqL.of hA1
      refine q_forR1 (n := ((ys.map V.int).length : Nat)) (by walk_at "ea") ⟨by omega, by rw [List.length_map]; omega⟩ (fun i σ' H' => Ex H1 H' ∧ (∀ j, j < i → xs[j]? = ys[j]?) ∧ ∃ y, σ' = [some (.ref a), some (.ref b), y]) (fun H2 e2 => ⟨e2, fun j hj => absurd hj (Nat.not_lt_zero j), none, rfl⟩) ?_ ?_
      · rintro i σ' H' hi ⟨e, hp, y, rfl⟩
        rw [List.length_map] at hi
        have hiy : i < ys.length := by omega
        have hix : i < xs.length := by omega
        have hBe := ex_l e hB1
        have hAe := ex_l e hSA1
        have gx : atI (xs.map V.int) ((i : Nat) : Int) = some (.int xs[i]) := atI_nat (by rw [List.getElem?_map, List.getElem?_eq_getElem hix]; rfl)
        have gy : atI (ys.map V.int) ((i : Nat) : Int) = some (.int ys[i]) := atI_nat (by rw [List.getElem?_map, List.getElem?_eq_getElem hiy]; rfl)
        have evx : Ev (tOp (rIxL K) (tVar 0) (tVar 2)) [some (.ref a), some (.ref b), some (.int ((i : Nat) : Int))] H' (.int xs[i]) := by walk_at "ev"
        have evy : Ev (tOp (rIxL K) (tVar 1) (tVar 2)) [some (.ref a), some (.ref b), some (.int ((i : Nat) : Int))] H' (.int ys[i]) := by walk_at "ev"
        refine s_when (b := !decide (xs[i] = ys[i])) (et_is (et_or (b := !decide (xs[i] = ys[i])) (et_not (et_B (ev_isi evx (by walk_at "ty") kb_ii))) fun _ => et_or (b := !decide (xs[i] = ys[i])) (et_B (ev_isi evx (by walk_at "ty") kb_ib)) fun _ => et_test (ev_is (ev_op evx evy (rv_ne rfl)) ?_)) ?_) ?_ ?_
        · congr 2
          exact decide_eq_decide.mpr ⟨fun z => V.int.inj z, fun z => by rw [z]⟩
        · rfl
        · intro hb H2 e2
          rw [Bool.not_eq_true', decide_eq_false_iff_not] at hb
          refine s_ret (v := .bl false) (by walk_at "ev") fun H3 e3 => q _ H3 ((e1.trans e).trans (e2.trans e3)) ?_
          rw [decide_eq_false (fun z => hb (by subst z; rfl))]
        · intro hb H2 e2
          rw [Bool.not_eq_false', decide_eq_true_iff] at hb
          refine ⟨e.trans e2, fun j hj => ?_, _, rfl⟩
          by_cases hji : j < i
          · exact hp j hji
          · have : j = i := by omega
            subst this
            rw [List.getElem?_eq_getElem hix, List.getElem?_eq_getElem hiy, hb]
      · rintro σ' H' ⟨e, hp, y, rfl⟩
        refine s_ret (v := .bl true) (by walk_at "ev") fun H3 e3 => q _ H3 ((e1.trans e).trans e3) ?_
        rw [decide_eq_true]
        refine List.ext_getElem? fun j => ?_
        by_cases hj : j < ys.length
        · exact hp j (by
            show j < ((((ys.map V.int).length : Nat) : Int)).toNat
            rw [List.length_map]
            omega)
        · rw [List.getElem?_eq_none (by omega), List.getElem?_eq_none (by omega)]

abbrev s__law_number_by : Stmt := topS 16
theorem sc__law_number_by : FnScope ["_law_cell"] ["_law_cell"] (defScope s__law_number_by) := ⟨rfl, rfl, rfl, by decide +kernel, rfl, by decide +kernel, by decide +kernel⟩
theorem c__law_number_by (T : Txt mg) (D : DefAt K mg "_law_number_by" s__law_number_by) : Cal P w K mg base CX0 1 "_law_number_by" ["_law_cell"] spNum := by
  refine cal_of (k := 0) D sc__law_number_by (fun _ _ _ _ _ _ us hl => match us, hl with | [_], _ => rfl) (fun vs H Q E h => ?_) (fun f cdv A outer s H vs Q E hr h => ?_)
  · obtain ⟨c, ⟨rfl, _⟩, _⟩ := h
    rfl
  · obtain ⟨c, ⟨rfl, hb⟩, q⟩ := h
    walk_at "ds"
    refine ⟨_, (pss_cons (ps_if (pt_cmpR op_eq (pe_op op_modN (pv 0) pe_int) pe_int (nomark _)) (pss_one (ps_ret (pe_op op_mulA (pe_op op_modN (pe_op op_mulA (pv 0) (pe_op op_add (pe_op op_pow pe_int pe_int) pe_int)) (pe_op op_pow pe_int pe_int)) (pe_op op_sub pe_int (pe_op op_mulA pe_int (pe_op op_modN (pe_op op_fdivN (pv 0) pe_int) pe_int)))))) pss_nil)
    (pss_one (ps_ret (pe_op op_sub (pe_op op_modN (pe_op op_fdivN (pv 0) pe_int) pe_int) pe_int)))), ?_⟩
    have m1 : IntMulOk c (10 ^ (59 : Int).toNat + 7) := mulok_bits (a := LB) (b := 300) hb (by decide +kernel) (by decide)
    have m2 : IntMulOk (c * (10 ^ (59 : Int).toNat + 7) % 10 ^ (60 : Int).toNat) (1 - 2 * (c / 9 % 2)) := by
      have h1 : 0 ≤ c / 9 % 2 := Int.emod_nonneg _ (by decide)
      have h2 : c / 9 % 2 < 2 := Int.emod_lt_of_pos _ (by decide)
      exact mulok_r (by omega) (by omega)
    have p1 : (0 : Int) < 10 ^ (60 : Int).toNat := by decide +kernel
    apply q_when
    · walk_at "et"
    · intro hb2 H1 e1
      have hc : c % 9 = 4 := V.int.inj (of_decide_eq_true hb2)
      refine' s_ret (v := .int (c * (10 ^ (59 : Int).toNat + 7) % 10 ^ (60 : Int).toNat * (1 - 2 * (c / 9 % 2)))) ?_ fun H2 e2 => q _ H2 (e1.trans e2) ?_
      · walk_at "ev"
      · show _ = V.int (numBy c)
        unfold numBy
        rw [if_pos hc]
        rfl
    · intro hb2 H1 e1
      have hc : ¬ c % 9 = 4 := fun z => of_decide_eq_false hb2 (by rw [z])
      refine' s_ret (v := .int (c / 9 % 9 - 4)) ?_ fun H2 e2 => q _ H2 (e1.trans e2) ?_
      · walk_at "ev"
      · show _ = V.int (numBy c)
        unfold numBy
        rw [if_neg hc]

abbrev s__law_cell_at : Stmt := topS 15
theorem sc__law_cell_at : FnScope ["_law_script", "_law_k"] ["_law_script", "_law_k"] (defScope s__law_cell_at) := ⟨rfl, rfl, rfl, by decide +kernel, rfl, by decide +kernel, by decide +kernel⟩
theorem c__law_cell_at (T : Txt mg) (D : DefAt K mg "_law_cell_at" s__law_cell_at) : Cal P w K mg base CX0 1 "_law_cell_at" ["_law_script", "_law_k"] (spCellU K) := by
  refine cal_of (k := 0) D sc__law_cell_at (fun _ _ _ _ _ _ us hl => match us, hl with | [_, _], _ => rfl) (fun vs H Q E h => ?_) (fun f cdv A outer s H vs Q E hr h => ?_)
  · obtain ⟨⟨a, ns, k⟩, ⟨rfl, _⟩, _⟩ := h
    rfl
  · obtain ⟨⟨a, ns, k⟩, ⟨rfl, hS⟩, q⟩ := h
    walk_at "ds"
    refine ⟨_, (pss_cons (ps_if (pt_cmpR op_lt (pv 1) (pe_callB (k_len_seq (K := K) rfl) (by rfl) T.n_len PySem.boot_len (pa_cons (pv 0) pa_nil)) (nomark _)) (pss_one (ps_ret (pe_ix (k_ix_list (K := K) rfl) (pv 0) (pv 1) (fun _ _ => rfl)))) pss_nil)
    (pss_one (ps_ret pe_int))), ?_⟩
    apply q_when
    · walk_at "et"
    · intro hb H1 e1
      have hk : k < ns.length := by
        have := of_decide_eq_true hb
        rw [List.length_map] at this
        omega
      have ha : atI (ns.map V.int) ((k : Nat) : Int) = some (.int ns[k]) := atI_nat (by rw [List.getElem?_map, List.getElem?_eq_getElem hk]; rfl)
      have hS1 := ex_l e1 hS
      refine s_ret (v := .int ns[k]) (by walk_at "ev") fun H2 e2 => q _ H2 (e1.trans e2) ?_
      show V.int ns[k] = V.int (ns.getD k 0)
      rw [List.getD_eq_getElem?_getD, List.getElem?_eq_getElem hk]
      rfl
    · intro hb H1 e1
      have hk : ¬ k < ns.length := by
        have := of_decide_eq_false hb
        rw [List.length_map] at this
        omega
      refine s_ret (v := .int 0) (by walk_at "ev") fun H2 e2 => q _ H2 (e1.trans e2) ?_
      show V.int 0 = V.int (ns.getD k 0)
      rw [List.getD_eq_getElem?_getD, List.getElem?_eq_none (by omega)]
      rfl

abbrev s__law_ended : Stmt := topS 18
theorem sc__law_ended : FnScope ["_law_found", "_law_due"] ["_law_found", "_law_due"] (defScope s__law_ended) := ⟨rfl, rfl, rfl, by decide +kernel, rfl, by decide +kernel, by decide +kernel⟩
theorem c__law_ended (T : Txt mg) (D : DefAt K mg "_law_ended" s__law_ended) (c__law_ints : Cal P w K mg base CX0 1 "_law_ints" ["_law_found", "_law_due"] (spInts K)) : Cal P w K mg base CX0 2 "_law_ended" ["_law_found", "_law_due"] (spEnded K) := by
  refine cal_of (k := 1) D sc__law_ended (fun _ _ _ _ _ _ us hl => match us, hl with | [_, _], _ => rfl) (fun vs H Q E h => ?_) (fun f cdv A outer s H vs Q E hr h => ?_)
  · obtain ⟨⟨⟨a, l, xs, i, b⟩, c, m, ys, j, d, more⟩, ⟨rfl, _⟩, _⟩ := h
    rfl
  · obtain ⟨⟨⟨a, l, xs, i, b⟩, c, m, ys, j, d, more⟩, ⟨rfl, hA, hL, hC, hM, hz⟩, q⟩ := h
    walk_at "ds"
    refine ⟨_, (pss_cons (ps_if (PW.pt (pw_or (pt_not (pt_val (pe_callB (k_isi (K := K) rfl) (by rfl) T.n_isinstance (by decide +kernel) (pa_cons (pv 0) (pa_cons (pe_bltn (v := .ty "tuple") (by rfl) T.n_tuple (by decide +kernel) rfl) pa_nil))))) (pw_or (pt_cmpR op_ne (pe_callB (k_len_seq (K := K) rfl) (by rfl) T.n_len PySem.boot_len (pa_cons (pv 0) pa_nil)) pe_int (nomark _)) (pw_or1 (pt_not (pt_val (pe_cal c__law_ints (hr.mono (by decide)) (by rfl) pass0 (pa_cons (pe_ix (k_ix_tup (K := K) rfl) (pv 0) pe_int (fun _ _ => rfl)) (pa_cons (pe_ix (k_ix_list (K := K) rfl) (pv 1) pe_int (fun _ _ => rfl)) pa_nil))))))))) (pss_one (ps_ret pe_bl)) pss_nil)
    (pss_cons (ps_if (PW.pt (pw_or (pt_not (pt_val (pe_callB (k_isi (K := K) rfl) (by rfl) T.n_isinstance (by decide +kernel) (pa_cons (pe_ix (k_ix_tup (K := K) rfl) (pv 0) pe_int (fun _ _ => rfl)) (pa_cons (pe_bltn (v := .ty "int") (by rfl) T.n_int (by decide +kernel) rfl) pa_nil))))) (pw_or (pt_val (pe_callB (k_isi (K := K) rfl) (by rfl) T.n_isinstance (by decide +kernel) (pa_cons (pe_ix (k_ix_tup (K := K) rfl) (pv 0) pe_int (fun _ _ => rfl)) (pa_cons (pe_bltn (v := .ty "bool") (by rfl) T.n_bool (by decide +kernel) rfl) pa_nil)))) (pw_or1 (pt_not (pt_val (pe_callB (k_isi (K := K) rfl) (by rfl) T.n_isinstance (by decide +kernel) (pa_cons (pe_ix (k_ix_tup (K := K) rfl) (pv 0) pe_int (fun _ _ => rfl)) (pa_cons (pe_bltn (v := .ty "bool") (by rfl) T.n_bool (by decide +kernel) rfl) pa_nil))))))))) (pss_one (ps_ret pe_bl)) pss_nil)
    (pss_one (ps_ret (pe_and (pe_cmpR op_eq (pe_ix (k_ix_tup (K := K) rfl) (pv 0) pe_int (fun _ _ => rfl)) (pe_ix (k_ix_list (K := K) rfl) (pv 1) pe_int (fun _ _ => rfl)) (nomark _)) (pe_one (pe_cmpR op_eq (pe_ix (k_ix_tup (K := K) rfl) (pv 0) pe_int (fun _ _ => rfl)) (pe_ix (k_ix_list (K := K) rfl) (pv 1) pe_int (fun _ _ => rfl)) (nomark _)))))))), ?_⟩
    have hAT : SqT K H a [.ref l, .int i, .bl b] := SqT.of hA
    have hC : SqL K H c (.ref m :: .int j :: .bl d :: more) := hC
    have k0 : atI (V.ref m :: .int j :: .bl d :: more) 0 = some (.ref m) := atI_nat (j := 0) rfl
    have k1 : atI (V.ref m :: .int j :: .bl d :: more) 1 = some (.int j) := atI_nat (j := 1) rfl
    have k2 : atI (V.ref m :: .int j :: .bl d :: more) 2 = some (.bl d) := atI_nat (j := 2) rfl
    have f0 : atI [V.ref l, .int i, .bl b] 0 = some (.ref l) := atI_nat (j := 0) rfl
    have ecall := ev_callV (E := E0) (f := fun g : Addr × Addr × List Int × List Int => V.bl (decide (g.2.2.1 = g.2.2.2))) (pre := fun g vs H => vs = [.ref g.1, .ref g.2.1] ∧ H g.1 = some (.lst (g.2.2.1.map V.int)) ∧ SqL K H g.2.1 (g.2.2.2.map V.int) ∧ g.2.2.2.length ≤ 40000)
      (σ := [some (V.ref a), some (V.ref c)]) (l, m, xs, ys) (ea_cons (ta := tOp (rIxT K) (tVar 0) (tC (.int 0))) (by walk_at "ev") (ea_cons (ta := tOp (rIxL K) (tVar 1) (tC (.int 0))) (by walk_at "ev") ea_nil)) (fun H1 e1 => ⟨rfl, e1 l _ hL, ex_l e1 hM, hz⟩)
    refine q_when (b := !decide (xs = ys)) ?_ ?_ ?_
    · refine et_is (et_or (a := false) (b := !decide (xs = ys)) (et_is (et_not (et_B (b := true) (by walk_at "ev"))) rfl) fun _ => et_is (et_or (a := false) (b := !decide (xs = ys)) (et_test (b := false) (ev_is (by walk_at "ev") (by rfl))) fun _ => ?_) rfl) rfl
      exact et_not (et_B ecall)
    · intro hb H1 e1
      rw [Bool.not_eq_true', decide_eq_false_iff_not] at hb
      refine s_ret (v := .bl false) (by walk_at "ev") fun H2 e2 => q _ H2 (e1.trans e2) ?_
      rw [decide_eq_false hb]
      rfl
    · intro hb H1 e1
      rw [Bool.not_eq_false', decide_eq_true_iff] at hb
      have hAT1 := ex_t e1 hAT
      have hC1 := ex_l e1 hC
      have f1 : atI [V.ref l, .int i, .bl b] 1 = some (.int i) := atI_nat (j := 1) rfl
      have f2 : atI [V.ref l, .int i, .bl b] 2 = some (.bl b) := atI_nat (j := 2) rfl
      refine q_when (b := false) ?_ (fun hb => by cases hb) fun _ H2 e2 => ?_
      · have g1 : Ev (tOp (rIxT K) (tVar 0) (tC (.int 1))) [some (V.ref a), some (V.ref c)] H1 (.int i) := by walk_at "ev"
        have g2 : Ev (tOp (rIxT K) (tVar 0) (tC (.int 2))) [some (V.ref a), some (V.ref c)] H1 (.bl b) := by walk_at "ev"
        exact et_is (et_or (a := false) (b := false) (et_is (et_not (et_B (b := true) (ev_isi g1 (fun _ _ => TyX.base (TyOf.int _)) kb_ii))) rfl) fun _ => et_is (et_or (a := false) (b := false) (et_B (ev_isi g1 (fun _ _ => TyX.base (TyOf.int _)) kb_ib)) fun _ => et_is (et_not (et_B (b := true) (ev_isi g2 (fun _ _ => TyX.base (TyOf.bl _)) kb_bb))) rfl) rfl) rfl
      · have hAT2 := ex_t e2 hAT1
        have hC2 := ex_l e2 hC1
        refine s_ret (v := .bl (decide (V.int i = V.int j) && decide (V.bl b = V.bl d))) (ev_andV (by walk_at "ev") fun _ => by walk_at "ev") fun H3 e3 => q _ H3 (e1.trans (e2.trans e3)) ?_
        rw [decide_eq_true hb, Bool.true_and]
        congr 2
        · exact decide_eq_decide.mpr ⟨fun z => V.int.inj z, fun z => by rw [z]⟩
        · exact decide_eq_decide.mpr ⟨fun z => V.bl.inj z, fun z => by rw [z]⟩

abbrev s_told : Stmt := topS 11
theorem sc_told : FnScope ["body", "found", "deed"] ["body"] (defScope s_told) := ⟨rfl, rfl, rfl, by decide +kernel, rfl, by decide +kernel, by decide +kernel⟩
theorem cs_told (T : Txt mg) (D : DefAt K mg "told" s_told) {n j : Nat} (hj : 1 ≤ j) (c_told : Cal P w K mg base CX0 j "told" ["body"] (spTold' K n)) : Cal P w K mg base CX0 (j + 1) "told" ["body"] (spTold' K (n + 1)) := by
  refine cal_of (k := j) D sc_told (fun _ _ _ _ _ _ us hl => match us, hl with | [_], _ => rfl) (fun vs H Q E h => ?_) (fun f cdv A outer s H vs Q E hr h => ?_)
  · have h : spTold K n vs H Q E := h
    obtain ⟨⟨a, b⟩, ⟨rfl, _⟩, _⟩ := h
    rfl
  · have h : spTold K n vs H Q E := h
    obtain ⟨⟨a, b⟩, ⟨rfl, ⟨ts, hts, hbs⟩, hn, hz⟩, q⟩ := h
    walk_at "ds"
    refine ⟨_, (pss_cons (ps_set (i := 1) sc_told.nd rfl (by first | exact Or.inl rfl | exact Or.inr rfl) (pe_lst pa_nil))
    (pss_cons (ps_for PassesOwn.never rfl (pi_tup (pv 0)) (pg_name (i := 2) sc_told.nd rfl (by first | exact Or.inl rfl | exact Or.inr rfl)) (pss_cons (ps_if (pt_cmpR op_eq (pe_ix (k_ix_tup (K := K) rfl) (pv 2) pe_int (fun _ _ => rfl)) pe_str (nomark _)) (pss_one (ps_expr (pe_bm PySem.F.plainAttrs_list PySem.F.slot_list_append PySem.F.type_list_append mt_append (pv 1) (pa_cons (pe_ix (k_ix_tup (K := K) rfl) (pv 2) pe_int (fun _ _ => rfl)) pa_nil)))) pss_nil)
    (pss_cons (ps_if (pt_cmpR op_eq (pe_ix (k_ix_tup (K := K) rfl) (pv 2) pe_int (fun _ _ => rfl)) pe_str (nomark _)) (pss_one (ps_set (i := 1) sc_told.nd rfl (by first | exact Or.inl rfl | exact Or.inr rfl) (pe_op op_cat (pe_op op_cat (pe_op op_cat (pv 1) (pe_lst (pa_cons (pe_ix (k_ix_tup (K := K) rfl) (pv 2) pe_int (fun _ _ => rfl)) pa_nil))) (pe_cal c_told hr (by rfl) pass0 (pa_cons (pe_ix (k_ix_tup (K := K) rfl) (pv 2) pe_int (fun _ _ => rfl)) pa_nil))) (pe_cal c_told hr (by rfl) pass0 (pa_cons (pe_ix (k_ix_tup (K := K) rfl) (pv 2) pe_int (fun _ _ => rfl)) pa_nil))))) pss_nil)
    (pss_one (ps_if (PW.pt (pw_or (pt_cmpR op_eq (pe_ix (k_ix_tup (K := K) rfl) (pv 2) pe_int (fun _ _ => rfl)) pe_str (nomark _)) (pw_or1 (pt_cmpR op_eq (pe_ix (k_ix_tup (K := K) rfl) (pv 2) pe_int (fun _ _ => rfl)) pe_str (nomark _))))) (pss_one (ps_set (i := 1) sc_told.nd rfl (by first | exact Or.inl rfl | exact Or.inr rfl) (pe_op op_cat (pv 1) (pe_cal c_told hr (by rfl) pass0 (pa_cons (pe_ix (k_ix_tup (K := K) rfl) (pv 2) pe_int (fun _ _ => rfl)) pa_nil))))) pss_nil)))))
    (pss_one (ps_ret (pv 1))))), ?_⟩
    have hn : b.nest ≤ n := hn
    have hz : b.size ≤ 50000 := hz
    refine q_asgL (el_lst (vs := []) ea_nil (by show 0 ≤ 100000; decide)) fun fa H1 f0 e1 h1 => ?_
    refine q_forT (ev_var rfl) (ex_t e1 hts) (fun i σ' H' => ∃ (fa : Addr) (acc : List Nat) (y : Option V), Ex H H' ∧ H fa = none ∧ H' fa = some (.lst (nv acc)) ∧ acc ++ (b.drop i).told = b.told ∧ σ' = [some (.ref a), some (.ref fa), y]) (fun H2 e2 => ⟨fa, [], none, e1.trans e2, f0, e2 _ _ h1, by rw [Bd.drop_zero]; rfl, rfl⟩) (fun i σ' H' _ ⟨fa, acc, y, e, _⟩ => ex_t e hts) ?_ ?_
    · rintro i x σ' H' hi ⟨fa, acc, y, e, f0, hf, hacc, rfl⟩
      have hil : i < ts.length := (List.getElem?_eq_some_iff.mp hi).1
      have hlen := hbs.len
      have hr : b.drop i ≠ .nil := fun z => by
        have := (Bd.drop_isNil i b (by omega)).mp z
        omega
      have hbr : BsAt K H (b.drop i) (ts.drop i) := hbs.drop
      have hd0 : (ts.drop i)[0]? = some x := by
        rw [List.getElem?_drop]
        exact hi
      have hnd := drop_nest i b
      have hzd := Bd.drop_size i b
      have hal : acc.length ≤ b.size := by
        have h1 := Bd.told_le b
        rw [← hacc, List.length_append] at h1
        omega
      have htl : (b.drop i).tl = b.drop (i + 1) := Bd.drop_tl i b
      have fin : ∀ (fa' : Addr) (acc' : List Nat) (H2 : Hp), Ex H H2 → H fa' = none → H2 fa' = some (.lst (nv acc')) → acc' ++ (b.drop i).tl.told = b.told → ∃ (fa : Addr) (acc : List Nat) (y : Option V), Ex H H2 ∧ H fa = none ∧ H2 fa = some (.lst (nv acc)) ∧ acc ++ (b.drop (i + 1)).told = b.told ∧ [some (V.ref a), some (.ref fa'), some x] = [some (.ref a), some (.ref fa), y] := fun fa' acc' H2 h1 h2 h3 h4 =>
        ⟨fa', acc', some x, h1, h2, h3, by rw [← htl]; exact h4, rfl⟩
      cases eb : b.drop i with
      | nil => exact absurd eb hr
      | dd r k =>
        rw [eb] at hbr hnd hzd hacc fin
        obtain ⟨t, us, h1, h2, h3⟩ := hbr
        rw [h1] at hd0
        have hd0 := Option.some.inj hd0
        subst hd0
        refine q_when (b := true) (et_is (et_test (ev_op (ev_op (ev_var rfl) ev_c (rv_ixT (ex_t e h2) rfl)) ev_c (rv_eq rfl))) (str_eq rfl)) (fun _ H2 e2 => ?_) (fun hb => by cases hb)
        refine s_app (l := fa) (xs := nv acc) (v := .int (r : Int)) (e2 _ _ hf) (ev_var rfl) (ev_op (ev_var rfl) ev_c (rv_ixT (ex_t (e.trans e2) h2) rfl)) (by rw [nv_len]; omega) fun H3 e3 => ?_
        have e4 : Ex H (upd H3 fa (.lst (nv acc ++ [.int (r : Int)]))) := Ex.mut ((e.trans e2).trans e3) f0
        have hf4 : upd H3 fa (.lst (nv acc ++ [.int (r : Int)])) fa = some (.lst (nv (acc ++ [r]))) := by rw [upd_same, nv_app]
        generalize upd H3 fa (.lst (nv acc ++ [.int (r : Int)])) = H4 at e4 hf4 ⊢
        refine q_when (b := false) (et_is (et_test (ev_op (ev_op (ev_var rfl) ev_c (rv_ixT (ex_t e4 h2) rfl)) ev_c (rv_eq rfl))) (str_ne (by decide +kernel))) (fun hb => by cases hb) (fun _ H5 e5 => ?_)
        refine s_when (b := false) (et_is (et_or (a := false) (b := false) (et_is (et_test (ev_op (ev_op (ev_var rfl) ev_c (rv_ixT (ex_t (e4.trans e5) h2) rfl)) ev_c (rv_eq rfl))) (str_ne (by decide +kernel))) (fun _ => (et_is (et_test (ev_op (ev_op (ev_var rfl) ev_c (rv_ixT (ex_t (e4.trans e5) h2) rfl)) ev_c (rv_eq rfl))) (str_ne (by decide +kernel))))) rfl) (fun hb => by cases hb) (fun _ H6 e6 => ?_)
        refine fin fa (acc ++ [r]) H6 ((e4.trans e5).trans e6) f0 (e6 _ _ (e5 _ _ hf4)) ?_
        rw [List.append_assoc]
        exact hacc
      | ch r y2 n2 k =>
        rw [eb] at hbr hnd hzd hacc fin
        obtain ⟨t, us, p2, ps2, q2, qs2, h1, h2, hp2, hb2, hq2, hb2', h3⟩ := hbr
        rw [h1] at hd0
        have hd0 := Option.some.inj hd0
        subst hd0
        refine q_when (b := false) (et_is (et_test (ev_op (ev_op (ev_var rfl) ev_c (rv_ixT (ex_t e h2) rfl)) ev_c (rv_eq rfl))) (str_ne (by decide +kernel))) (fun hb => by cases hb) (fun _ H2 e2 => ?_)
        refine q_when (b := true) (et_is (et_test (ev_op (ev_op (ev_var rfl) ev_c (rv_ixT (ex_t (e.trans e2) h2) rfl)) ev_c (rv_eq rfl))) (str_eq rfl)) (fun _ H3 e3 => ?_) (fun hb => by cases hb)
        have e3' := (e.trans e2).trans e3
        have hn1 : max (max y2.nest n2.nest + 1) k.nest ≤ b.nest := hnd
        have hz1 : y2.size + n2.size + k.size + 2 ≤ b.size := hzd
        obtain ⟨m, rfl⟩ : ∃ m, n = m + 1 := ⟨n - 1, by omega⟩
        have hty := Bd.told_le y2
        have htn := Bd.told_le n2
        have ht0 := Bd.told_le b
        have hlen2 : acc.length + (1 + y2.told.length + n2.told.length) ≤ 50000 := by
          have h1 := congrArg List.length hacc
          rw [List.length_append] at h1
          have h2 : (Bd.ch r y2 n2 k).told.length = y2.told.length + n2.told.length + k.told.length + 1 := by
            show (r :: (y2.told ++ n2.told ++ k.told)).length = _
            rw [List.length_cons, List.length_append, List.length_append]
          omega
        refine q_asgL (xs := nv (acc ++ [r] ++ y2.told ++ n2.told)) ?_ fun fb H4 fb0 e4 h4 => ?_
        · rw [nv_append, nv_append, nv_append]
          refine el_catL (el_catL (el_catV (ev_var rfl) (e3 _ _ (e2 _ _ hf)) (el_lst (vs := [.int (r : Int)]) (ea_cons (ev_op (ev_var rfl) ev_c (rv_ixT (ex_t e3' h2) rfl)) ea_nil) (by show 1 ≤ 100000; decide)) ?_) (el_told (ev_op (ev_var rfl) ev_c (rv_ixT (v := .ref p2) (ex_t e3' h2) rfl)) ⟨ps2, ex_t e3' hp2, hb2.ex e3'⟩ (by omega) (by omega)) ?_) (el_told (ev_op (ev_var rfl) ev_c (rv_ixT (v := .ref q2) (ex_t e3' h2) rfl)) ⟨qs2, ex_t e3' hq2, hb2'.ex e3'⟩ (by omega) (by omega)) ?_
          · simp only [List.length_append, nv_len, List.length_singleton]
            omega
          · simp only [List.length_append, nv_len, List.length_singleton]
            omega
          · simp only [List.length_append, nv_len, List.length_singleton]
            omega
        refine s_when (b := false) (et_is (et_or (a := false) (b := false) (et_is (et_test (ev_op (ev_op (ev_var rfl) ev_c (rv_ixT (ex_t (e3'.trans e4) h2) rfl)) ev_c (rv_eq rfl))) (str_ne (by decide +kernel))) (fun _ => (et_is (et_test (ev_op (ev_op (ev_var rfl) ev_c (rv_ixT (ex_t (e3'.trans e4) h2) rfl)) ev_c (rv_eq rfl))) (str_ne (by decide +kernel))))) rfl) (fun hb => by cases hb) (fun _ H5 e5 => ?_)
        refine fin fb (acc ++ [r] ++ y2.told ++ n2.told) H5 ((e3'.trans e4).trans e5) (fresh_back e3' fb0) (e5 _ _ h4) ?_
        rw [← hacc]
        show acc ++ [r] ++ y2.told ++ n2.told ++ k.told = acc ++ (r :: (y2.told ++ n2.told ++ k.told))
        simp only [List.append_assoc, List.cons_append, List.nil_append]
      | bk b2 k =>
        rw [eb] at hbr hnd hzd hacc fin
        obtain ⟨t, us, p2, ps2, h1, h2, hp2, hb2, h3⟩ := hbr
        rw [h1] at hd0
        have hd0 := Option.some.inj hd0
        subst hd0
        refine q_when (b := false) (et_is (et_test (ev_op (ev_op (ev_var rfl) ev_c (rv_ixT (ex_t e h2) rfl)) ev_c (rv_eq rfl))) (str_ne (by decide +kernel))) (fun hb => by cases hb) (fun _ H2 e2 => ?_)
        refine q_when (b := false) (et_is (et_test (ev_op (ev_op (ev_var rfl) ev_c (rv_ixT (ex_t (e.trans e2) h2) rfl)) ev_c (rv_eq rfl))) (str_ne (by decide +kernel))) (fun hb => by cases hb) (fun _ H3 e3 => ?_)
        refine s_when (b := true) (et_is (et_or (a := true) (b := true) (et_is (et_test (ev_op (ev_op (ev_var rfl) ev_c (rv_ixT (ex_t ((e.trans e2).trans e3) h2) rfl)) ev_c (rv_eq rfl))) (str_eq rfl)) (fun hb => by cases hb)) rfl) (fun _ H4 e4 => ?_) (fun hb => by cases hb)
        have e4' := ((e.trans e2).trans e3).trans e4
        have hn1 : max (b2.nest + 1) k.nest ≤ b.nest := hnd
        have hz1 : b2.size + k.size + 2 ≤ b.size := hzd
        obtain ⟨m, rfl⟩ : ∃ m, n = m + 1 := ⟨n - 1, by omega⟩
        have hty := Bd.told_le b2
        refine s_asgL (xs := nv (acc ++ b2.told)) ?_ fun fb H5 fb0 e5 h5 => ?_
        · rw [nv_append]
          refine el_catV (ev_var rfl) (e4 _ _ (e3 _ _ (e2 _ _ hf))) (el_told (ev_op (ev_var rfl) ev_c (rv_ixT (v := .ref p2) (ex_t e4' h2) rfl)) ⟨ps2, ex_t e4' hp2, hb2.ex e4'⟩ (by omega) (by omega)) ?_
          rw [nv_len, nv_len]
          omega
        refine fin fb (acc ++ b2.told) H5 (e4'.trans e5) (fresh_back e4' fb0) h5 ?_
        rw [List.append_assoc]
        exact hacc
      | lp b2 k =>
        rw [eb] at hbr hnd hzd hacc fin
        obtain ⟨t, us, p2, ps2, h1, h2, hp2, hb2, h3⟩ := hbr
        rw [h1] at hd0
        have hd0 := Option.some.inj hd0
        subst hd0
        refine q_when (b := false) (et_is (et_test (ev_op (ev_op (ev_var rfl) ev_c (rv_ixT (ex_t e h2) rfl)) ev_c (rv_eq rfl))) (str_ne (by decide +kernel))) (fun hb => by cases hb) (fun _ H2 e2 => ?_)
        refine q_when (b := false) (et_is (et_test (ev_op (ev_op (ev_var rfl) ev_c (rv_ixT (ex_t (e.trans e2) h2) rfl)) ev_c (rv_eq rfl))) (str_ne (by decide +kernel))) (fun hb => by cases hb) (fun _ H3 e3 => ?_)
        refine s_when (b := true) (et_is (et_or (a := false) (b := true) (et_is (et_test (ev_op (ev_op (ev_var rfl) ev_c (rv_ixT (ex_t ((e.trans e2).trans e3) h2) rfl)) ev_c (rv_eq rfl))) (str_ne (by decide +kernel))) (fun _ => (et_is (et_test (ev_op (ev_op (ev_var rfl) ev_c (rv_ixT (ex_t ((e.trans e2).trans e3) h2) rfl)) ev_c (rv_eq rfl))) (str_eq rfl)))) rfl) (fun _ H4 e4 => ?_) (fun hb => by cases hb)
        have e4' := ((e.trans e2).trans e3).trans e4
        have hn1 : max (b2.nest + 1) k.nest ≤ b.nest := hnd
        have hz1 : b2.size + k.size + 2 ≤ b.size := hzd
        obtain ⟨m, rfl⟩ : ∃ m, n = m + 1 := ⟨n - 1, by omega⟩
        have hty := Bd.told_le b2
        refine s_asgL (xs := nv (acc ++ b2.told)) ?_ fun fb H5 fb0 e5 h5 => ?_
        · rw [nv_append]
          refine el_catV (ev_var rfl) (e4 _ _ (e3 _ _ (e2 _ _ hf))) (el_told (ev_op (ev_var rfl) ev_c (rv_ixT (v := .ref p2) (ex_t e4' h2) rfl)) ⟨ps2, ex_t e4' hp2, hb2.ex e4'⟩ (by omega) (by omega)) ?_
          rw [nv_len, nv_len]
          omega
        refine fin fb (acc ++ b2.told) H5 (e4'.trans e5) (fresh_back e4' fb0) h5 ?_
        rw [List.append_assoc]
        exact hacc
      | lv d k =>
        rw [eb] at hbr hnd hzd hacc fin
        obtain ⟨t, us, h1, h2, h3⟩ := hbr
        rw [h1] at hd0
        have hd0 := Option.some.inj hd0
        subst hd0
        refine q_when (b := false) (et_is (et_test (ev_op (ev_op (ev_var rfl) ev_c (rv_ixT (ex_t e h2) rfl)) ev_c (rv_eq rfl))) (str_ne (by decide +kernel))) (fun hb => by cases hb) (fun _ H2 e2 => ?_)
        refine q_when (b := false) (et_is (et_test (ev_op (ev_op (ev_var rfl) ev_c (rv_ixT (ex_t (e.trans e2) h2) rfl)) ev_c (rv_eq rfl))) (str_ne (by decide +kernel))) (fun hb => by cases hb) (fun _ H3 e3 => ?_)
        refine s_when (b := false) (et_is (et_or (a := false) (b := false) (et_is (et_test (ev_op (ev_op (ev_var rfl) ev_c (rv_ixT (ex_t ((e.trans e2).trans e3) h2) rfl)) ev_c (rv_eq rfl))) (str_ne (by decide +kernel))) (fun _ => (et_is (et_test (ev_op (ev_op (ev_var rfl) ev_c (rv_ixT (ex_t ((e.trans e2).trans e3) h2) rfl)) ev_c (rv_eq rfl))) (str_ne (by decide +kernel))))) rfl) (fun hb => by cases hb) (fun _ H4 e4 => ?_)
        exact fin fa acc H4 (((e.trans e2).trans e3).trans e4) f0 (e4 _ _ (e3 _ _ (e2 _ _ hf))) hacc
      | ag d k =>
        rw [eb] at hbr hnd hzd hacc fin
        obtain ⟨t, us, h1, h2, h3⟩ := hbr
        rw [h1] at hd0
        have hd0 := Option.some.inj hd0
        subst hd0
        refine q_when (b := false) (et_is (et_test (ev_op (ev_op (ev_var rfl) ev_c (rv_ixT (ex_t e h2) rfl)) ev_c (rv_eq rfl))) (str_ne (by decide +kernel))) (fun hb => by cases hb) (fun _ H2 e2 => ?_)
        refine q_when (b := false) (et_is (et_test (ev_op (ev_op (ev_var rfl) ev_c (rv_ixT (ex_t (e.trans e2) h2) rfl)) ev_c (rv_eq rfl))) (str_ne (by decide +kernel))) (fun hb => by cases hb) (fun _ H3 e3 => ?_)
        refine s_when (b := false) (et_is (et_or (a := false) (b := false) (et_is (et_test (ev_op (ev_op (ev_var rfl) ev_c (rv_ixT (ex_t ((e.trans e2).trans e3) h2) rfl)) ev_c (rv_eq rfl))) (str_ne (by decide +kernel))) (fun _ => (et_is (et_test (ev_op (ev_op (ev_var rfl) ev_c (rv_ixT (ex_t ((e.trans e2).trans e3) h2) rfl)) ev_c (rv_eq rfl))) (str_ne (by decide +kernel))))) rfl) (fun hb => by cases hb) (fun _ H4 e4 => ?_)
        exact fin fa acc H4 (((e.trans e2).trans e3).trans e4) f0 (e4 _ _ (e3 _ _ (e2 _ _ hf))) hacc
      | st k =>
        rw [eb] at hbr hnd hzd hacc fin
        obtain ⟨t, us, h1, h2, h3⟩ := hbr
        rw [h1] at hd0
        have hd0 := Option.some.inj hd0
        subst hd0
        refine q_when (b := false) (et_is (et_test (ev_op (ev_op (ev_var rfl) ev_c (rv_ixT (ex_t e h2) rfl)) ev_c (rv_eq rfl))) (str_ne (by decide +kernel))) (fun hb => by cases hb) (fun _ H2 e2 => ?_)
        refine q_when (b := false) (et_is (et_test (ev_op (ev_op (ev_var rfl) ev_c (rv_ixT (ex_t (e.trans e2) h2) rfl)) ev_c (rv_eq rfl))) (str_ne (by decide +kernel))) (fun hb => by cases hb) (fun _ H3 e3 => ?_)
        refine s_when (b := false) (et_is (et_or (a := false) (b := false) (et_is (et_test (ev_op (ev_op (ev_var rfl) ev_c (rv_ixT (ex_t ((e.trans e2).trans e3) h2) rfl)) ev_c (rv_eq rfl))) (str_ne (by decide +kernel))) (fun _ => (et_is (et_test (ev_op (ev_op (ev_var rfl) ev_c (rv_ixT (ex_t ((e.trans e2).trans e3) h2) rfl)) ev_c (rv_eq rfl))) (str_ne (by decide +kernel))))) rfl) (fun hb => by cases hb) (fun _ H4 e4 => ?_)
        exact fin fa acc H4 (((e.trans e2).trans e3).trans e4) f0 (e4 _ _ (e3 _ _ (e2 _ _ hf))) hacc
    · rintro σ' H' ⟨fa, acc, y, e, f0, hf, hacc, rfl⟩
      have hlen := hbs.len
      rw [hlen, told_drop_len, List.append_nil] at hacc
      refine s_ret (v := .ref fa) (ev_var rfl) fun H2 e2 => q _ H2 (e.trans e2) ⟨fa, rfl, f0, ?_⟩
      rw [e2 _ _ hf, hacc]
theorem c_told (T : Txt mg) (D : DefAt K mg "told" s_told) : Cal P w K mg base CX0 121 "told" ["body"] (spTold K 119) := by
  have h : ∀ n, Cal P w K mg base CX0 (n + 1) "told" ["body"] (spTold' K n) := fun n => by
    induction n with
    | zero => exact (cal_of (k := 0) D sc_told (fun _ _ _ _ _ _ us hl => match us, hl with | [_], _ => rfl) (fun vs H Q E h => h.elim) (fun f cdv A outer s H vs Q E hr h => h.elim))
    | succ n ih => exact cs_told T D (by omega) ih
  exact h 120

abbrev s__law_rows_in : Stmt := topS 27
theorem sc__law_rows_in : FnScope ["_law_body", "_law_found", "_law_deed"] ["_law_body"] (defScope s__law_rows_in) := ⟨rfl, rfl, rfl, by decide +kernel, rfl, by decide +kernel, by decide +kernel⟩
theorem cs__law_rows_in (T : Txt mg) (D : DefAt K mg "_law_rows_in" s__law_rows_in) {n j : Nat} (hj : 1 ≤ j) (c__law_rows_in : Cal P w K mg base CX0 j "_law_rows_in" ["_law_body"] (spTold' K n)) : Cal P w K mg base CX0 (j + 1) "_law_rows_in" ["_law_body"] (spTold' K (n + 1)) := by
  refine cal_of (k := j) D sc__law_rows_in (fun _ _ _ _ _ _ us hl => match us, hl with | [_], _ => rfl) (fun vs H Q E h => ?_) (fun f cdv A outer s H vs Q E hr h => ?_)
  · have h : spTold K n vs H Q E := h
    obtain ⟨⟨a, b⟩, ⟨rfl, _⟩, _⟩ := h
    rfl
  · have h : spTold K n vs H Q E := h
    obtain ⟨⟨a, b⟩, ⟨rfl, ⟨ts, hts, hbs⟩, hn, hz⟩, q⟩ := h
    walk_at "ds"
    refine ⟨_, (pss_cons (ps_set (i := 1) sc__law_rows_in.nd rfl (by first | exact Or.inl rfl | exact Or.inr rfl) (pe_lst pa_nil))
    (pss_cons (ps_for PassesOwn.never rfl (pi_tup (pv 0)) (pg_name (i := 2) sc__law_rows_in.nd rfl (by first | exact Or.inl rfl | exact Or.inr rfl)) (pss_cons (ps_if (pt_cmpR (k_in_seq (K := K) rfl) (pe_ix (k_ix_tup (K := K) rfl) (pv 2) pe_int (fun _ _ => rfl)) (pe_tup (pa_cons pe_str (pa_cons pe_str pa_nil))) (by first | exact nomark _ | rfl)) (pss_one (ps_expr (pe_bm PySem.F.plainAttrs_list PySem.F.slot_list_append PySem.F.type_list_append mt_append (pv 1) (pa_cons (pe_ix (k_ix_tup (K := K) rfl) (pv 2) pe_int (fun _ _ => rfl)) pa_nil)))) pss_nil)
    (pss_cons (ps_if (pt_cmpR op_eq (pe_ix (k_ix_tup (K := K) rfl) (pv 2) pe_int (fun _ _ => rfl)) pe_str (nomark _)) (pss_one (ps_set (i := 1) sc__law_rows_in.nd rfl (by first | exact Or.inl rfl | exact Or.inr rfl) (pe_op op_cat (pe_op op_cat (pv 1) (pe_cal c__law_rows_in hr (by rfl) pass0 (pa_cons (pe_ix (k_ix_tup (K := K) rfl) (pv 2) pe_int (fun _ _ => rfl)) pa_nil))) (pe_cal c__law_rows_in hr (by rfl) pass0 (pa_cons (pe_ix (k_ix_tup (K := K) rfl) (pv 2) pe_int (fun _ _ => rfl)) pa_nil))))) pss_nil)
    (pss_one (ps_if (pt_cmpR (k_in_seq (K := K) rfl) (pe_ix (k_ix_tup (K := K) rfl) (pv 2) pe_int (fun _ _ => rfl)) (pe_tup (pa_cons pe_str (pa_cons pe_str pa_nil))) (by first | exact nomark _ | rfl)) (pss_one (ps_set (i := 1) sc__law_rows_in.nd rfl (by first | exact Or.inl rfl | exact Or.inr rfl) (pe_op op_cat (pv 1) (pe_cal c__law_rows_in hr (by rfl) pass0 (pa_cons (pe_ix (k_ix_tup (K := K) rfl) (pv 2) pe_int (fun _ _ => rfl)) pa_nil))))) pss_nil)))))
    (pss_one (ps_ret (pv 1))))), ?_⟩
    have hn : b.nest ≤ n := hn
    have hz : b.size ≤ 50000 := hz
    refine q_asgL (el_lst (vs := []) ea_nil (by show 0 ≤ 100000; decide)) fun fa H1 f0 e1 h1 => ?_
    refine q_forT (ev_var rfl) (ex_t e1 hts) (fun i σ' H' => ∃ (fa : Addr) (acc : List Nat) (y : Option V), Ex H H' ∧ H fa = none ∧ H' fa = some (.lst (nv acc)) ∧ acc ++ (b.drop i).told = b.told ∧ σ' = [some (.ref a), some (.ref fa), y]) (fun H2 e2 => ⟨fa, [], none, e1.trans e2, f0, e2 _ _ h1, by rw [Bd.drop_zero]; rfl, rfl⟩) (fun i σ' H' _ ⟨fa, acc, y, e, _⟩ => ex_t e hts) ?_ ?_
    · rintro i x σ' H' hi ⟨fa, acc, y, e, f0, hf, hacc, rfl⟩
      have hil : i < ts.length := (List.getElem?_eq_some_iff.mp hi).1
      have hlen := hbs.len
      have hr : b.drop i ≠ .nil := fun z => by
        have := (Bd.drop_isNil i b (by omega)).mp z
        omega
      have hbr : BsAt K H (b.drop i) (ts.drop i) := hbs.drop
      have hd0 : (ts.drop i)[0]? = some x := by
        rw [List.getElem?_drop]
        exact hi
      have hnd := drop_nest i b
      have hzd := Bd.drop_size i b
      have hal : acc.length ≤ b.size := by
        have h1 := Bd.told_le b
        rw [← hacc, List.length_append] at h1
        omega
      have htl : (b.drop i).tl = b.drop (i + 1) := Bd.drop_tl i b
      have fin : ∀ (fa' : Addr) (acc' : List Nat) (H2 : Hp), Ex H H2 → H fa' = none → H2 fa' = some (.lst (nv acc')) → acc' ++ (b.drop i).tl.told = b.told → ∃ (fa : Addr) (acc : List Nat) (y : Option V), Ex H H2 ∧ H fa = none ∧ H2 fa = some (.lst (nv acc)) ∧ acc ++ (b.drop (i + 1)).told = b.told ∧ [some (V.ref a), some (.ref fa'), some x] = [some (.ref a), some (.ref fa), y] := fun fa' acc' H2 h1 h2 h3 h4 =>
        ⟨fa', acc', some x, h1, h2, h3, by rw [← htl]; exact h4, rfl⟩
      cases eb : b.drop i with
      | nil => exact absurd eb hr
      | dd r k =>
        rw [eb] at hbr hnd hzd hacc fin
        obtain ⟨t, us, h1, h2, h3⟩ := hbr
        rw [h1] at hd0
        have hd0 := Option.some.inj hd0
        subst hd0
        refine q_when (b := true) (et_is (et_test (ev_inU (ev_op (ev_var rfl) ev_c (rv_ixT (ex_t e h2) rfl)) (eu_tup (ea_cons ev_c (ea_cons ev_c ea_nil)) (by show 2 ≤ 100000; decide)) rfl rfl)) rfl) (fun _ H2 e2 => ?_) (fun hb => by cases hb)
        refine s_app (l := fa) (xs := nv acc) (v := .int (r : Int)) (e2 _ _ hf) (ev_var rfl) (ev_op (ev_var rfl) ev_c (rv_ixT (ex_t (e.trans e2) h2) rfl)) (by rw [nv_len]; omega) fun H3 e3 => ?_
        have e4 : Ex H (upd H3 fa (.lst (nv acc ++ [.int (r : Int)]))) := Ex.mut ((e.trans e2).trans e3) f0
        have hf4 : upd H3 fa (.lst (nv acc ++ [.int (r : Int)])) fa = some (.lst (nv (acc ++ [r]))) := by rw [upd_same, nv_app]
        generalize upd H3 fa (.lst (nv acc ++ [.int (r : Int)])) = H4 at e4 hf4 ⊢
        refine q_when (b := false) (et_is (et_test (ev_op (ev_op (ev_var rfl) ev_c (rv_ixT (ex_t e4 h2) rfl)) ev_c (rv_eq rfl))) (str_ne (by decide +kernel))) (fun hb => by cases hb) (fun _ H5 e5 => ?_)
        refine s_when (b := false) (et_is (et_test (ev_inU (ev_op (ev_var rfl) ev_c (rv_ixT (ex_t (e4.trans e5) h2) rfl)) (eu_tup (ea_cons ev_c (ea_cons ev_c ea_nil)) (by show 2 ≤ 100000; decide)) rfl rfl)) rfl) (fun hb => by cases hb) (fun _ H6 e6 => ?_)
        refine fin fa (acc ++ [r]) H6 ((e4.trans e5).trans e6) f0 (e6 _ _ (e5 _ _ hf4)) ?_
        rw [List.append_assoc]
        exact hacc
      | ch r y2 n2 k =>
        rw [eb] at hbr hnd hzd hacc fin
        obtain ⟨t, us, p2, ps2, q2, qs2, h1, h2, hp2, hb2, hq2, hb2', h3⟩ := hbr
        rw [h1] at hd0
        have hd0 := Option.some.inj hd0
        subst hd0
        refine q_when (b := true) (et_is (et_test (ev_inU (ev_op (ev_var rfl) ev_c (rv_ixT (ex_t e h2) rfl)) (eu_tup (ea_cons ev_c (ea_cons ev_c ea_nil)) (by show 2 ≤ 100000; decide)) rfl rfl)) rfl) (fun _ H2 e2 => ?_) (fun hb => by cases hb)
        refine s_app (l := fa) (xs := nv acc) (v := .int (r : Int)) (e2 _ _ hf) (ev_var rfl) (ev_op (ev_var rfl) ev_c (rv_ixT (ex_t (e.trans e2) h2) rfl)) (by rw [nv_len]; omega) fun H3 e3 => ?_
        have e4 : Ex H (upd H3 fa (.lst (nv acc ++ [.int (r : Int)]))) := Ex.mut ((e.trans e2).trans e3) f0
        have hf4 : upd H3 fa (.lst (nv acc ++ [.int (r : Int)])) fa = some (.lst (nv (acc ++ [r]))) := by rw [upd_same, nv_app]
        generalize upd H3 fa (.lst (nv acc ++ [.int (r : Int)])) = H4 at e4 hf4 ⊢
        refine q_when (b := true) (et_is (et_test (ev_op (ev_op (ev_var rfl) ev_c (rv_ixT (ex_t e4 h2) rfl)) ev_c (rv_eq rfl))) (str_eq rfl)) (fun _ H5 e5 => ?_) (fun hb => by cases hb)
        have e3' := e4.trans e5
        have hn1 : max (max y2.nest n2.nest + 1) k.nest ≤ b.nest := hnd
        have hz1 : y2.size + n2.size + k.size + 2 ≤ b.size := hzd
        obtain ⟨m, rfl⟩ : ∃ m, n = m + 1 := ⟨n - 1, by omega⟩
        have hty := Bd.told_le y2
        have htn := Bd.told_le n2
        have ht0 := Bd.told_le b
        have hlen2 : acc.length + (1 + y2.told.length + n2.told.length) ≤ 50000 := by
          have h1 := congrArg List.length hacc
          rw [List.length_append] at h1
          have h2 : (Bd.ch r y2 n2 k).told.length = y2.told.length + n2.told.length + k.told.length + 1 := by
            show (r :: (y2.told ++ n2.told ++ k.told)).length = _
            rw [List.length_cons, List.length_append, List.length_append]
          omega
        refine q_asgL (xs := nv (acc ++ [r] ++ y2.told ++ n2.told)) ?_ fun fb H6 fb0 e6 h6 => ?_
        · rw [nv_append, nv_append]
          refine el_catL (el_catV (ev_var rfl) (e5 _ _ hf4) (el_told (ev_op (ev_var rfl) ev_c (rv_ixT (v := .ref p2) (ex_t e3' h2) rfl)) ⟨ps2, ex_t e3' hp2, hb2.ex e3'⟩ (by omega) (by omega)) ?_) (el_told (ev_op (ev_var rfl) ev_c (rv_ixT (v := .ref q2) (ex_t e3' h2) rfl)) ⟨qs2, ex_t e3' hq2, hb2'.ex e3'⟩ (by omega) (by omega)) ?_
          · simp only [List.length_append, nv_len, List.length_singleton]
            omega
          · simp only [List.length_append, nv_len, List.length_singleton]
            omega
        refine s_when (b := false) (et_is (et_test (ev_inU (ev_op (ev_var rfl) ev_c (rv_ixT (ex_t (e3'.trans e6) h2) rfl)) (eu_tup (ea_cons ev_c (ea_cons ev_c ea_nil)) (by show 2 ≤ 100000; decide)) rfl rfl)) rfl) (fun hb => by cases hb) (fun _ H7 e7 => ?_)
        refine fin fb (acc ++ [r] ++ y2.told ++ n2.told) H7 ((e3'.trans e6).trans e7) (fresh_back e3' fb0) (e7 _ _ h6) ?_
        rw [← hacc]
        show acc ++ [r] ++ y2.told ++ n2.told ++ k.told = acc ++ (r :: (y2.told ++ n2.told ++ k.told))
        simp only [List.append_assoc, List.cons_append, List.nil_append]
      | bk b2 k =>
        rw [eb] at hbr hnd hzd hacc fin
        obtain ⟨t, us, p2, ps2, h1, h2, hp2, hb2, h3⟩ := hbr
        rw [h1] at hd0
        have hd0 := Option.some.inj hd0
        subst hd0
        refine q_when (b := false) (et_is (et_test (ev_inU (ev_op (ev_var rfl) ev_c (rv_ixT (ex_t e h2) rfl)) (eu_tup (ea_cons ev_c (ea_cons ev_c ea_nil)) (by show 2 ≤ 100000; decide)) rfl rfl)) rfl) (fun hb => by cases hb) (fun _ H2 e2 => ?_)
        refine q_when (b := false) (et_is (et_test (ev_op (ev_op (ev_var rfl) ev_c (rv_ixT (ex_t (e.trans e2) h2) rfl)) ev_c (rv_eq rfl))) (str_ne (by decide +kernel))) (fun hb => by cases hb) (fun _ H3 e3 => ?_)
        refine s_when (b := true) (et_is (et_test (ev_inU (ev_op (ev_var rfl) ev_c (rv_ixT (ex_t ((e.trans e2).trans e3) h2) rfl)) (eu_tup (ea_cons ev_c (ea_cons ev_c ea_nil)) (by show 2 ≤ 100000; decide)) rfl rfl)) rfl) (fun _ H4 e4 => ?_) (fun hb => by cases hb)
        have e4' := ((e.trans e2).trans e3).trans e4
        have hn1 : max (b2.nest + 1) k.nest ≤ b.nest := hnd
        have hz1 : b2.size + k.size + 2 ≤ b.size := hzd
        obtain ⟨m, rfl⟩ : ∃ m, n = m + 1 := ⟨n - 1, by omega⟩
        have hty := Bd.told_le b2
        refine s_asgL (xs := nv (acc ++ b2.told)) ?_ fun fb H5 fb0 e5 h5 => ?_
        · rw [nv_append]
          refine el_catV (ev_var rfl) (e4 _ _ (e3 _ _ (e2 _ _ hf))) (el_told (ev_op (ev_var rfl) ev_c (rv_ixT (v := .ref p2) (ex_t e4' h2) rfl)) ⟨ps2, ex_t e4' hp2, hb2.ex e4'⟩ (by omega) (by omega)) ?_
          rw [nv_len, nv_len]
          omega
        refine fin fb (acc ++ b2.told) H5 (e4'.trans e5) (fresh_back e4' fb0) h5 ?_
        rw [List.append_assoc]
        exact hacc
      | lp b2 k =>
        rw [eb] at hbr hnd hzd hacc fin
        obtain ⟨t, us, p2, ps2, h1, h2, hp2, hb2, h3⟩ := hbr
        rw [h1] at hd0
        have hd0 := Option.some.inj hd0
        subst hd0
        refine q_when (b := false) (et_is (et_test (ev_inU (ev_op (ev_var rfl) ev_c (rv_ixT (ex_t e h2) rfl)) (eu_tup (ea_cons ev_c (ea_cons ev_c ea_nil)) (by show 2 ≤ 100000; decide)) rfl rfl)) rfl) (fun hb => by cases hb) (fun _ H2 e2 => ?_)
        refine q_when (b := false) (et_is (et_test (ev_op (ev_op (ev_var rfl) ev_c (rv_ixT (ex_t (e.trans e2) h2) rfl)) ev_c (rv_eq rfl))) (str_ne (by decide +kernel))) (fun hb => by cases hb) (fun _ H3 e3 => ?_)
        refine s_when (b := true) (et_is (et_test (ev_inU (ev_op (ev_var rfl) ev_c (rv_ixT (ex_t ((e.trans e2).trans e3) h2) rfl)) (eu_tup (ea_cons ev_c (ea_cons ev_c ea_nil)) (by show 2 ≤ 100000; decide)) rfl rfl)) rfl) (fun _ H4 e4 => ?_) (fun hb => by cases hb)
        have e4' := ((e.trans e2).trans e3).trans e4
        have hn1 : max (b2.nest + 1) k.nest ≤ b.nest := hnd
        have hz1 : b2.size + k.size + 2 ≤ b.size := hzd
        obtain ⟨m, rfl⟩ : ∃ m, n = m + 1 := ⟨n - 1, by omega⟩
        have hty := Bd.told_le b2
        refine s_asgL (xs := nv (acc ++ b2.told)) ?_ fun fb H5 fb0 e5 h5 => ?_
        · rw [nv_append]
          refine el_catV (ev_var rfl) (e4 _ _ (e3 _ _ (e2 _ _ hf))) (el_told (ev_op (ev_var rfl) ev_c (rv_ixT (v := .ref p2) (ex_t e4' h2) rfl)) ⟨ps2, ex_t e4' hp2, hb2.ex e4'⟩ (by omega) (by omega)) ?_
          rw [nv_len, nv_len]
          omega
        refine fin fb (acc ++ b2.told) H5 (e4'.trans e5) (fresh_back e4' fb0) h5 ?_
        rw [List.append_assoc]
        exact hacc
      | lv d k =>
        rw [eb] at hbr hnd hzd hacc fin
        obtain ⟨t, us, h1, h2, h3⟩ := hbr
        rw [h1] at hd0
        have hd0 := Option.some.inj hd0
        subst hd0
        refine q_when (b := false) (et_is (et_test (ev_inU (ev_op (ev_var rfl) ev_c (rv_ixT (ex_t e h2) rfl)) (eu_tup (ea_cons ev_c (ea_cons ev_c ea_nil)) (by show 2 ≤ 100000; decide)) rfl rfl)) rfl) (fun hb => by cases hb) (fun _ H2 e2 => ?_)
        refine q_when (b := false) (et_is (et_test (ev_op (ev_op (ev_var rfl) ev_c (rv_ixT (ex_t (e.trans e2) h2) rfl)) ev_c (rv_eq rfl))) (str_ne (by decide +kernel))) (fun hb => by cases hb) (fun _ H3 e3 => ?_)
        refine s_when (b := false) (et_is (et_test (ev_inU (ev_op (ev_var rfl) ev_c (rv_ixT (ex_t ((e.trans e2).trans e3) h2) rfl)) (eu_tup (ea_cons ev_c (ea_cons ev_c ea_nil)) (by show 2 ≤ 100000; decide)) rfl rfl)) rfl) (fun hb => by cases hb) (fun _ H4 e4 => ?_)
        exact fin fa acc H4 (((e.trans e2).trans e3).trans e4) f0 (e4 _ _ (e3 _ _ (e2 _ _ hf))) hacc
      | ag d k =>
        rw [eb] at hbr hnd hzd hacc fin
        obtain ⟨t, us, h1, h2, h3⟩ := hbr
        rw [h1] at hd0
        have hd0 := Option.some.inj hd0
        subst hd0
        refine q_when (b := false) (et_is (et_test (ev_inU (ev_op (ev_var rfl) ev_c (rv_ixT (ex_t e h2) rfl)) (eu_tup (ea_cons ev_c (ea_cons ev_c ea_nil)) (by show 2 ≤ 100000; decide)) rfl rfl)) rfl) (fun hb => by cases hb) (fun _ H2 e2 => ?_)
        refine q_when (b := false) (et_is (et_test (ev_op (ev_op (ev_var rfl) ev_c (rv_ixT (ex_t (e.trans e2) h2) rfl)) ev_c (rv_eq rfl))) (str_ne (by decide +kernel))) (fun hb => by cases hb) (fun _ H3 e3 => ?_)
        refine s_when (b := false) (et_is (et_test (ev_inU (ev_op (ev_var rfl) ev_c (rv_ixT (ex_t ((e.trans e2).trans e3) h2) rfl)) (eu_tup (ea_cons ev_c (ea_cons ev_c ea_nil)) (by show 2 ≤ 100000; decide)) rfl rfl)) rfl) (fun hb => by cases hb) (fun _ H4 e4 => ?_)
        exact fin fa acc H4 (((e.trans e2).trans e3).trans e4) f0 (e4 _ _ (e3 _ _ (e2 _ _ hf))) hacc
      | st k =>
        rw [eb] at hbr hnd hzd hacc fin
        obtain ⟨t, us, h1, h2, h3⟩ := hbr
        rw [h1] at hd0
        have hd0 := Option.some.inj hd0
        subst hd0
        refine q_when (b := false) (et_is (et_test (ev_inU (ev_op (ev_var rfl) ev_c (rv_ixT (ex_t e h2) rfl)) (eu_tup (ea_cons ev_c (ea_cons ev_c ea_nil)) (by show 2 ≤ 100000; decide)) rfl rfl)) rfl) (fun hb => by cases hb) (fun _ H2 e2 => ?_)
        refine q_when (b := false) (et_is (et_test (ev_op (ev_op (ev_var rfl) ev_c (rv_ixT (ex_t (e.trans e2) h2) rfl)) ev_c (rv_eq rfl))) (str_ne (by decide +kernel))) (fun hb => by cases hb) (fun _ H3 e3 => ?_)
        refine s_when (b := false) (et_is (et_test (ev_inU (ev_op (ev_var rfl) ev_c (rv_ixT (ex_t ((e.trans e2).trans e3) h2) rfl)) (eu_tup (ea_cons ev_c (ea_cons ev_c ea_nil)) (by show 2 ≤ 100000; decide)) rfl rfl)) rfl) (fun hb => by cases hb) (fun _ H4 e4 => ?_)
        exact fin fa acc H4 (((e.trans e2).trans e3).trans e4) f0 (e4 _ _ (e3 _ _ (e2 _ _ hf))) hacc
    · rintro σ' H' ⟨fa, acc, y, e, f0, hf, hacc, rfl⟩
      have hlen := hbs.len
      rw [hlen, told_drop_len, List.append_nil] at hacc
      refine s_ret (v := .ref fa) (ev_var rfl) fun H2 e2 => q _ H2 (e.trans e2) ⟨fa, rfl, f0, ?_⟩
      rw [e2 _ _ hf, hacc]
theorem c__law_rows_in (T : Txt mg) (D : DefAt K mg "_law_rows_in" s__law_rows_in) : Cal P w K mg base CX0 121 "_law_rows_in" ["_law_body"] (spTold K 119) := by
  have h : ∀ n, Cal P w K mg base CX0 (n + 1) "_law_rows_in" ["_law_body"] (spTold' K n) := fun n => by
    induction n with
    | zero => exact (cal_of (k := 0) D sc__law_rows_in (fun _ _ _ _ _ _ us hl => match us, hl with | [_], _ => rfl) (fun vs H Q E h => h.elim) (fun f cdv A outer s H vs Q E hr h => h.elim))
    | succ n ih => exact cs__law_rows_in T D (by omega) ih
  exact h 120

abbrev s__law_out : Stmt := topS 19
theorem sc__law_out : FnScope ["_law_pile", "_law_deed", "_law_left"] ["_law_pile", "_law_deed"] (defScope s__law_out) := ⟨rfl, rfl, rfl, by decide +kernel, rfl, by decide +kernel, by decide +kernel⟩
theorem c__law_out (T : Txt mg) (D : DefAt K mg "_law_out" s__law_out) : Cal P w K mg base CX0 1 "_law_out" ["_law_pile", "_law_deed"] (spGone K) := by
  refine cal_of (k := 0) D sc__law_out (fun _ _ _ _ _ _ us hl => match us, hl with | [_, _], _ => rfl) (fun vs H Q E h => ?_) (fun f cdv A outer s H vs Q E hr h => ?_)
  · obtain ⟨F, pl, dt, fs, ag, d, rfl, _⟩ := h
    rfl
  · obtain ⟨F, pl, dt, fs, ag, d, rfl, eF, hP, hD0, hd, hz, q⟩ := h
    walk_at "ds"
    refine ⟨_, (pss_cons (ps_set (i := 2) sc__law_out.nd rfl (by first | exact Or.inl rfl | exact Or.inr rfl) (pe_ix (k_ix_tup (K := K) rfl) (pv 1) pe_int (fun _ _ => rfl)))
    (pss_cons (ps_while PassesOwn.never (PW.pt (pw_and (pt_cmpR op_gt (pe_callB (k_len_seq (K := K) rfl) (by rfl) T.n_len PySem.boot_len (pa_cons (pv 0) pa_nil)) pe_int (nomark _)) (pw_and1 (PW.pt (pw_or (pt_cmpR op_eq (pe_ix (k_ix_list (K := K) rfl) (pe_ix (k_ix_list (K := K) rfl) (pv 0) (pe_op op_sub (pe_callB (k_len_seq (K := K) rfl) (by rfl) T.n_len PySem.boot_len (pa_cons (pv 0) pa_nil)) pe_int) (fun _ _ => rfl)) pe_int (fun _ _ => rfl)) pe_str (nomark _)) (pw_or1 (pt_cmpR op_gt (pv 2) pe_int (nomark _)))))))) (pss_cons (ps_if (pt_cmpR op_ne (pe_ix (k_ix_list (K := K) rfl) (pe_ix (k_ix_list (K := K) rfl) (pv 0) (pe_op op_sub (pe_callB (k_len_seq (K := K) rfl) (by rfl) T.n_len PySem.boot_len (pa_cons (pv 0) pa_nil)) pe_int) (fun _ _ => rfl)) pe_int (fun _ _ => rfl)) pe_str (nomark _)) (pss_one (ps_set (i := 2) sc__law_out.nd rfl (by first | exact Or.inl rfl | exact Or.inr rfl) (pe_op op_sub (pv 2) pe_int))) pss_nil)
    (pss_one (ps_expr (pe_bm0 PySem.F.plainAttrs_list PySem.F.slot_list_pop PySem.F.type_list_pop mt_pop (pv 0))))))
    (pss_one (ps_if (pt_cmpR op_eq (pe_ix (k_ix_tup (K := K) rfl) (pv 1) pe_int (fun _ _ => rfl)) pe_str (nomark _)) (pss_one (ps_expr (pe_bm0 PySem.F.plainAttrs_list PySem.F.slot_list_pop PySem.F.type_list_pop mt_pop (pv 0)))) (pss_one (ps_asg pe_int (pg_sub (pe_ix (k_ix_list (K := K) rfl) (pv 0) (pe_op op_sub (pe_callB (k_len_seq (K := K) rfl) (by rfl) T.n_len PySem.boot_len (pa_cons (pv 0) pa_nil)) pe_int) (fun _ _ => rfl)) pe_int set_list))))))), ?_⟩
    have hD := ex_t eF hD0
    refine q_asg (v := .int (d : Int)) (ev_op (ev_var rfl) ev_c (rv_ixT hD rfl)) fun H1 e1 => ?_
    refine q_whileW (fun m σ' H' => ∃ (gs : List Fr) (e : Nat), m = gs.length ∧ gs.length ≤ 90000 ∧ Ex F H' ∧ KeepP pl H H' ∧ PlAt K F H' pl gs ∧ e < cnt gs ∧ popTo gs e = popTo fs d ∧
        σ' = [some (.ref pl), some (.ref dt), some (.int (e : Int))]) fs.length ?_ ?_
    · exact ⟨fs, d, rfl, hz, eF.trans e1, KeepP.ex e1, hP.ex e1, hd, rfl, rfl⟩
    · rintro m σ' H' ⟨gs, e, rfl, hz, eF', kp, hP', he, hp, rfl⟩
      cases gs with
      | nil => exact absurd he (Nat.not_lt_zero _)
      | cons f gs =>
      obtain ⟨t, us, p, ps, hl, hul, tp, ft, fp, hf, hps, hbs, kpop, kset⟩ := hP'.top
      have hat : atI (us ++ [V.ref t]) (((us ++ [V.ref t]).length : Int) - 1) = some (.ref t) := atI_last
      have evt : ∀ (H2 : Hp), Ex H' H2 → Ev (tOp (rIxL K) (tVar 0) (tOp (rI0 fun i j => V.int (i - j)) (tCB (rLenS K) (tCons (tVar 0) tNil)) (tC (V.int 1)))) [some (V.ref pl), some (.ref dt), some (.int (e : Int))] H2 (.ref t) := fun H2 e2 =>
        ev_op (ev_var rfl) (ev_op (ev_len (ev_var rfl) (sq_of (e2 _ _ hl))) ev_c rv_I0) (rv_ixL (sq_of (e2 _ _ hl)) hat)
      have evw : ∀ (H2 : Hp), Ex H' H2 → Ev (tOp (rIxL K) (tOp (rIxL K) (tVar 0) (tOp (rI0 fun i j => V.int (i - j)) (tCB (rLenS K) (tCons (tVar 0) tNil)) (tC (V.int 1)))) (tC (V.int 0))) [some (V.ref pl), some (.ref dt), some (.int (e : Int))] H2 (.str (fword f.k)) := fun H2 e2 =>
        ev_op (evt H2 e2) ev_c (rv_ixL (xs := frV f p) (sq_of (e2 _ _ hf)) rfl)
      refine ⟨decide (f.k = 0) || decide (0 < e), ?_, fun hb H2 e2 => ?_, fun hb H5 e2 => ?_⟩
      · refine et_is (et_and (a := true) (b := decide (f.k = 0) || decide (0 < e)) (et_is (et_test (ev_op (ev_len (ev_var rfl) (sq_of hl)) ev_c (rv_I0b rfl))) ?_) fun _ => et_is (et_or (et_test (ev_op (evw H' (Ex.refl H')) ev_c (rv_eq rfl))) fun _ => et_test (ev_op (ev_var rfl) ev_c (rv_I0b rfl))) ?_) rfl
        · rw [List.length_append, List.length_singleton]
          exact decide_eq_true (by omega)
        · congr 1
          · by_cases hk : f.k = 0
            · rw [str_eq (fword_zero hk), decide_eq_true hk]
            · rw [str_ne (fword_ne hk), decide_eq_false hk]
          · exact decide_eq_decide.mpr (by omega)
      · have hl2 := e2 _ _ hl
        have hf2 := e2 _ _ hf
        have eF2 : Ex F H2 := eF'.trans e2
        have kp2 : KeepP pl H H2 := kp.trans (KeepP.ex e2)
        have shorter : ∀ (H4 : Hp) (e' : Nat), Ex H2 H4 → e' < cnt gs → popTo gs e' = popTo fs d → ∃ m', m' < (f :: gs).length ∧ ∃ (gs : List Fr) (e : Nat), m' = gs.length ∧ gs.length ≤ 90000 ∧ Ex F (upd H4 pl (.lst us)) ∧ KeepP pl H (upd H4 pl (.lst us)) ∧ PlAt K F (upd H4 pl (.lst us)) pl gs ∧ e < cnt gs ∧ popTo gs e = popTo fs d ∧
            [some (V.ref pl), some (.ref dt), some (.int (e' : Int))] = [some (.ref pl), some (.ref dt), some (.int (e : Int))] := fun H4 e' e4 he' hp' =>
          ⟨gs.length, by rw [List.length_cons]; omega, gs, e', rfl, by rw [List.length_cons] at hz; omega, Ex.mut (eF2.trans e4) fp, (kp2.trans (KeepP.ex e4)).trans KeepP.pl, kpop _ (fun a o ha ho => by
            rw [upd_ne ha]
            exact e4 _ _ (e2 _ _ ho)) upd_same, he', hp', rfl⟩
        by_cases hk : f.k = 0
        · refine q_when (b := false) (et_is (et_test (ev_op (evw H2 e2) ev_c (rv_ne rfl))) (by rw [str_eq (fword_zero hk)]; rfl)) (fun hb => by cases hb) fun _ H4 e4 => ?_
          refine s_pop (ev_var rfl) (e4 _ _ hl2) fun H5 e5 => ?_
          exact shorter H5 e (e4.trans e5) ((cnt_skip hk) ▸ he) ((popTo_skip hk) ▸ hp)
        · have h0 : 0 < e := by
            rw [decide_eq_false hk, Bool.false_or] at hb
            exact of_decide_eq_true hb
          refine q_when (b := true) (et_is (et_test (ev_op (evw H2 e2) ev_c (rv_ne rfl))) (by rw [str_ne (fword_ne hk)]; rfl)) (fun _ H4 e4 => ?_) (fun hb => by cases hb)
          refine s_asg (v := .int ((e : Int) - 1)) (ev_op (ev_var rfl) ev_c rv_I0) fun H6 e6 => ?_
          refine s_pop (ev_var rfl) (e6 _ _ (e4 _ _ hl2)) fun H7 e7 => ?_
          have he2 : e - 1 < cnt gs := by
            have := cnt_on (fs := gs) hk
            omega
          have hp2 : popTo gs (e - 1) = popTo fs d := (popTo_on hk (by omega)).symm.trans hp
          have z : ((e : Int) - 1) = ((e - 1 : Nat) : Int) := by omega
          rw [z]
          exact shorter H7 (e - 1) (e4.trans (e6.trans e7)) he2 hp2
      · have hk : f.k ≠ 0 := fun z => by
          rw [decide_eq_true z] at hb
          cases hb
        have h0 : e = 0 := by
          rw [decide_eq_false hk, Bool.false_or] at hb
          have := of_decide_eq_false hb
          omega
        subst h0
        have hl5 := e2 _ _ hl
        have hf5 : H5 t = some (.lst [.str (fword f.k), .ref p, .int (f.p : Int)]) := e2 _ _ hf
        have eF5 : Ex F H5 := eF'.trans e2
        have kp5 : KeepP pl H H5 := kp.trans (KeepP.ex e2)
        have hD5 := ex_t eF5 hD0
        have ho : popTo fs d = f :: gs := hp.symm.trans (popTo_here hk)
        refine s_if (b := !ag) (et_is (et_test (ev_op (ev_op (ev_var rfl) ev_c (rv_ixT hD5 rfl)) ev_c (rv_eq rfl))) ?_) (fun hb H6 e6 => ?_) (fun hb H6 e6 => ?_)
        · cases ag
          · exact str_eq rfl
          · exact str_ne (by decide +kernel)
        · have ha : ag = false := by
            cases ag
            · rfl
            · cases hb
          refine s_pop (ev_var rfl) (e6 _ _ hl5) fun H7 e7 => ?_
          refine q _ (Ex.mut (eF5.trans (e6.trans e7)) fp) ((kp5.trans (KeepP.ex (e6.trans e7))).trans KeepP.pl) ?_
          have hout : outF ag fs d = gs := by
            unfold outF
            rw [ho, ha]
            rfl
          rw [hout]
          exact kpop _ (fun a o ha ho => by
            rw [upd_ne ha]
            exact e7 _ _ (e6 _ _ (e2 _ _ ho))) upd_same
        · have ha : ag = true := by
            cases ag
            · cases hb
            · rfl
          have hl6 := e6 _ _ hl5
          refine s_setL (l := t) (xs := frV f p) (j := 2) (v := .int 0) (e6 _ _ hf5) ev_c (evt H6 (e2.trans e6)) ev_c (by show 2 < 3; decide) fun H7 e7 => ?_
          have eF7 : Ex F H7 := eF5.trans (e6.trans e7)
          refine q _ (Ex.mut eF7 ft) ((kp5.trans (KeepP.ex (e6.trans e7))).trans (KeepP.fr (e7 _ _ (e6 _ _ hf5)) (isFr_frV f p))) ?_
          have hout : outF ag fs d = f.again :: gs := by
            unfold outF
            rw [ho, ha]
            rfl
          rw [hout]
          exact kset _ f.again rfl (fun a o ha ho => by
            rw [upd_ne ha]
            exact e7 _ _ (e6 _ _ (e2 _ _ ho))) upd_same

abbrev s__law_step : Stmt := topS 20
theorem sc__law_step : FnScope ["_law_rows", "_law_held", "_law_pile", "_law_trail", "_law_top", "_law_deed", "_law_row"] ["_law_rows", "_law_held", "_law_pile", "_law_trail"] (defScope s__law_step) := ⟨rfl, rfl, rfl, by decide +kernel, rfl, by decide +kernel, by decide +kernel⟩
theorem c__law_step (T : Txt mg) (D : DefAt K mg "_law_step" s__law_step) (c__law_out : Cal P w K mg base CX0 1 "_law_out" ["_law_pile", "_law_deed"] (spGone K)) : Cal P w K mg base CX0 2 "_law_step" ["_law_rows", "_law_held", "_law_pile", "_law_trail"] (spLStep K) := by
  refine cal_of (k := 1) D sc__law_step (fun _ _ _ _ _ _ us hl => match us, hl with | [_, _, _, _], _ => rfl) (fun vs H Q E h => ?_) (fun f cdv A outer s H vs Q E hr h => ?_)
  · obtain ⟨F, a, l, pl, tr, rs, f, fs, bx, tl, B, n, rfl, _⟩ := h
    rfl
  · obtain ⟨F, a, l, pl, tr, rs, f, fs, bx, tl, B, n, rfl, eF, hR, ho, l0, t0, d1, d2, d3, hl, htr, hP, inv, hB, hn, q⟩ := h
    walk_at "ds"
    refine ⟨_, (pss_cons (ps_set (i := 4) sc__law_step.nd rfl (by first | exact Or.inl rfl | exact Or.inr rfl) (pe_ix (k_ix_list (K := K) rfl) (pv 2) (pe_op op_sub (pe_callB (k_len_seq (K := K) rfl) (by rfl) T.n_len PySem.boot_len (pa_cons (pv 2) pa_nil)) pe_int) (fun _ _ => rfl)))
    (pss_cons (ps_if (pt_cmpR op_eq (pe_ix (k_ix_list (K := K) rfl) (pv 4) pe_int (fun _ _ => rfl)) (pe_callB (k_len_seq (K := K) rfl) (by rfl) T.n_len PySem.boot_len (pa_cons (pe_ix (k_ix_list (K := K) rfl) (pv 4) pe_int (fun _ _ => rfl)) pa_nil)) (nomark _)) (pss_cons (ps_expr (pe_bm0 PySem.F.plainAttrs_list PySem.F.slot_list_pop PySem.F.type_list_pop mt_pop (pv 2)))
    (pss_one ps_retN)) pss_nil)
    (pss_cons (ps_set (i := 5) sc__law_step.nd rfl (by first | exact Or.inl rfl | exact Or.inr rfl) (pe_ix (k_ix_tup (K := K) rfl) (pe_ix (k_ix_list (K := K) rfl) (pv 4) pe_int (fun _ _ => rfl)) (pe_ix (k_ix_list (K := K) rfl) (pv 4) pe_int (fun _ _ => rfl)) (fun _ _ => rfl)))
    (pss_cons (ps_asg (pe_op op_add (pe_ix (k_ix_list (K := K) rfl) (pv 4) pe_int (fun _ _ => rfl)) pe_int) (pg_sub (pv 4) pe_int set_list))
    (pss_one (ps_if (pt_cmpR op_eq (pe_ix (k_ix_tup (K := K) rfl) (pv 5) pe_int (fun _ _ => rfl)) pe_str (nomark _)) (pss_cons (ps_set (i := 6) sc__law_step.nd rfl (by first | exact Or.inl rfl | exact Or.inr rfl) (pe_ix (k_ix_list (K := K) rfl) (pv 0) (pe_ix (k_ix_tup (K := K) rfl) (pv 5) pe_int (fun _ _ => rfl)) (fun _ _ => rfl)))
    (pss_cons (ps_asg (pe_op op_add (pe_ix (k_ix_list (K := K) rfl) (pv 1) (pe_ix (k_ix_tup (K := K) rfl) (pv 6) pe_int (fun _ _ => rfl)) (fun _ _ => rfl)) (pe_ix (k_ix_tup (K := K) rfl) (pv 6) pe_int (fun _ _ => rfl))) (pg_sub (pv 1) (pe_ix (k_ix_tup (K := K) rfl) (pv 6) pe_int (fun _ _ => rfl)) set_list))
    (pss_one (ps_expr (pe_bm PySem.F.plainAttrs_list PySem.F.slot_list_append PySem.F.type_list_append mt_append (pv 3) (pa_cons (pe_ix (k_ix_tup (K := K) rfl) (pv 5) pe_int (fun _ _ => rfl)) pa_nil)))))) (pss_one (ps_if (pt_cmpR op_eq (pe_ix (k_ix_tup (K := K) rfl) (pv 5) pe_int (fun _ _ => rfl)) pe_str (nomark _)) (pss_cons (ps_expr (pe_bm PySem.F.plainAttrs_list PySem.F.slot_list_append PySem.F.type_list_append mt_append (pv 2) (pa_cons (pe_lst (pa_cons pe_str (pa_cons (pe_ix (k_ix_tup (K := K) rfl) (pv 5) (pe_op op_add pe_int (pe_callTy call_int1 (by rfl) T.n_int (by decide +kernel) (pa_cons (pe_cmpR op_le (pe_ix (k_ix_list (K := K) rfl) (pv 1) (pe_ix (k_ix_tup (K := K) rfl) (pe_ix (k_ix_list (K := K) rfl) (pv 0) (pe_ix (k_ix_tup (K := K) rfl) (pv 5) pe_int (fun _ _ => rfl)) (fun _ _ => rfl)) pe_int (fun _ _ => rfl)) (fun _ _ => rfl)) pe_int (nomark _)) pa_nil))) (fun _ _ => rfl)) (pa_cons pe_int pa_nil)))) pa_nil)))
    (pss_one (ps_expr (pe_bm PySem.F.plainAttrs_list PySem.F.slot_list_append PySem.F.type_list_append mt_append (pv 3) (pa_cons (pe_ix (k_ix_tup (K := K) rfl) (pv 5) pe_int (fun _ _ => rfl)) pa_nil))))) (pss_one (ps_if (pt_cmpR (k_in_seq (K := K) rfl) (pe_ix (k_ix_tup (K := K) rfl) (pv 5) pe_int (fun _ _ => rfl)) (pe_tup (pa_cons pe_str (pa_cons pe_str pa_nil))) (by first | exact nomark _ | rfl)) (pss_one (ps_expr (pe_bm PySem.F.plainAttrs_list PySem.F.slot_list_append PySem.F.type_list_append mt_append (pv 2) (pa_cons (pe_lst (pa_cons (pe_ix (k_ix_tup (K := K) rfl) (pv 5) pe_int (fun _ _ => rfl)) (pa_cons (pe_ix (k_ix_tup (K := K) rfl) (pv 5) pe_int (fun _ _ => rfl)) (pa_cons pe_int pa_nil)))) pa_nil)))) (pss_one (ps_if (pt_cmpR op_eq (pe_ix (k_ix_tup (K := K) rfl) (pv 5) pe_int (fun _ _ => rfl)) pe_str (nomark _)) (pss_one (ps_expr (pe_bm0 PySem.F.plainAttrs_list PySem.F.slot_list_clear PySem.F.type_list_clear mt_clear (pv 2)))) (pss_one (ps_expr (pe_cal c__law_out (hr.mono (by decide)) (by rfl) pass0 (pa_cons (pv 2) (pa_cons (pv 5) pa_nil))))))))))))))))), ?_⟩
    obtain ⟨⟨hf0, hlow⟩, hrb, hm, h4⟩ := inv
    have hm : tl.length ≤ n := hm
    have h4 : bx.length = 4 := h4
    obtain ⟨t, us, p, ps, hpl, hul, tp, ft, fp, hf, hps, hbs, kpop, kset⟩ := hP.top
    have hf : H t = some (.lst [.str (fword f.k), .ref p, .int (f.p : Int)]) := hf
    have hat : atI (us ++ [V.ref t]) (((us ++ [V.ref t]).length : Int) - 1) = some (.ref t) := atI_last
    have tnl : t ≠ l := fun z => by
      subst z
      rw [hf] at hl
      exact not_isFr_ints bx ⟨_, _, _, (Option.some.inj hl).symm⟩
    have tnr : t ≠ tr := fun z => by
      subst z
      rw [hf] at htr
      exact not_isFr_nv tl ⟨_, _, _, (Option.some.inj htr).symm⟩
    have hlen5 := rb_len hrb
    have hlen6 : us.length + 1 ≤ 60001 := by
      rw [List.length_cons] at hlen5
      omega
    refine q_asg (v := .ref t) (ev_op (ev_var rfl) (ev_op (ev_len (ev_var rfl) (sq_of hpl)) ev_c rv_I0) (rv_ixL (sq_of hpl) hat)) fun H6 e6 => ?_
    have hf6 := e6 _ _ hf
    have hl6 := e6 _ _ hl
    have htr6 := e6 _ _ htr
    have hpl6 := e6 _ _ hpl
    have e6' := eF.trans e6
    have hps6 := ex_t e6' hps
    have evp : ∀ (H7 : Hp) (σ : L2.St), σ[4]? = some (some (.ref t)) → H7 t = some (.lst [.str (fword f.k), .ref p, .int (f.p : Int)]) → Ev (tOp (rIxL K) (tVar 4) (tC (.int 2))) σ H7 (.int (f.p : Int)) := fun H7 σ hσ h7 => ev_op (ev_var hσ) ev_c (rv_ixL (sq_of h7) rfl)
    have evb : ∀ (H7 : Hp) (σ : L2.St), σ[4]? = some (some (.ref t)) → H7 t = some (.lst [.str (fword f.k), .ref p, .int (f.p : Int)]) → Ev (tOp (rIxL K) (tVar 4) (tC (.int 1))) σ H7 (.ref p) := fun H7 σ hσ h7 => ev_op (ev_var hσ) ev_c (rv_ixL (sq_of h7) rfl)
    have hpl7 : ps.length = f.b.len := hbs.len
    refine q_when (b := decide (f.p = f.b.len)) (et_is (et_test (ev_op (evp H6 _ rfl hf6) (ev_lenT (evb H6 _ rfl hf6) hps6) (rv_eq rfl))) (by rw [hpl7]; exact decide_eq_decide.mpr ⟨fun z => by have := V.int.inj z; omega, fun z => by rw [z]⟩)) (fun hb2 H7 e7 => ?_) fun hb2 H7 e7 => ?_
    · have hr : f.rest = .nil := (Bd.drop_isNil _ _ hf0.2.2).mpr (of_decide_eq_true hb2)
      refine q_pop (ev_var rfl) (e7 _ _ hpl6) fun H8 e8 => ?_
      refine q _ (Ex.mut (e6'.trans (e7.trans e8)) fp) ?_ ?_ ?_
      · rw [step_nil hr, upd_ne d3]
        exact e8 _ _ (e7 _ _ hl6)
      · rw [step_nil hr, upd_ne (Ne.symm d1)]
        exact e8 _ _ (e7 _ _ htr6)
      · rw [step_nil hr]
        exact kpop _ (fun a o ha ho => by
          rw [upd_ne ha]
          exact e8 _ _ (e7 _ _ (e6 _ _ ho))) upd_same
    have hr : f.rest ≠ .nil := fun z => of_decide_eq_false hb2 ((Bd.drop_isNil _ _ hf0.2.2).mp z)
    have hbr : BsAt K F f.rest (ps.drop f.p) := hbs.drop
    obtain ⟨dt, us2, more, hdrop, hdt⟩ := hbr.head hr
    have hatp : atI ps (f.p : Int) = some (.ref dt) := atI_nat (by
      have z : (ps.drop f.p)[0]? = some (.ref dt) := by rw [hdrop]; rfl
      rw [List.getElem?_drop] at z
      exact z)
    refine q_asg (v := .ref dt) (ev_op (evb H7 _ rfl (e7 _ _ hf6)) (evp H7 _ rfl (e7 _ _ hf6)) (rv_ixT (ex_t e7 hps6) hatp)) fun H9 e9 => ?_
    have hf9 := e9 _ _ (e7 _ _ hf6)
    have hl9 := e9 _ _ (e7 _ _ hl6)
    have htr9 := e9 _ _ (e7 _ _ htr6)
    have hpl9 := e9 _ _ (e7 _ _ hpl6)
    have e9' := (e6'.trans e7).trans e9
    refine q_setL (l := t) (xs := [.str (fword f.k), .ref p, .int (f.p : Int)]) (j := 2) (v := .int ((f.p : Int) + 1)) hf9 (ev_op (evp H9 _ rfl hf9) ev_c rv_I0) (ev_var rfl) ev_c (by show 2 < 3; decide) fun H10 e10 => ?_
    have eA : Ex F (upd H10 t (.lst [.str (fword f.k), .ref p, .int ((f.p : Int) + 1)])) := Ex.mut (e9'.trans e10) ft
    have hlA : upd H10 t (.lst [.str (fword f.k), .ref p, .int ((f.p : Int) + 1)]) l = some (.lst (bx.map V.int)) := by
      rw [upd_ne (Ne.symm tnl)]
      exact e10 _ _ hl9
    have htrA : upd H10 t (.lst [.str (fword f.k), .ref p, .int ((f.p : Int) + 1)]) tr = some (.lst (nv tl)) := by
      rw [upd_ne (Ne.symm tnr)]
      exact e10 _ _ htr9
    have hplA : upd H10 t (.lst [.str (fword f.k), .ref p, .int ((f.p : Int) + 1)]) pl = some (.lst (us ++ [.ref t])) := by
      rw [upd_ne (Ne.symm tp)]
      exact e10 _ _ hpl9
    have hPA : PlAt K F (upd H10 t (.lst [.str (fword f.k), .ref p, .int ((f.p : Int) + 1)])) pl (f.inc :: fs) := kset _ f.inc rfl (fun a o ha ho => by
      rw [upd_ne ha]
      exact e10 _ _ (e9 _ _ (e7 _ _ (e6 _ _ ho)))) upd_same
    rw [show ([V.str (fword f.k), V.ref p, V.int (f.p : Int)] : List V).set 2 (V.int ((f.p : Int) + 1)) = [.str (fword f.k), .ref p, .int ((f.p : Int) + 1)] from rfl]
    generalize upd H10 t (.lst [.str (fword f.k), .ref p, .int ((f.p : Int) + 1)]) = HA at eA hlA hplA hPA htrA ⊢
    obtain ⟨vs, hvs, hvl, hvr⟩ := id hR
    have hvl : vs.length = rs.length := hvl
    have hokr := hf0.2.1
    have getr : ∀ (r : Nat) (w : URow), rs[r]? = some w → ∃ rt, atI vs (r : Int) = some (.ref rt) ∧ SqT K F rt w.vs ∧ rs.getD r (.add 0 0 0) = w ∧ w.ok rs.length := fun r w hw => by
      have h1 := (List.getElem?_eq_some_iff.mp hw).1
      have h2 : r < vs.length := by omega
      obtain ⟨rt, e1, e2⟩ := hvr r _ _ (List.getElem?_eq_getElem h2) hw
      exact ⟨rt, atI_nat (by rw [List.getElem?_eq_getElem h2, e1]), e2, by rw [List.getD_eq_getElem?_getD, hw]; rfl, ho.2.2 _ (List.mem_of_getElem? hw)⟩
    have gb : ∀ b : Nat, b < bx.length → atI (bx.map V.int) ((b : Nat) : Int) = some (.int (bx.getD b 0)) := fun b h => atI_nat (by
      rw [List.getElem?_map, List.getD_eq_getElem?_getD, List.getElem?_eq_getElem h]
      rfl)
    have htl : (nv tl).length < 100000 := by
      rw [nv_len]
      omega
    cases er : f.rest with
    | nil => exact absurd er hr
    | dd r k =>
      rw [er] at hbr hokr
      obtain ⟨t', us', h1, h2, h3⟩ := hbr
      rw [hdrop] at h1
      have h1 := (List.cons.inj h1).1
      cases h1
      obtain ⟨⟨bb, nn, xx, hrow⟩, _⟩ := hokr
      obtain ⟨rt, hat2, hrt, hgd, hro⟩ := getr r _ hrow
      have hrt : SqT K F rt [.str ("add" : Str), .int bb, .int nn, .int xx] := hrt
      have hbb : bb < bx.length := by
        have := hro.1
        omega
      refine s_if (b := true) (et_is (et_test (ev_op (ev_op (ev_var rfl) ev_c (rv_ixT (ex_t eA h2) rfl)) ev_c (rv_eq rfl))) (str_eq rfl)) (fun _ HB eB => ?_) (fun hb => by cases hb)
      have eB' := eA.trans eB
      refine q_asg (v := .ref rt) (ev_op (ev_var rfl) (ev_op (ev_var rfl) ev_c (rv_ixT (ex_t eB' h2) rfl)) (rv_ixL (ex_l eB' hvs) hat2)) fun HC eC => ?_
      have eC' := eB'.trans eC
      have hlC := eC _ _ (eB _ _ hlA)
      have evx : Ev (tOp (rIxT K) (tVar 6) (tC (.int 1))) [some (.ref a), some (.ref l), some (.ref pl), some (.ref tr), some (.ref t), some (.ref dt), some (.ref rt)] HC (.int (bb : Int)) := ev_op (ev_var rfl) ev_c (rv_ixT (ex_t eC' hrt) rfl)
      refine q_setL (l := l) (xs := bx.map V.int) (j := bb) (v := .int (bx.getD bb 0 + nn)) hlC (ev_op (ev_op (ev_var rfl) evx (rv_ixL (sq_of hlC) (gb bb hbb))) (ev_op (ev_var rfl) ev_c (rv_ixT (ex_t eC' hrt) rfl)) rv_I0) (ev_var rfl) evx (by rw [List.length_map]; exact hbb) fun HD eD => ?_
      have kD : ∀ a o, a ≠ l → HA a = some o → upd HD l (.lst ((bx.map V.int).set bb (.int (bx.getD bb 0 + nn)))) a = some o := fun a o ha ho => by
        rw [upd_ne ha]
        exact eD _ _ (eC _ _ (eB _ _ ho))
      have eE : Ex F (upd HD l (.lst ((bx.map V.int).set bb (.int (bx.getD bb 0 + nn))))) := ex_but eA l0 kD
      have hPE := hPA.keepL hlA (not_isFr_ints bx) d3 kD
      have htrE := kD _ _ (Ne.symm d2) htrA
      have hlE : upd HD l (.lst ((bx.map V.int).set bb (.int (bx.getD bb 0 + nn)))) l = some (.lst ((bx.set bb (bx.getD bb 0 + nn)).map V.int)) := by
        rw [upd_same, List.map_set]
      generalize upd HD l (.lst ((bx.map V.int).set bb (.int (bx.getD bb 0 + nn)))) = HE at eE hPE htrE hlE ⊢
      refine s_app (l := tr) (xs := nv tl) (v := .int (r : Int)) htrE (ev_var rfl) (ev_op (ev_var rfl) ev_c (rv_ixT (ex_t eE h2) rfl)) htl fun HG eG => ?_
      have kG : ∀ a o, a ≠ tr → HE a = some o → upd HG tr (.lst (nv tl ++ [.int (r : Int)])) a = some o := fun a o ha ho => by
        rw [upd_ne ha]
        exact eG _ _ ho
      refine q _ (ex_but eE t0 kG) ?_ ?_ ?_
      · rw [step_dd er, hgd]
        exact kG _ _ d2 hlE
      · rw [step_dd er, upd_same, nv_app]
      · rw [step_dd er]
        exact hPE.keepL htrE (not_isFr_nv tl) (Ne.symm d1) kG
    | ch r y n2 k =>
      rw [er] at hbr hokr
      obtain ⟨t', us', p2, ps2, q2, qs2, h1, h2, hp2, hb2, hq2, hb2', h3⟩ := hbr
      rw [hdrop] at h1
      have h1 := (List.cons.inj h1).1
      cases h1
      obtain ⟨⟨bb, yy, xx, hrow⟩, _⟩ := hokr
      obtain ⟨rt, hat2, hrt, hgd, hro⟩ := getr r _ hrow
      have hrt : SqT K F rt [.str ("more" : Str), .int bb, .int yy, .int xx] := hrt
      have hbb : bb < bx.length := by
        have := hro.1
        omega
      refine s_if (b := false) (et_is (et_test (ev_op (ev_op (ev_var rfl) ev_c (rv_ixT (ex_t eA h2) rfl)) ev_c (rv_eq rfl))) (str_ne (by decide +kernel))) (fun hb => by cases hb) (fun _ HB eB => ?_)
      refine s_if (b := true) (et_is (et_test (ev_op (ev_op (ev_var rfl) ev_c (rv_ixT (ex_t (eA.trans eB) h2) rfl)) ev_c (rv_eq rfl))) (str_eq rfl)) (fun _ HC eC => ?_) (fun hb => by cases hb)
      have eD' := (eA.trans eB).trans eC
      have hlD := eC _ _ (eB _ _ hlA)
      have hplD := eC _ _ (eB _ _ hplA)
      have htrD := eC _ _ (eB _ _ htrA)
      have hPD := hPA.ex (eB.trans eC)
      have fin : ∀ (pp : Addr) (pps : List V) (bb2 : Bd), SqT K F pp pps → BsAt K F bb2 pps → (if bx.getD bb 0 > 0 then y else n2) = bb2 → (∀ tt HE, HC tt = none → Ex HC HE → HE tt = some (.lst [.str ("choose" : Str), .ref pp, .int 0]) →
          PlAt K F (upd HE pl (.lst ((us ++ [.ref t]) ++ [.ref tt]))) pl (stepF rs (f :: fs, bx, tl)).1 ∧ Ex F (upd HE pl (.lst ((us ++ [.ref t]) ++ [.ref tt]))) ∧ upd HE pl (.lst ((us ++ [.ref t]) ++ [.ref tt])) l = some (.lst (bx.map V.int)) ∧ upd HE pl (.lst ((us ++ [.ref t]) ++ [.ref tt])) tr = some (.lst (nv tl))) := fun pp pps bb2 g1 g2 g3 tt HE gt ge gh => by
        refine ⟨?_, Ex.mut (eD'.trans ge) fp, ?_, ?_⟩
        · rw [step_ch er, hgd]
          show PlAt K F _ pl (⟨0, if bx.getD bb 0 > 0 then y else n2, 0⟩ :: f.inc :: fs)
          rw [g3]
          exact hPD.push eD' hplD gt gh ge g1 g2 (fun a o ha ho => by
            rw [upd_ne ha]
            exact ho) upd_same
        · rw [upd_ne d3]
          exact ge _ _ hlD
        · rw [upd_ne (Ne.symm d1)]
          exact ge _ _ htrD
      have last : ∀ (HE : Hp), PlAt K F HE pl (stepF rs (f :: fs, bx, tl)).1 → Ex F HE → HE l = some (.lst (bx.map V.int)) → HE tr = some (.lst (nv tl)) → ∀ HG, Ex HE HG → Q .non (upd HG tr (.lst (nv tl ++ [.int (r : Int)]))) := fun HE g1 g2 g3 g4 HG eG => by
        have kG : ∀ a o, a ≠ tr → HE a = some o → upd HG tr (.lst (nv tl ++ [.int (r : Int)])) a = some o := fun a o ha ho => by
          rw [upd_ne ha]
          exact eG _ _ ho
        refine q _ (ex_but g2 t0 kG) ?_ ?_ ?_
        · rw [step_ch er]
          exact kG _ _ d2 g3
        · rw [step_ch er, upd_same, nv_app]
        · exact g1.keepL g4 (not_isFr_nv tl) (Ne.symm d1) kG
      have evh : Ev (tOp (rIxL K) (tVar 1) (tOp (rIxT K) (tOp (rIxL K) (tVar 0) (tOp (rIxT K) (tVar 5) (tC (.int 1)))) (tC (.int 1)))) [some (.ref a), some (.ref l), some (.ref pl), some (.ref tr), some (.ref t), some (.ref dt), none] HC (.int (bx.getD bb 0)) :=
        ev_op (ev_var rfl) (ev_op (ev_op (ev_var rfl) (ev_op (ev_var rfl) ev_c (rv_ixT (ex_t eD' h2) rfl)) (rv_ixL (ex_l eD' hvs) hat2)) ev_c (rv_ixT (ex_t eD' hrt) rfl)) (rv_ixL (sq_of hlD) (gb bb hbb))
      by_cases hpos : bx.getD bb 0 > 0
      · refine q_appL (l := pl) hplD (ev_var rfl) (el_lst (vs := [.str ("choose" : Str), .ref p2, .int 0]) (ea_cons ev_c (ea_cons (ev_op (ev_var rfl) (ev_op ev_c (ev_is (ev_intB (k := false) (ev_is (ev_op evh ev_c (rv_I0b rfl)) (congrArg V.bl (decide_eq_false (by omega))))) rfl) rv_I0) (rv_ixT (v := .ref p2) (ex_t eD' h2) rfl)) (ea_cons ev_c ea_nil))) (by show 3 ≤ 100000; decide)) (by rw [List.length_append, List.length_singleton]; omega) fun tt HE htt eE hE => ?_
        obtain ⟨g1, g2, g3, g4⟩ := fin p2 ps2 y hp2 hb2 (if_pos hpos) tt HE htt eE hE
        exact s_app (l := tr) (xs := nv tl) (v := .int (r : Int)) g4 (ev_var rfl) (ev_op (ev_var rfl) ev_c (rv_ixT (ex_t g2 h2) rfl)) htl fun HG eG => last _ g1 g2 g3 g4 HG eG
      · refine q_appL (l := pl) hplD (ev_var rfl) (el_lst (vs := [.str ("choose" : Str), .ref q2, .int 0]) (ea_cons ev_c (ea_cons (ev_op (ev_var rfl) (ev_op ev_c (ev_is (ev_intB (k := true) (ev_is (ev_op evh ev_c (rv_I0b rfl)) (congrArg V.bl (decide_eq_true (by omega))))) rfl) rv_I0) (rv_ixT (v := .ref q2) (ex_t eD' h2) rfl)) (ea_cons ev_c ea_nil))) (by show 3 ≤ 100000; decide)) (by rw [List.length_append, List.length_singleton]; omega) fun tt HE htt eE hE => ?_
        obtain ⟨g1, g2, g3, g4⟩ := fin q2 qs2 n2 hq2 hb2' (if_neg hpos) tt HE htt eE hE
        exact s_app (l := tr) (xs := nv tl) (v := .int (r : Int)) g4 (ev_var rfl) (ev_op (ev_var rfl) ev_c (rv_ixT (ex_t g2 h2) rfl)) htl fun HG eG => last _ g1 g2 g3 g4 HG eG
    | bk b2 k =>
      rw [er] at hbr hokr
      obtain ⟨t', us', p2, ps2, h1, h2, hp2, hb2, h3⟩ := hbr
      rw [hdrop] at h1
      have h1 := (List.cons.inj h1).1
      cases h1
      refine s_if (b := false) (et_is (et_test (ev_op (ev_op (ev_var rfl) ev_c (rv_ixT (ex_t eA h2) rfl)) ev_c (rv_eq rfl))) (str_ne (by decide +kernel))) (fun hb => by cases hb) (fun _ HB eB => ?_)
      refine s_if (b := false) (et_is (et_test (ev_op (ev_op (ev_var rfl) ev_c (rv_ixT (ex_t (eA.trans eB) h2) rfl)) ev_c (rv_eq rfl))) (str_ne (by decide +kernel))) (fun hb => by cases hb) (fun _ HC eC => ?_)
      refine s_if (b := true) (et_is (et_test (ev_inU (ev_op (ev_var rfl) ev_c (rv_ixT (ex_t ((eA.trans eB).trans eC) h2) rfl)) (eu_tup (ea_cons ev_c (ea_cons ev_c ea_nil)) (by show 2 ≤ 100000; decide)) rfl rfl)) rfl) (fun _ HD eD => ?_) (fun hb => by cases hb)
      have eD' := ((eA.trans eB).trans eC).trans eD
      have hlD := eD _ _ (eC _ _ (eB _ _ hlA))
      have hplD := eD _ _ (eC _ _ (eB _ _ hplA))
      have htrD := eD _ _ (eC _ _ (eB _ _ htrA))
      have hPD := hPA.ex ((eB.trans eC).trans eD)
      refine s_appL (l := pl) hplD (ev_var rfl) (el_lst (vs := [.str ("block" : Str), .ref p2, .int 0]) (ea_cons (ev_op (ev_var rfl) ev_c (rv_ixT (ex_t eD' h2) rfl)) (ea_cons (ev_op (ev_var rfl) ev_c (rv_ixT (ex_t eD' h2) rfl)) (ea_cons ev_c ea_nil))) (by show 3 ≤ 100000; decide)) (by rw [List.length_append, List.length_singleton]; omega) fun tt HG htt eG hG => ?_
      refine q _ (Ex.mut (eD'.trans eG) fp) ?_ ?_ ?_
      · rw [step_bk er, upd_ne d3]
        exact eG _ _ hlD
      · rw [step_bk er, upd_ne (Ne.symm d1)]
        exact eG _ _ htrD
      · rw [step_bk er]
        exact hPD.push (f := ⟨1, b2, 0⟩) eD' hplD htt hG eG hp2 hb2 (fun a o ha ho => by
          rw [upd_ne ha]
          exact ho) upd_same
    | lp b2 k =>
      rw [er] at hbr hokr
      obtain ⟨t', us', p2, ps2, h1, h2, hp2, hb2, h3⟩ := hbr
      rw [hdrop] at h1
      have h1 := (List.cons.inj h1).1
      cases h1
      refine s_if (b := false) (et_is (et_test (ev_op (ev_op (ev_var rfl) ev_c (rv_ixT (ex_t eA h2) rfl)) ev_c (rv_eq rfl))) (str_ne (by decide +kernel))) (fun hb => by cases hb) (fun _ HB eB => ?_)
      refine s_if (b := false) (et_is (et_test (ev_op (ev_op (ev_var rfl) ev_c (rv_ixT (ex_t (eA.trans eB) h2) rfl)) ev_c (rv_eq rfl))) (str_ne (by decide +kernel))) (fun hb => by cases hb) (fun _ HC eC => ?_)
      refine s_if (b := true) (et_is (et_test (ev_inU (ev_op (ev_var rfl) ev_c (rv_ixT (ex_t ((eA.trans eB).trans eC) h2) rfl)) (eu_tup (ea_cons ev_c (ea_cons ev_c ea_nil)) (by show 2 ≤ 100000; decide)) rfl rfl)) rfl) (fun _ HD eD => ?_) (fun hb => by cases hb)
      have eD' := ((eA.trans eB).trans eC).trans eD
      have hlD := eD _ _ (eC _ _ (eB _ _ hlA))
      have hplD := eD _ _ (eC _ _ (eB _ _ hplA))
      have htrD := eD _ _ (eC _ _ (eB _ _ htrA))
      have hPD := hPA.ex ((eB.trans eC).trans eD)
      refine s_appL (l := pl) hplD (ev_var rfl) (el_lst (vs := [.str ("loop" : Str), .ref p2, .int 0]) (ea_cons (ev_op (ev_var rfl) ev_c (rv_ixT (ex_t eD' h2) rfl)) (ea_cons (ev_op (ev_var rfl) ev_c (rv_ixT (ex_t eD' h2) rfl)) (ea_cons ev_c ea_nil))) (by show 3 ≤ 100000; decide)) (by rw [List.length_append, List.length_singleton]; omega) fun tt HG htt eG hG => ?_
      refine q _ (Ex.mut (eD'.trans eG) fp) ?_ ?_ ?_
      · rw [step_lp er, upd_ne d3]
        exact eG _ _ hlD
      · rw [step_lp er, upd_ne (Ne.symm d1)]
        exact eG _ _ htrD
      · rw [step_lp er]
        exact hPD.push (f := ⟨2, b2, 0⟩) eD' hplD htt hG eG hp2 hb2 (fun a o ha ho => by
          rw [upd_ne ha]
          exact ho) upd_same
    | st k =>
      rw [er] at hbr hokr
      obtain ⟨t', us', h1, h2, h3⟩ := hbr
      rw [hdrop] at h1
      have h1 := (List.cons.inj h1).1
      cases h1
      refine s_if (b := false) (et_is (et_test (ev_op (ev_op (ev_var rfl) ev_c (rv_ixT (ex_t eA h2) rfl)) ev_c (rv_eq rfl))) (str_ne (by decide +kernel))) (fun hb => by cases hb) (fun _ HB eB => ?_)
      refine s_if (b := false) (et_is (et_test (ev_op (ev_op (ev_var rfl) ev_c (rv_ixT (ex_t (eA.trans eB) h2) rfl)) ev_c (rv_eq rfl))) (str_ne (by decide +kernel))) (fun hb => by cases hb) (fun _ HC eC => ?_)
      refine s_if (b := false) (et_is (et_test (ev_inU (ev_op (ev_var rfl) ev_c (rv_ixT (ex_t ((eA.trans eB).trans eC) h2) rfl)) (eu_tup (ea_cons ev_c (ea_cons ev_c ea_nil)) (by show 2 ≤ 100000; decide)) rfl rfl)) rfl) (fun hb => by cases hb) (fun _ HD eD => ?_)
      have eD' := ((eA.trans eB).trans eC).trans eD
      have hlD := eD _ _ (eC _ _ (eB _ _ hlA))
      have hplD := eD _ _ (eC _ _ (eB _ _ hplA))
      have htrD := eD _ _ (eC _ _ (eB _ _ htrA))
      have hPD := hPA.ex ((eB.trans eC).trans eD)
      refine s_if (b := true) (et_is (et_test (ev_op (ev_op (ev_var rfl) ev_c (rv_ixT (ex_t eD' h2) rfl)) ev_c (rv_eq rfl))) (str_eq rfl)) (fun _ HE eE => ?_) (fun hb => by cases hb)
      refine s_clear (ev_var rfl) (eE _ _ hplD) fun HG eG => ?_
      refine q _ (Ex.mut (eD'.trans (eE.trans eG)) fp) ?_ ?_ ?_
      · rw [step_st er, upd_ne d3]
        exact eG _ _ (eE _ _ hlD)
      · rw [step_st er, upd_ne (Ne.symm d1)]
        exact eG _ _ (eE _ _ htrD)
      · rw [step_st er]
        exact PlAt.nil upd_same fp
    | lv d k =>
      rw [er] at hbr hokr
      obtain ⟨t', us', h1, h2, h3⟩ := hbr
      rw [hdrop] at h1
      have h1 := (List.cons.inj h1).1
      cases h1
      refine s_if (b := false) (et_is (et_test (ev_op (ev_op (ev_var rfl) ev_c (rv_ixT (ex_t eA h2) rfl)) ev_c (rv_eq rfl))) (str_ne (by decide +kernel))) (fun hb => by cases hb) (fun _ HB eB => ?_)
      refine s_if (b := false) (et_is (et_test (ev_op (ev_op (ev_var rfl) ev_c (rv_ixT (ex_t (eA.trans eB) h2) rfl)) ev_c (rv_eq rfl))) (str_ne (by decide +kernel))) (fun hb => by cases hb) (fun _ HC eC => ?_)
      refine s_if (b := false) (et_is (et_test (ev_inU (ev_op (ev_var rfl) ev_c (rv_ixT (ex_t ((eA.trans eB).trans eC) h2) rfl)) (eu_tup (ea_cons ev_c (ea_cons ev_c ea_nil)) (by show 2 ≤ 100000; decide)) rfl rfl)) rfl) (fun hb => by cases hb) (fun _ HD eD => ?_)
      have eD' := ((eA.trans eB).trans eC).trans eD
      have hlD := eD _ _ (eC _ _ (eB _ _ hlA))
      have hplD := eD _ _ (eC _ _ (eB _ _ hplA))
      have htrD := eD _ _ (eC _ _ (eB _ _ htrA))
      have hPD := hPA.ex ((eB.trans eC).trans eD)
      refine s_if (b := false) (et_is (et_test (ev_op (ev_op (ev_var rfl) ev_c (rv_ixT (ex_t eD' h2) rfl)) ev_c (rv_eq rfl))) (str_ne (by decide +kernel))) (fun hb => by cases hb) (fun _ HE eE => ?_)
      refine s_gone (F := F) (fs := f.inc :: fs) (ag := false) (d := d) (ev_var rfl) (ev_var rfl) (eD'.trans eE) (hPD.ex eE) h2 hokr.1 (by rw [List.length_cons]; rw [List.length_cons] at hlen5; omega) fun HG g1 g2 g3 => ?_
      refine q HG g1 ?_ ?_ ?_
      · rw [step_lv er]
        exact g2 _ _ (eE _ _ hlD) d3 (not_isFr_ints bx)
      · rw [step_lv er]
        exact g2 _ _ (eE _ _ htrD) (Ne.symm d1) (not_isFr_nv tl)
      · rw [step_lv er]
        exact g3
    | ag d k =>
      rw [er] at hbr hokr
      obtain ⟨t', us', h1, h2, h3⟩ := hbr
      rw [hdrop] at h1
      have h1 := (List.cons.inj h1).1
      cases h1
      refine s_if (b := false) (et_is (et_test (ev_op (ev_op (ev_var rfl) ev_c (rv_ixT (ex_t eA h2) rfl)) ev_c (rv_eq rfl))) (str_ne (by decide +kernel))) (fun hb => by cases hb) (fun _ HB eB => ?_)
      refine s_if (b := false) (et_is (et_test (ev_op (ev_op (ev_var rfl) ev_c (rv_ixT (ex_t (eA.trans eB) h2) rfl)) ev_c (rv_eq rfl))) (str_ne (by decide +kernel))) (fun hb => by cases hb) (fun _ HC eC => ?_)
      refine s_if (b := false) (et_is (et_test (ev_inU (ev_op (ev_var rfl) ev_c (rv_ixT (ex_t ((eA.trans eB).trans eC) h2) rfl)) (eu_tup (ea_cons ev_c (ea_cons ev_c ea_nil)) (by show 2 ≤ 100000; decide)) rfl rfl)) rfl) (fun hb => by cases hb) (fun _ HD eD => ?_)
      have eD' := ((eA.trans eB).trans eC).trans eD
      have hlD := eD _ _ (eC _ _ (eB _ _ hlA))
      have hplD := eD _ _ (eC _ _ (eB _ _ hplA))
      have htrD := eD _ _ (eC _ _ (eB _ _ htrA))
      have hPD := hPA.ex ((eB.trans eC).trans eD)
      refine s_if (b := false) (et_is (et_test (ev_op (ev_op (ev_var rfl) ev_c (rv_ixT (ex_t eD' h2) rfl)) ev_c (rv_eq rfl))) (str_ne (by decide +kernel))) (fun hb => by cases hb) (fun _ HE eE => ?_)
      refine s_gone (F := F) (fs := f.inc :: fs) (ag := true) (d := d) (ev_var rfl) (ev_var rfl) (eD'.trans eE) (hPD.ex eE) h2 hokr.1 (by rw [List.length_cons]; rw [List.length_cons] at hlen5; omega) fun HG g1 g2 g3 => ?_
      refine q HG g1 ?_ ?_ ?_
      · rw [step_ag er]
        exact g2 _ _ (eE _ _ hlD) d3 (not_isFr_ints bx)
      · rw [step_ag er]
        exact g2 _ _ (eE _ _ htrD) (Ne.symm d1) (not_isFr_nv tl)
      · rw [step_ag er]
        exact g3

abbrev s__law_asks : Stmt := topS 21
theorem sc__law_asks : FnScope ["_law_pile", "_law_top"] ["_law_pile"] (defScope s__law_asks) := ⟨rfl, rfl, rfl, by decide +kernel, rfl, by decide +kernel, by decide +kernel⟩
theorem c__law_asks (T : Txt mg) (D : DefAt K mg "_law_asks" s__law_asks) : Cal P w K mg base CX0 1 "_law_asks" ["_law_pile"] (spAsks K) := by
  refine cal_of (k := 0) D sc__law_asks (fun _ _ _ _ _ _ us hl => match us, hl with | [_], _ => rfl) (fun vs H Q E h => ?_) (fun f cdv A outer s H vs Q E hr h => ?_)
  · obtain ⟨⟨F, pl, fs⟩, ⟨rfl, _⟩, _⟩ := h
    rfl
  · obtain ⟨⟨F, pl, fs⟩, ⟨rfl, eF, hP, hn, hp⟩, q⟩ := h
    walk_at "ds"
    refine ⟨_, (pss_cons (ps_set (i := 1) sc__law_asks.nd rfl (by first | exact Or.inl rfl | exact Or.inr rfl) (pe_ix (k_ix_list (K := K) rfl) (pv 0) (pe_op op_sub (pe_callB (k_len_seq (K := K) rfl) (by rfl) T.n_len PySem.boot_len (pa_cons (pv 0) pa_nil)) pe_int) (fun _ _ => rfl)))
    (pss_one (ps_ret (pe_and (pe_cmpR op_lt (pe_ix (k_ix_list (K := K) rfl) (pv 1) pe_int (fun _ _ => rfl)) (pe_callB (k_len_seq (K := K) rfl) (by rfl) T.n_len PySem.boot_len (pa_cons (pe_ix (k_ix_list (K := K) rfl) (pv 1) pe_int (fun _ _ => rfl)) pa_nil)) (nomark _)) (pe_one (pe_cmpR (k_in_seq (K := K) rfl) (pe_ix (k_ix_tup (K := K) rfl) (pe_ix (k_ix_tup (K := K) rfl) (pe_ix (k_ix_list (K := K) rfl) (pv 1) pe_int (fun _ _ => rfl)) (pe_ix (k_ix_list (K := K) rfl) (pv 1) pe_int (fun _ _ => rfl)) (fun _ _ => rfl)) pe_int (fun _ _ => rfl)) (pe_tup (pa_cons pe_str (pa_cons pe_str pa_nil))) (by first | exact nomark _ | rfl))))))), ?_⟩
    cases fs with
    | nil => exact absurd rfl hn
    | cons f fs =>
    obtain ⟨t, us, p, ps, hpl, hul, tp, ft, fp, hf, hps, hbs, kpop, kset⟩ := hP.top
    have hf : H t = some (.lst [.str (fword f.k), .ref p, .int (f.p : Int)]) := hf
    have hat : atI (us ++ [V.ref t]) (((us ++ [V.ref t]).length : Int) - 1) = some (.ref t) := atI_last
    have hle := hp f fs rfl
    have hpl7 : ps.length = f.b.len := hbs.len
    refine q_asg (v := .ref t) (ev_op (ev_var rfl) (ev_op (ev_len (ev_var rfl) (sq_of hpl)) ev_c rv_I0) (rv_ixL (sq_of hpl) hat)) fun H6 e6 => ?_
    have hf6 := e6 _ _ hf
    have e6' := eF.trans e6
    have hps6 := ex_t e6' hps
    have evp : Ev (tOp (rIxL K) (tVar 1) (tC (.int 2))) [some (.ref pl), some (.ref t)] H6 (.int (f.p : Int)) := ev_op (ev_var rfl) ev_c (rv_ixL (sq_of hf6) rfl)
    have evb : Ev (tOp (rIxL K) (tVar 1) (tC (.int 1))) [some (.ref pl), some (.ref t)] H6 (.ref p) := ev_op (ev_var rfl) ev_c (rv_ixL (sq_of hf6) rfl)
    by_cases hr : f.rest = .nil
    · have hz : f.p = f.b.len := (Bd.drop_isNil _ _ hle).mp hr
      refine s_ret (v := .bl false) (ev_is (ev_andV (a := false) (b := false) (ev_is (ev_op evp (ev_lenT evb hps6) (rv_I0b rfl)) (congrArg V.bl (decide_eq_false (by omega)))) (fun hb => by cases hb)) rfl) fun H7 e7 => ?_
      have z : asksF (f :: fs) = false := by
        show asksB f.rest = false
        rw [hr]
        rfl
      exact q _ H7 (e6.trans e7) (by rw [z])
    · have hz : ¬ f.p = f.b.len := fun z => hr ((Bd.drop_isNil _ _ hle).mpr z)
      have hbr : BsAt K F f.rest (ps.drop f.p) := hbs.drop
      obtain ⟨dt, us2, more, hdrop, hdt⟩ := hbr.head hr
      have hatp : atI ps (f.p : Int) = some (.ref dt) := atI_nat (by
        have z : (ps.drop f.p)[0]? = some (.ref dt) := by rw [hdrop]; rfl
        rw [List.getElem?_drop] at z
        exact z)
      refine s_ret (v := .bl (asksB f.rest)) (ev_is (ev_andV (a := true) (b := asksB f.rest) (ev_is (ev_op evp (ev_lenT evb hps6) (rv_I0b rfl)) (congrArg V.bl (decide_eq_true (by omega)))) (fun _ => ev_is (ev_inU (ev_op (ev_op evb evp (rv_ixT hps6 hatp)) ev_c (rv_ixT (ex_t e6' hdt) (atI_nat (j := 0) rfl))) (eu_tup (ea_cons ev_c (ea_cons ev_c ea_nil)) (by show 2 ≤ 100000; decide)) rfl rfl) (by rw [asks_in hr]))) rfl) fun H7 e7 => ?_
      exact q _ H7 (e6.trans e7) rfl

abbrev s__law_walk : Stmt := topS 22
theorem sc__law_walk : FnScope ["_law_rows", "_law_body", "_law_boxes", "_law_most", "_law_held", "_law_pile", "_law_trail"] ["_law_rows", "_law_body", "_law_boxes", "_law_most"] (defScope s__law_walk) := ⟨rfl, rfl, rfl, by decide +kernel, rfl, by decide +kernel, by decide +kernel⟩
theorem c__law_walk (T : Txt mg) (D : DefAt K mg "_law_walk" s__law_walk) (c__law_step : Cal P w K mg base CX0 2 "_law_step" ["_law_rows", "_law_held", "_law_pile", "_law_trail"] (spLStep K)) (c__law_asks : Cal P w K mg base CX0 1 "_law_asks" ["_law_pile"] (spAsks K)) : Cal P w K mg base CX0 3 "_law_walk" ["_law_rows", "_law_body", "_law_boxes", "_law_most"] (spLWalk K) := by
  refine cal_of (k := 2) D sc__law_walk (fun _ _ _ _ _ _ us hl => match us, hl with | [_, _, _, _], _ => rfl) (fun vs H Q E h => ?_) (fun f cdv A outer s H vs Q E hr h => ?_)
  · obtain ⟨⟨a, bo, ba, rs, b, bx0, n⟩, ⟨rfl, _⟩, _⟩ := h
    rfl
  · obtain ⟨⟨a, bo, ba, rs, b, bx0, n⟩, ⟨rfl, hR, ho, hBo, hok, hsz, hBa, h40, hn⟩, q⟩ := h
    walk_at "ds"
    refine ⟨_, (pss_cons (ps_set (i := 4) sc__law_walk.nd rfl (by first | exact Or.inl rfl | exact Or.inr rfl) (pe_callTy (k_list_of (K := K) rfl) (by rfl) T.n_list (by decide +kernel) (pa_cons (pv 2) pa_nil)))
    (pss_cons (ps_set (i := 5) sc__law_walk.nd rfl (by first | exact Or.inl rfl | exact Or.inr rfl) (pe_lst (pa_cons (pe_lst (pa_cons pe_str (pa_cons (pv 1) (pa_cons pe_int pa_nil)))) pa_nil)))
    (pss_cons (ps_set (i := 6) sc__law_walk.nd rfl (by first | exact Or.inl rfl | exact Or.inr rfl) (pe_lst pa_nil))
    (pss_cons (ps_while PassesOwn.never (pt_cmpR op_gt (pe_callB (k_len_seq (K := K) rfl) (by rfl) T.n_len PySem.boot_len (pa_cons (pv 5) pa_nil)) pe_int (nomark _)) (pss_cons (ps_if (PW.pt (pw_and (pt_cmpR op_eq (pe_callB (k_len_seq (K := K) rfl) (by rfl) T.n_len PySem.boot_len (pa_cons (pv 6) pa_nil)) (pv 3) (nomark _)) (pw_and1 (pt_val (pe_cal c__law_asks (hr.mono (by decide)) (by rfl) pass0 (pa_cons (pv 5) pa_nil)))))) (pss_one (ps_ret (pe_lst (pa_cons (pv 4) (pa_cons (pv 3) (pa_cons pe_bl (pa_cons (pv 6) pa_nil))))))) pss_nil)
    (pss_one (ps_expr (pe_cal c__law_step (hr.mono (by decide)) (by rfl) pass0 (pa_cons (pv 0) (pa_cons (pv 4) (pa_cons (pv 5) (pa_cons (pv 6) pa_nil)))))))))
    (pss_one (ps_ret (pe_lst (pa_cons (pv 4) (pa_cons (pe_callB (k_len_seq (K := K) rfl) (by rfl) T.n_len PySem.boot_len (pa_cons (pv 6) pa_nil)) (pa_cons pe_bl (pa_cons (pv 6) pa_nil))))))))))), ?_⟩
    refine q_asgL (el_listS (ev_var rfl) hBa) fun l H2 hl e2 h2 => ?_
    refine q_asgR (er_lst (R := fun ws H' => ∃ t, ws = [.ref t] ∧ H2 t = none ∧ H' t = some (.lst [.str ("choose" : Str), .ref bo, .int 0])) (ear_cons (el_lst (vs := [.str ("choose" : Str), .ref bo, .int 0]) (ea_cons ev_c (ea_cons (ev_var rfl) (ea_cons ev_c ea_nil))) (by show 3 ≤ 100000; decide)).toR fun H3 x H4 e3 e4 hx => ?_) (fun ws H' ⟨t, ew, _⟩ => by rw [ew]; show 1 ≤ 100000; decide)) fun v3 H3 e3 r3 => ?_
    · obtain ⟨t, rfl, ht, h4⟩ := hx
      intro H5 e5 Q k
      exact k [] H5 (Ex.refl H5) ⟨t, rfl, fresh_back e3 ht, e5 _ _ h4⟩
    obtain ⟨pl, ws, Hx, rfl, pl0, ex1, ⟨t0, rfl, ht0, hx0⟩, hxpl, ex2, hpl⟩ := r3
    refine q_asgL (el_lst (vs := []) ea_nil (by show 0 ≤ 100000; decide)) fun tr H4 tr0 e4 htr => ?_
    have e04 : Ex H H4 := (e2.trans e3).trans e4
    have t0' : H tr = none := fresh_back (e2.trans e3) tr0
    have p0' : H pl = none := fresh_back e2 pl0
    have hl4 : H4 l = some (.lst (bx0.map V.int)) := e4 _ _ (e3 _ _ h2)
    have lp : l ≠ pl := fun z => by
      subst z
      rw [h2] at pl0
      cases pl0
    have ltr : l ≠ tr := fun z => by
      subst z
      rw [e3 _ _ h2] at tr0
      cases tr0
    have ptr : pl ≠ tr := fun z => by
      subst z
      rw [hpl] at tr0
      cases tr0
    obtain ⟨bs, hbs, hbb⟩ := hBo
    have P0 : PlAt K H H4 pl [⟨0, b, 0⟩] := by
      refine ⟨[t0], e4 _ _ hpl, p0', ?_, List.nodup_cons.mpr ⟨List.not_mem_nil, List.nodup_nil⟩, ?_, t0, [], bo, bs, rfl, e4 _ _ (ex2 _ _ hx0), hbs, hbb, rfl⟩
      · intro hm
        have z := List.mem_singleton.mp hm
        subst z
        rw [hxpl] at hx0
        cases hx0
      · intro u hu
        have z := List.mem_singleton.mp hu
        subst z
        exact fresh_back e2 ht0
    have I0 : InvF (IsAdd rs) (IsMore rs) (b.size + 1) n (st0 b bx0) := ⟨⟨⟨hok, (by show (b.drop 0).ok _ _ _ _; rw [Bd.drop_zero]; exact hok), Nat.zero_le _⟩, trivial⟩, ⟨Nat.le_refl _, trivial⟩, Nat.zero_le _, h40⟩
    refine q_whileW (fun m σ' H' => ∃ (s : List Fr × List Int × List Nat), m = measF (b.size + 1) n s ∧ InvF (IsAdd rs) (IsMore rs) (b.size + 1) n s ∧ Ex H H' ∧ H' l = some (.lst (s.2.1.map V.int)) ∧ H' tr = some (.lst (nv s.2.2)) ∧ PlAt K H H' pl s.1 ∧ (∀ s1, EndsF rs n s s1 → EndsF rs n (st0 b bx0) s1) ∧
        σ' = [some (.ref a), some (.ref bo), some (.ref ba), some (.int (n : Int)), some (.ref l), some (.ref pl), some (.ref tr)]) (measF (b.size + 1) n (st0 b bx0)) ?_ ?_
    · exact ⟨st0 b bx0, rfl, I0, e04, hl4, htr, P0, fun _ h => h, rfl⟩
    · rintro m σ' H' ⟨⟨fs0, bx, tl⟩, rfl, inv, e, hl', htr', hP, hend, rfl⟩
      walk_at "ds"
      obtain ⟨xs, hx, hxl⟩ := hP.len
      have hxl : xs.length = fs0.length := hxl
      refine ⟨!fs0.isEmpty, ?_, fun hb H5 e5 => ?_, fun hb H5 e5 => ?_⟩
      · refine et_is (et_test (ev_op (ev_len (ev_var rfl) (sq_of hx)) ev_c (rv_I0b rfl))) ?_
        rw [hxl]
        cases fs0 with
        | nil => rfl
        | cons f fs => exact decide_eq_true (by rw [List.length_cons]; omega)
      · cases fs0 with
        | nil => cases hb
        | cons f fs =>
        have e5' : Ex H H5 := e.trans e5
        have hP5 := hP.ex e5
        have hl5 := e5 _ _ hl'
        have htr5 := e5 _ _ htr'
        have hle : f.p ≤ f.b.len := inv.1.1.2.2
        refine q_when (b := decide (tl.length = n) && asksF (f :: fs)) (et_is (et_and (a := decide (tl.length = n)) (b := asksF (f :: fs)) (et_is (et_test (ev_op (ev_len (ev_var rfl) (sq_of htr5)) (ev_var rfl) (rv_eq rfl))) ?_) fun _ => et_B (ev_callV (H, pl, f :: fs) (ea_cons (ev_var rfl) ea_nil) (fun H6 e6 => ⟨rfl, e5'.trans e6, hP5.ex e6, List.cons_ne_nil _ _, fun f' fs' z => by cases z; exact hle⟩))) rfl) (fun hb3 H6 e6 => ?_) fun hb3 H6 e6 => ?_
        · rw [nv_len]
          exact decide_eq_decide.mpr ⟨fun z => by have := V.int.inj z; omega, fun z => by rw [z]⟩
        · have hh : haltF n (f :: fs, bx, tl) = true := by
            show (false || (decide (tl.length = n) && asksF (f :: fs))) = true
            rw [hb3]
            rfl
          have hn2 : tl.length = n := by
            rw [Bool.and_eq_true] at hb3
            exact of_decide_eq_true hb3.1
          refine s_retL (el_lst (vs := [.ref l, .int (n : Nat), .bl false, .ref tr]) (ea_cons (ev_var rfl) (ea_cons (ev_var rfl) (ea_cons ev_c (ea_cons (ev_var rfl) ea_nil)))) (by show 4 ≤ 100000; decide)) fun tt H10 htt e10 h10 => ?_
          refine q _ H10 ((e5'.trans e6).trans e10) ⟨tt, l, tr, (f :: fs, bx, tl), rfl, hl, t0', hend _ (EndsF.done hh), e10 _ _ (e6 _ _ hl5), e10 _ _ (e6 _ _ htr5), ?_⟩
          rw [h10]
          show _ = some (HO.lst [.ref l, .int ((tl.length : Nat) : Int), .bl false, .ref tr])
          rw [hn2]
        · have hh : haltF n (f :: fs, bx, tl) = false := by
            show (false || (decide (tl.length = n) && asksF (f :: fs))) = false
            rw [hb3]
            rfl
          refine s_lstep (F := H) (rs := rs) (bx := bx) (tl := tl) (n := n) (ev_var rfl) (ev_var rfl) (ev_var rfl) (ev_var rfl) (e5'.trans e6) hR ho hl t0' ptr ltr lp (e6 _ _ hl5) (e6 _ _ htr5) (hP5.ex e6) inv (show b.size + 1 ≤ 60000 by have h1 : b.size ≤ 50000 := hsz; omega) (show n ≤ 60000 by have h1 : n ≤ 50000 := hn; omega) fun H7 g1 g2 g3 g4 => ?_
          exact ⟨_, (step_ok inv hh).2, stepF rs (f :: fs, bx, tl), rfl, (step_ok inv hh).1, g1, g2, g3, g4, fun s1 h => hend s1 (h.step hh), rfl⟩
      · cases fs0 with
        | cons f fs => cases hb
        | nil =>
        have hl5 := e5 _ _ hl'
        have htr5 := e5 _ _ htr'
        refine s_retL (el_lst (vs := [.ref l, .int (tl.length : Nat), .bl true, .ref tr]) (ea_cons (ev_var rfl) (ea_cons (ev_is (ev_len (ev_var rfl) (sq_of htr5)) (by rw [nv_len])) (ea_cons ev_c (ea_cons (ev_var rfl) ea_nil)))) (by show 4 ≤ 100000; decide)) fun tt H10 htt e10 h10 => ?_
        exact q _ H10 ((e.trans e5).trans e10) ⟨tt, l, tr, ([], bx, tl), rfl, hl, t0', hend _ (EndsF.done rfl), e10 _ _ hl5, e10 _ _ htr5, h10⟩

abbrev s_law : Stmt := topS 28
theorem sc_law : FnScope ["_law_script", "_law_boxes", "_law_places", "_law_rows", "_law_body", "_law_most", "_law_handed", "_law_found", "_law_k"] ["_law_script"] (defScope s_law) := ⟨rfl, rfl, rfl, by decide +kernel, rfl, by decide +kernel, by decide +kernel⟩
theorem c_law (T : Txt mg) {f : Addr} {fd : FuncData} (F : Fun K "law" "law" s_law f fd) (c__law_body_by : Cal P w K mg base CX0 2 "_law_body_by" ["_law_cells"] (spBody K)) (c_walk : Cal P w K mg base CX0 4 "walk" ["rows", "body", "boxes", "most"] (spWalk K)) (c__law_ints : Cal P w K mg base CX0 1 "_law_ints" ["_law_found", "_law_due"] (spInts K)) (c__law_number_by : Cal P w K mg base CX0 1 "_law_number_by" ["_law_cell"] spNum) (c__law_cell_at : Cal P w K mg base CX0 1 "_law_cell_at" ["_law_script", "_law_k"] (spCellU K)) (c__law_ended : Cal P w K mg base CX0 2 "_law_ended" ["_law_found", "_law_due"] (spEnded K)) (c_told : Cal P w K mg base CX0 121 "told" ["body"] (spTold K 119)) (c__law_rows_in : Cal P w K mg base CX0 121 "_law_rows_in" ["_law_body"] (spTold K 119)) (c__law_walk : Cal P w K mg base CX0 3 "_law_walk" ["_law_rows", "_law_body", "_law_boxes", "_law_most"] (spLWalk K)) : FnOk P w K mg base CX0 122 f fd ["_law_script"] (spLaw K) := by
  refine F.ok (k := 121) sc_law (fun vs H Q E h => ?_) (fun cdv A outer s H vs Q E hr h => ?_)
  · obtain ⟨a, ns, rfl, _⟩ := h
    rfl
  · obtain ⟨a, ns, rfl, hS, hl, hb, q⟩ := h
    walk_at "ds"
    refine ⟨_, (pss_cons (ps_setLc (i := 1) (own := [("_law_k", 8)]) rfl sc_law.nd rfl rfl (sw_true rfl rfl rfl (by decide +kernel)) (pi_range1 (by rfl) T.n_range (pa_cons pe_int pa_nil)) (blkOk_by (own := [("_law_k", 8)]) (N := ["_law_script", "_law_boxes", "_law_places", "_law_rows", "_law_body", "_law_most", "_law_handed", "_law_found", "_law_k"]) (sc := defScope s_law) (by decide +kernel)) (fun _ _ _ _ _ => (pg_name (i := 8) sc_law.nd rfl (by first | exact Or.inl rfl | exact Or.inr rfl))) (fun _ _ _ _ _ => pts_nil) (fun _ _ _ _ _ => (pe_cal c__law_number_by (hr.mono (by decide)) (by rfl) pass0 (pa_cons (pe_cal c__law_cell_at (hr.mono (by decide)) (by rfl) pass0 (pa_cons (pv 0) (pa_cons (pe_op op_add pe_int (pv 8)) pa_nil))) pa_nil))))
    (pss_cons (ps_set (i := 2) sc_law.nd rfl (by first | exact Or.inl rfl | exact Or.inr rfl) (pe_lst (pa_cons (pe_op op_modN (pe_op op_fdivN (pe_cal c__law_cell_at (hr.mono (by decide)) (by rfl) pass0 (pa_cons (pv 0) (pa_cons pe_int pa_nil))) pe_int) pe_int) (pa_cons (pe_op op_modN (pe_cal c__law_cell_at (hr.mono (by decide)) (by rfl) pass0 (pa_cons (pv 0) (pa_cons pe_int pa_nil))) pe_int) pa_nil))))
    (pss_cons (ps_set (i := 3) sc_law.nd rfl (by first | exact Or.inl rfl | exact Or.inr rfl) (pe_lst (pa_cons (pe_tup (pa_cons pe_str (pa_cons (pe_ix (k_ix_list (K := K) rfl) (pv 2) pe_int (fun _ _ => rfl)) (pa_cons (pe_cal c__law_number_by (hr.mono (by decide)) (by rfl) pass0 (pa_cons (pe_cal c__law_cell_at (hr.mono (by decide)) (by rfl) pass0 (pa_cons (pv 0) (pa_cons pe_int pa_nil))) pa_nil)) (pa_cons pe_int pa_nil))))) (pa_cons (pe_tup (pa_cons pe_str (pa_cons (pe_ix (k_ix_list (K := K) rfl) (pv 2) pe_int (fun _ _ => rfl)) (pa_cons (pe_un un_neg pe_int) (pa_cons pe_int pa_nil))))) pa_nil))))
    (pss_cons (ps_set (i := 3) sc_law.nd rfl (by first | exact Or.inl rfl | exact Or.inr rfl) (pe_op op_cat (pv 3) (pe_lst (pa_cons (pe_tup (pa_cons pe_str (pa_cons (pe_ix (k_ix_list (K := K) rfl) (pv 2) pe_int (fun _ _ => rfl)) (pa_cons pe_int (pa_cons pe_int pa_nil))))) (pa_cons (pe_tup (pa_cons pe_str (pa_cons (pe_ix (k_ix_list (K := K) rfl) (pv 2) pe_int (fun _ _ => rfl)) (pa_cons pe_int (pa_cons pe_int pa_nil))))) pa_nil)))))
    (pss_cons (ps_set (i := 4) sc_law.nd rfl (by first | exact Or.inl rfl | exact Or.inr rfl) (pe_cal c__law_body_by (hr.mono (by decide)) (by rfl) pass0 (pa_cons (pe_slice (k_sl_list (K := K) rfl) (pv 0) (po_some pe_int) (po_some pe_int)) pa_nil)))
    (pss_cons (ps_set (i := 5) sc_law.nd rfl (by first | exact Or.inl rfl | exact Or.inr rfl) (pe_op op_modN (pe_cal c__law_cell_at (hr.mono (by decide)) (by rfl) pass0 (pa_cons (pv 0) (pa_cons pe_int pa_nil))) pe_int))
    (pss_cons (ps_set (i := 6) sc_law.nd rfl (by first | exact Or.inl rfl | exact Or.inr rfl) (pe_lst (pa_cons (pe_callTy (k_list_of (K := K) rfl) (by rfl) T.n_list (by decide +kernel) (pa_cons (pv 3) pa_nil)) (pa_cons (pe_callTy (k_list_of (K := K) rfl) (by rfl) T.n_list (by decide +kernel) (pa_cons (pv 1) pa_nil)) pa_nil))))
    (pss_cons (ps_set (i := 7) sc_law.nd rfl (by first | exact Or.inl rfl | exact Or.inr rfl) (pe_cal c_walk (hr.mono (by decide)) (by rfl) pass0 (pa_cons (pe_ix (k_ix_list (K := K) rfl) (pv 6) pe_int (fun _ _ => rfl)) (pa_cons (pv 4) (pa_cons (pe_ix (k_ix_list (K := K) rfl) (pv 6) pe_int (fun _ _ => rfl)) (pa_cons (pv 5) pa_nil))))))
    (pss_cons (ps_if (pt_not (pt_val (pe_cal c__law_ended (hr.mono (by decide)) (by rfl) pass0 (pa_cons (pv 7) (pa_cons (pe_cal c__law_walk (hr.mono (by decide)) (by rfl) pass0 (pa_cons (pv 3) (pa_cons (pv 4) (pa_cons (pv 1) (pa_cons (pv 5) pa_nil))))) pa_nil))))) (pss_one (ps_ret pe_bl)) pss_nil)
    (pss_cons (ps_expr (pe_bm PySem.F.plainAttrs_list PySem.F.slot_list_append PySem.F.type_list_append mt_append (pe_ix (k_ix_tup (K := K) rfl) (pv 7) pe_int (fun _ _ => rfl)) (pa_cons pe_int pa_nil)))
    (pss_cons (ps_if (PW.pt (pw_or (pt_cmpR (k_neD (K := K) rfl hr.units) (pe_ix (k_ix_list (K := K) rfl) (pv 6) pe_int (fun _ _ => rfl)) (pv 3) (nomark _)) (pw_or1 (pt_cmpR (k_neD (K := K) rfl hr.units) (pe_ix (k_ix_list (K := K) rfl) (pv 6) pe_int (fun _ _ => rfl)) (pv 1) (nomark _))))) (pss_one (ps_ret pe_bl)) pss_nil)
    (pss_one (ps_ret (pe_cal c__law_ints (hr.mono (by decide)) (by rfl) pass0 (pa_cons (pe_cal c_told (hr.mono (by decide)) (by rfl) pass0 (pa_cons (pv 4) pa_nil)) (pa_cons (pe_cal c__law_rows_in (hr.mono (by decide)) (by rfl) pass0 (pa_cons (pv 4) pa_nil)) pa_nil)))))))))))))))), ?_⟩
    have hbits : Bits ns := hb
    have evcell : ∀ (σ : L2.St) (H' : Hp) (tk : TE) (k : Nat), Ex H H' → σ[0]? = some (some (.ref a)) → Ev tk σ H' (.int (k : Int)) → Ev (tCall (spCellU K) [] E0 (tCons (tVar 0) (tCons tk tNil))) σ H' (.int (cellAt ns k)) := fun σ H' tk k e hσ hk =>
      ev_callV (a, ns, k) (ea_cons (ev_var hσ) (ea_cons hk ea_nil)) (fun H1 e1 => ⟨rfl, ex_l (e.trans e1) hS⟩)
    have evnum : ∀ (σ : L2.St) (H' : Hp) (tk : TE) (k : Nat), Ex H H' → σ[0]? = some (some (.ref a)) → Ev tk σ H' (.int (k : Int)) → Ev (tCall spNum [] E0 (tCons (tCall (spCellU K) [] E0 (tCons (tVar 0) (tCons tk tNil))) tNil)) σ H' (.int (numBy (cellAt ns k))) := fun σ H' tk k e hσ hk =>
      ev_callV (cellAt ns k) (ea_cons (evcell σ H' tk k e hσ hk) ea_nil) (fun _ _ => ⟨rfl, bits_cell hb _⟩)
    refine q_asgL (el_lcR1 (n := 4) (fun _ => true) (fun i => .int (numBy (cellAt ns (3 + i)))) (ea_cons ev_c ea_nil) (by decide) (fun x => rfl) (fun i H1 e1 hi => et_yes) fun i H1 e1 hi _ => evnum _ _ _ (3 + i) e1 rfl (ev_is (v := .int (3 + (i : Int))) (ev_op ev_c (ev_var rfl) rv_I0) (by simp))) fun ba H1 _ e1 h1 => ?_
    have hB1 : SqL K H1 ba ((boxesBy ns).map V.int) := SqL.of h1
    have bl4 : (boxesBy ns).length = 4 := by
      unfold boxesBy
      rw [List.length_map, List.length_range]
    have p00 : 0 ≤ cellAt ns 1 / 4 % 4 := Int.emod_nonneg _ (by decide)
    have p01 : cellAt ns 1 / 4 % 4 < 4 := Int.emod_lt_of_pos _ (by decide)
    have p10 : 0 ≤ cellAt ns 1 % 4 := Int.emod_nonneg _ (by decide)
    have p11 : cellAt ns 1 % 4 < 4 := Int.emod_lt_of_pos _ (by decide)
    obtain ⟨p0, hp0⟩ : ∃ p : Nat, (p : Int) = cellAt ns 1 / 4 % 4 := ⟨(cellAt ns 1 / 4 % 4).toNat, Int.toNat_of_nonneg p00⟩
    obtain ⟨p1, hp1⟩ : ∃ p : Nat, (p : Int) = cellAt ns 1 % 4 := ⟨(cellAt ns 1 % 4).toNat, Int.toNat_of_nonneg p10⟩
    refine q_asgL (el_lst (vs := [.int (p0 : Int), .int (p1 : Int)]) (ea_cons (ev_is (v := .int (cellAt ns 1 / 4 % 4)) (ev_op (ev_op (evcell _ _ _ 1 e1 rfl ev_c) ev_c (rv_fdivN (by decide) (by decide))) ev_c (rv_modN (by decide))) (by rw [hp0])) (ea_cons (ev_is (v := .int (cellAt ns 1 % 4)) (ev_op (evcell _ _ _ 1 e1 rfl ev_c) ev_c (rv_modN (by decide))) (by rw [hp1])) ea_nil)) (by show 2 ≤ 100000; decide)) fun pa H2 _ e2 h2 => ?_
    have e02 := e1.trans e2
    have evp0 : ∀ (σ : L2.St) (H' : Hp), Ex H2 H' → σ[2]? = some (some (.ref pa)) → Ev (tOp (rIxL K) (tVar 2) (tC (.int 0))) σ H' (.int (p0 : Int)) := fun σ H' e hσ => ev_op (ev_var hσ) ev_c (rv_ixL (sq_of (e _ _ h2)) rfl)
    have evp1 : ∀ (σ : L2.St) (H' : Hp), Ex H2 H' → σ[2]? = some (some (.ref pa)) → Ev (tOp (rIxL K) (tVar 2) (tC (.int 1))) σ H' (.int (p1 : Int)) := fun σ H' e hσ => ev_op (ev_var hσ) ev_c (rv_ixL (sq_of (e _ _ h2)) rfl)
    have two : ∀ (σ : L2.St) (H' : Hp) (ta tb : TE) (xs ys : List V), EvU ta σ H' xs → EvU tb σ H' ys → EvR (tLst (tCons ta (tCons tb tNil))) σ H' (fun _ v H2 => ∃ a t u, v = .ref a ∧ H2 a = some (.lst [.ref t, .ref u]) ∧ H2 t = some (.tup xs) ∧ H2 u = some (.tup ys)) := fun σ H' ta tb xs ys h1 h2 =>
      (er_lst (R := fun vs H2 => ∃ t u, vs = [.ref t, .ref u] ∧ H2 t = some (.tup xs) ∧ H2 u = some (.tup ys)) (ear_cons h1.toR fun H1 x H2 e1 e2 ⟨t, ex, _, ht⟩ => ear_cons (R1 := fun H1 x H2 => ∃ p, x = .ref p ∧ H1 p = none ∧ H2 p = some (.tup ys)) (EvR.mono (e1.trans e2) h2.toR) fun H3 y H4 e3 e4 ⟨u, ey, _, hu⟩ => fun H5 e5 Q k => k [] H5 (Ex.refl H5) ⟨t, u, by rw [ex, ey], e5 _ _ (e4 _ _ (e3 _ _ ht)), e5 _ _ hu⟩) (fun vs H1 ⟨t, u, ew, _⟩ => by rw [ew]; show 2 ≤ 100000; decide)).imp
        fun H1 v H2 _ _ ⟨p, vs, Hx, h1, _, _, ⟨t, u, ew, ht, hu⟩, _, e2, h2⟩ => ⟨p, t, u, h1, by rw [h2, ew], e2 _ _ ht, e2 _ _ hu⟩
    refine q_asgR (two _ _ _ _ [.str ("add" : Str), .int (p0 : Int), .int (numBy (cellAt ns 2)), .int 1] [.str ("add" : Str), .int (p1 : Int), .int (-1), .int 2]
      (eu_tup (ea_cons ev_c (ea_cons (evp0 _ _ (Ex.refl _) rfl) (ea_cons (evnum _ _ _ 2 e02 rfl ev_c) (ea_cons ev_c ea_nil)))) (by show 4 ≤ 100000; decide))
      (eu_tup (ea_cons ev_c (ea_cons (evp1 _ _ (Ex.refl _) rfl) (ea_cons (ev_un ev_c ru_neg) (ea_cons ev_c ea_nil)))) (by show 4 ≤ 100000; decide))) fun v3 H3 e3 r3 => ?_
    obtain ⟨ra0, t0, t1, rfl, hra0, ht0, ht1⟩ := r3
    refine q_asgR (R := fun _ v H4 => ∃ ra t2 t3, v = .ref ra ∧ H4 ra = some (.lst [.ref t0, .ref t1, .ref t2, .ref t3]) ∧ H4 t2 = some (.tup [.str ("more" : Str), .int (p0 : Int), .int 3, .int 4]) ∧ H4 t3 = some (.tup [.str ("more" : Str), .int (p1 : Int), .int 0, .int 4]))
      (evr_op (ev_var (v := .ref ra0) rfl).toR (fun x H4 H5 e4 e5 _ => two _ _ _ _ [.str ("more" : Str), .int (p0 : Int), .int 3, .int 4] [.str ("more" : Str), .int (p1 : Int), .int 0, .int 4]
        (eu_tup (ea_cons ev_c (ea_cons (evp0 _ _ (e3.trans (e4.trans e5)) rfl) (ea_cons ev_c (ea_cons ev_c ea_nil)))) (by show 4 ≤ 100000; decide))
        (eu_tup (ea_cons ev_c (ea_cons (evp1 _ _ (e3.trans (e4.trans e5)) rfl) (ea_cons ev_c (ea_cons ev_c ea_nil)))) (by show 4 ≤ 100000; decide)))
        fun x y H4 H5 H6 e4 e5 hx e6 ⟨rb, t2, t3, ey, hrb, ht2, ht3⟩ Q k => ?_) fun v4 H4 e4 r4 => ?_
    · subst hx
      subst ey
      exact ⟨ra0, rb, _, _, rfl, rfl, e6 _ _ (e5 _ _ (e4 _ _ hra0)), hrb, sz_of (by show 2 + 2 ≤ 100000; decide), fun p hp => k _ _ (Ex.new hp) ⟨p, t2, t3, rfl, upd_same, (Ex.new hp) _ _ ht2, (Ex.new hp) _ _ ht3⟩⟩
    obtain ⟨ra, t2, t3, rfl, hra, ht2, ht3⟩ := r4
    have e04 := (e02.trans e3).trans e4
    have hR4 : RowsAt K H4 ra (rows8 p0 p1 (numBy (cellAt ns 2))) := rowsAt8 (SqL.of hra) (SqT.of (e4 _ _ ht0)) (SqT.of (e4 _ _ ht1)) (SqT.of ht2) (SqT.of ht3)
    have ho : RowsOk (rows8 p0 p1 (numBy (cellAt ns 2))) := rows8_ok (by omega) (by omega)
    have iadd : ∀ r, A2 r → IsAdd (rows8 p0 p1 (numBy (cellAt ns 2))) r := fun r h => rows8_add h
    have imore : ∀ r, M2 r → IsMore (rows8 p0 p1 (numBy (cellAt ns 2))) r := fun r h => rows8_more h
    generalize rows8 p0 p1 (numBy (cellAt ns 2)) = rs at hR4 ho iadd imore
    obtain ⟨cs, hcl, hcut⟩ := cut_ints ns
    refine q_asgR (R := Made K 0 230) (fun H5 e5 Q k => el_sl (K := K) (lo := some 8) (hi := some 30) (ev_var rfl) (eo_some ev_c) (eo_some ev_c) (ex_l e04 hS) H5 e5 _ fun p H6 hp e6 h6 => ⟨(p, cs), ⟨rfl, SqL.of (by rw [h6, hcut]), hcl⟩, fun v H7 e7 r => k v H7 (e6.trans e7) r⟩) fun v5 H5 e5 r5 => ?_
    obtain ⟨b, hbok, hbsz, bo, rfl, hbo⟩ := r5
    have hok : b.ok (IsAdd rs) (IsMore rs) 0 true := Bd.ok_mono (Bd.ok_imp iadd imore hbok)
    have e05 := e04.trans e5
    have m0 : 0 ≤ cellAt ns 7 % 61 := Int.emod_nonneg _ (by decide)
    have m1 : cellAt ns 7 % 61 < 61 := Int.emod_lt_of_pos _ (by decide)
    obtain ⟨n, mN⟩ : ∃ n : Nat, (n : Int) = cellAt ns 7 % 61 := ⟨(cellAt ns 7 % 61).toNat, Int.toNat_of_nonneg m0⟩
    refine q_asg (v := .int (n : Int)) (ev_is (v := .int (cellAt ns 7 % 61)) (ev_op (evcell _ _ _ 7 e05 rfl ev_c) ev_c (rv_modN (by decide))) (by rw [mN])) fun H6 e6 => ?_
    have hR6 := hR4.mono (e5.trans e6)
    have hB6 : SqL K H6 ba ((boxesBy ns).map V.int) := ex_l ((((e2.trans e3).trans e4).trans e5).trans e6) hB1
    have hbo6 := hbo.ex e6
    obtain ⟨vs, hvs, hvl, hvr⟩ := id hR6
    -- handed
    refine q_asgR (er_lst (R := fun ws H' => ∃ ra2 ba2, ws = [.ref ra2, .ref ba2] ∧ RowsAt K H' ra2 rs ∧ SqL K H' ba2 ((boxesBy ns).map V.int)) (ear_cons (el_listS (ev_var rfl) hvs).toR fun H4 x H5 e4 e5 hx => ?_) (fun ws H' ⟨ra2, ba2, ew, _⟩ => by rw [ew]; show 2 ≤ 100000; decide)) fun v7 H7 e7 r7 => ?_
    · obtain ⟨ra2, rfl, _, h5⟩ := hx
      have hB5 := ex_l (e4.trans e5) hB6
      refine ear_cons (el_listS (ev_var rfl) hB5).toR fun H6 x H7 e6 e7 hx => ?_
      obtain ⟨ba2, rfl, _, h7⟩ := hx
      intro H8 e8 Q k
      refine k [] H8 (Ex.refl H8) ⟨ra2, ba2, rfl, ⟨vs, SqL.of (e8 _ _ ((e6.trans e7) _ _ h5)), hvl, fun k v r h1 h2 => (hvr k v r h1 h2).mono ((((e4.trans e5).trans e6).trans e7).trans e8)⟩, SqL.of (e8 _ _ h7)⟩
    obtain ⟨ha, ws, Hx, rfl, ha0, ex1, ⟨ra2, ba2, rfl, hRx, hBx⟩, _, ex2, hH⟩ := r7
    have hR2' := hRx.mono ex2
    have hB2' := ex_l ex2 hBx
    have hR7 := hR6.mono e7
    have hB7 := ex_l e7 hB6
    have hbo7 := hbo6.ex e7
    -- found
    refine q_asgR (ev_callA (ra2, bo, ba2, rs, b, boxesBy ns, n) (ea_cons (ev_op (ev_var rfl) ev_c (rv_ixL (sq_of hH) rfl)) (ea_cons (ev_var rfl) (ea_cons (ev_op (ev_var rfl) ev_c (rv_ixL (sq_of hH) rfl)) (ea_cons (ev_var rfl) ea_nil)))) (fun H5 e5 => ⟨rfl, hR2'.mono e5, ho, hbo7.ex e5, hok, (show b.size ≤ 50000 by omega), ex_l e5 hB2', bl4, (show n ≤ 50000 by omega)⟩) (fun H1 H2 H3 v e ⟨t, l, s, h1, h2, h3⟩ => ⟨t, l, s, h1, fresh_back e h2, h3⟩)) fun v8 H8 e8 r8 => ?_
    obtain ⟨ft, fl, G, rfl, fl0, hEnd, hfl, hft⟩ := r8
    have hEnd : EndsF rs n (st0 b (boxesBy ns)) G := hEnd
    have hR8 := hR7.mono e8
    have hB8 := ex_l e8 hB7
    have hbo8 := hbo7.ex e8
    have hGl : G.2.1.length ≤ 40000 := by
      have := (ends_inv (inv0 hok bl4) hEnd).2.2.2
      omega
    have eLR : ∀ (σ : L2.St) (H' : Hp) (t1 t2 t3 t4 : TE), Ex H8 H' → Ev t1 σ H' (.ref ra) → Ev t2 σ H' (.ref bo) → Ev t3 σ H' (.ref ba) → Ev t4 σ H' (.int (n : Int)) → EvR (tCall (spLWalk K) [] E0 (tCons t1 (tCons t2 (tCons t3 (tCons t4 tNil))))) σ H' (fun _ y H9 => ∃ t l m, y = .ref t ∧ H9 l = some (.lst (G.2.1.map V.int)) ∧ H9 t = some (.lst [.ref l, .int (G.2.2.length : Nat), .bl G.1.isEmpty, .ref m])) := fun σ H' t1 t2 t3 t4 e h1 h2 h3 h4 =>
      (ev_callA (ra, bo, ba, rs, b, boxesBy ns, n) (ea_cons h1 (ea_cons h2 (ea_cons h3 (ea_cons h4 ea_nil)))) (fun H9 e9 => ⟨rfl, hR8.mono (e.trans e9), ho, hbo8.ex (e.trans e9), hok, (show b.size ≤ 50000 by omega), ex_l (e.trans e9) hB8, bl4, (show n ≤ 50000 by omega)⟩)
        (fun H1 H2 H3 v e ⟨t, l, m, s, h1, h2, h3, h4⟩ => ⟨t, l, m, s, h1, fresh_back e h2, fresh_back e h3, h4⟩)).imp
        fun H7 y H9 _ _ ⟨t, l, m, s, h1, h2, h3, h4, h5, h6, h7⟩ => by
          have hs := EndsF.uniq hEnd h4
          subst hs
          exact ⟨t, l, m, h1, h5, h7⟩
    have eEnd : ∀ (σ : L2.St) (t1 t2 t3 t4 t5 : TE), Ev t5 σ H8 (.ref ft) → Ev t1 σ H8 (.ref ra) → Ev t2 σ H8 (.ref bo) → Ev t3 σ H8 (.ref ba) → Ev t4 σ H8 (.int (n : Int)) → Ev (tCall (spEnded K) [] E0 (tCons t5 (tCons (tCall (spLWalk K) [] E0 (tCons t1 (tCons t2 (tCons t3 (tCons t4 tNil))))) tNil))) σ H8 (.bl true) := by
      intro σ t1 t2 t3 t4 t5 h5 h1 h2 h3 h4 H9 e9 Q k
      refine h5 H9 e9 _ fun H10 e10 => ?_
      refine eLR σ H10 t1 t2 t3 t4 (e9.trans e10) (h1.mono (e9.trans e10)) (h2.mono (e9.trans e10)) (h3.mono (e9.trans e10)) (h4.mono (e9.trans e10)) H10 (Ex.refl H10) _ fun y H11 e11 hy => ?_
      obtain ⟨t, l, m, rfl, hl8, ht8⟩ := hy
      have e58 := (e9.trans e10).trans e11
      refine ⟨((ft, fl, G.2.1, (G.2.2.length : Nat), G.1.isEmpty), (t, l, G.2.1, (G.2.2.length : Nat), G.1.isEmpty, [.ref m])), ⟨rfl, e58 _ _ hft, e58 _ _ hfl, SqL.of ht8, SqL.of hl8, hGl⟩, fun v H12 e12 hv => ?_⟩
      subst hv
      have z : (decide (G.2.1 = G.2.1) && (decide ((G.2.2.length : Int) = (G.2.2.length : Int)) && decide (G.1.isEmpty = G.1.isEmpty))) = true := by
        rw [decide_eq_true rfl, decide_eq_true rfl, decide_eq_true rfl]
        rfl
      show Q (.bl (decide (G.2.1 = G.2.1) && (decide ((G.2.2.length : Int) = (G.2.2.length : Int)) && decide (G.1.isEmpty = G.1.isEmpty)))) H12
      rw [z]
      exact k H12 ((e10.trans e11).trans e12)
    refine q_when (b := false) (et_is (et_not (et_B (b := true) (eEnd _ _ _ _ _ _ (ev_var rfl) (ev_var rfl) (ev_var rfl) (ev_var rfl) (ev_var rfl)))) rfl) (fun hb => by cases hb) fun _ H9 e9 => ?_
    have hft9 : SqT K H9 ft [.ref fl, .int (G.2.2.length : Nat), .bl G.1.isEmpty] := SqT.of (e9 _ _ hft)
    refine q_app (l := fl) (xs := G.2.1.map V.int) (v := .int 1) (e9 _ _ hfl) (ev_op (ev_var rfl) ev_c (rv_ixT hft9 rfl)) ev_c (by rw [List.length_map]; omega) fun H10 e10 => ?_
    have e7A : Ex H7 (upd H10 fl (.lst (G.2.1.map V.int ++ [.int 1]))) := Ex.mut ((e8.trans e9).trans e10) fl0
    have hRA := hR7.mono e7A
    have hHA := e7A _ _ hH
    have hRa7 := hR2'.mono e7A
    have hBA := ex_l e7A hB7
    have hBa7 := ex_l e7A hB2'
    have hboA := hbo7.ex e7A
    generalize upd H10 fl (.lst (G.2.1.map V.int ++ [.int 1])) = HA at e7A hRA hHA hRa7 hBA hBa7 hboA ⊢
    refine q_when (b := false) (et_is (et_or (et_test (ev_neRows (ev_op (ev_var rfl) ev_c (rv_ixL (sq_of hHA) rfl)) (ev_var rfl) hRa7 hRA)) fun _ => et_test (ev_neInts (ev_op (ev_var rfl) ev_c (rv_ixL (sq_of hHA) rfl)) (ev_var rfl) hBa7 hBA)) rfl) (fun hb => by cases hb) fun _ HB eB => ?_
    have hboB := hboA.ex eB
    have hnest : b.nest ≤ 119 := by
      have := nest_size b
      omega
    have htl := Bd.told_le b
    have tn : ∀ (σ : L2.St) (t1 : TE), Ev t1 σ HB (.ref bo) → EvL (tCall (spTold K 119) [] E0 (tCons t1 tNil)) σ HB (nv b.told) := fun σ t1 h => el_told h hboB hnest (by omega)
    refine s_ret (v := .bl true) ?_ fun HC _ => q HC
    intro H1 e1 Q k
    refine tn _ (tVar 4) (ev_var rfl) H1 e1 _ fun p1 H2 _ e2 h2 => ?_
    refine tn _ (tVar 4) (ev_var rfl) H2 (e1.trans e2) _ fun p2 H3 _ e3 h3 => ?_
    have hz : nv b.told = (b.told.map (fun k : Nat => (k : Int))).map V.int := by
      unfold nv
      rw [List.map_map]
      rfl
    refine ⟨(p1, p2, b.told.map (fun k : Nat => (k : Int)), b.told.map (fun k : Nat => (k : Int))), ⟨rfl, by rw [← hz]; exact e3 _ _ h2, by rw [← hz]; exact SqL.of h3, by rw [List.length_map]; omega⟩, fun v H4 e4 hv => ?_⟩
    subst hv
    have z : (decide (b.told.map (fun k : Nat => (k : Int)) = b.told.map (fun k : Nat => (k : Int)))) = true := decide_eq_true rfl
    show Q (.bl (decide (b.told.map (fun k : Nat => (k : Int)) = b.told.map (fun k : Nat => (k : Int))))) H4
    rw [z]
    exact k H4 ((e2.trans e3).trans e4)

end
theorem all_mk {l : PySem.W.OpenLaw} {w : World} {K : PySem.W.Frag} {h : Heap} {mg : Str → Option Value} {fa : Addr} (X : K.In h) (G : h.Ns mainGlobals mg) (hfa : mg "law" = some (.ref fa))
    {f__law_closed : Addr} {od__law_closed an__law_closed : Option Addr} {sl__law_closed : Array (Option Value)} {oc__law_closed kV__law_closed dc__law_closed pm__law_closed cd__law_closed ct__law_closed : Value}
    (a__law_closed : PySem.W.nsIn K mainGlobals "_law_closed" = some (some (.ref f__law_closed)))
    (l__law_closed : K.lookup f__law_closed = some ⟨oc__law_closed, od__law_closed, .func (PySem.W.fnOf "_law_closed" "_law_closed" (defArgs s__law_closed) (defBody s__law_closed) (defScope s__law_closed) .none kV__law_closed dc__law_closed pm__law_closed an__law_closed cd__law_closed ct__law_closed), sl__law_closed⟩)
    (e__law_closed : PySem.W.codeIn K cd__law_closed "_law_closed" = true) (p__law_closed : PySem.W.keepIn K (.ref f__law_closed) = true)
    {f__law_bare : Addr} {od__law_bare an__law_bare : Option Addr} {sl__law_bare : Array (Option Value)} {oc__law_bare kV__law_bare dc__law_bare pm__law_bare cd__law_bare ct__law_bare : Value}
    (a__law_bare : PySem.W.nsIn K mainGlobals "_law_bare" = some (some (.ref f__law_bare)))
    (l__law_bare : K.lookup f__law_bare = some ⟨oc__law_bare, od__law_bare, .func (PySem.W.fnOf "_law_bare" "_law_bare" (defArgs s__law_bare) (defBody s__law_bare) (defScope s__law_bare) .none kV__law_bare dc__law_bare pm__law_bare an__law_bare cd__law_bare ct__law_bare), sl__law_bare⟩)
    (e__law_bare : PySem.W.codeIn K cd__law_bare "_law_bare" = true) (p__law_bare : PySem.W.keepIn K (.ref f__law_bare) = true)
    {f__law_side : Addr} {od__law_side an__law_side : Option Addr} {sl__law_side : Array (Option Value)} {oc__law_side kV__law_side dc__law_side pm__law_side cd__law_side ct__law_side : Value}
    (a__law_side : PySem.W.nsIn K mainGlobals "_law_side" = some (some (.ref f__law_side)))
    (l__law_side : K.lookup f__law_side = some ⟨oc__law_side, od__law_side, .func (PySem.W.fnOf "_law_side" "_law_side" (defArgs s__law_side) (defBody s__law_side) (defScope s__law_side) .none kV__law_side dc__law_side pm__law_side an__law_side cd__law_side ct__law_side), sl__law_side⟩)
    (e__law_side : PySem.W.codeIn K cd__law_side "_law_side" = true) (p__law_side : PySem.W.keepIn K (.ref f__law_side) = true)
    {f__law_body_by : Addr} {od__law_body_by an__law_body_by : Option Addr} {sl__law_body_by : Array (Option Value)} {oc__law_body_by kV__law_body_by dc__law_body_by pm__law_body_by cd__law_body_by ct__law_body_by : Value}
    (a__law_body_by : PySem.W.nsIn K mainGlobals "_law_body_by" = some (some (.ref f__law_body_by)))
    (l__law_body_by : K.lookup f__law_body_by = some ⟨oc__law_body_by, od__law_body_by, .func (PySem.W.fnOf "_law_body_by" "_law_body_by" (defArgs s__law_body_by) (defBody s__law_body_by) (defScope s__law_body_by) .none kV__law_body_by dc__law_body_by pm__law_body_by an__law_body_by cd__law_body_by ct__law_body_by), sl__law_body_by⟩)
    (e__law_body_by : PySem.W.codeIn K cd__law_body_by "_law_body_by" = true) (p__law_body_by : PySem.W.keepIn K (.ref f__law_body_by) = true)
    {f_is_whole : Addr} {od_is_whole an_is_whole : Option Addr} {sl_is_whole : Array (Option Value)} {oc_is_whole kV_is_whole dc_is_whole pm_is_whole cd_is_whole ct_is_whole : Value}
    (a_is_whole : PySem.W.nsIn K mainGlobals "is_whole" = some (some (.ref f_is_whole)))
    (l_is_whole : K.lookup f_is_whole = some ⟨oc_is_whole, od_is_whole, .func (PySem.W.fnOf "is_whole" "is_whole" (defArgs s_is_whole) (defBody s_is_whole) (defScope s_is_whole) .none kV_is_whole dc_is_whole pm_is_whole an_is_whole cd_is_whole ct_is_whole), sl_is_whole⟩)
    (e_is_whole : PySem.W.codeIn K cd_is_whole "is_whole" = true) (p_is_whole : PySem.W.keepIn K (.ref f_is_whole) = true)
    {f_good_row : Addr} {od_good_row an_good_row : Option Addr} {sl_good_row : Array (Option Value)} {oc_good_row kV_good_row dc_good_row pm_good_row cd_good_row ct_good_row : Value}
    (a_good_row : PySem.W.nsIn K mainGlobals "good_row" = some (some (.ref f_good_row)))
    (l_good_row : K.lookup f_good_row = some ⟨oc_good_row, od_good_row, .func (PySem.W.fnOf "good_row" "good_row" (defArgs s_good_row) (defBody s_good_row) (defScope s_good_row) .none kV_good_row dc_good_row pm_good_row an_good_row cd_good_row ct_good_row), sl_good_row⟩)
    (e_good_row : PySem.W.codeIn K cd_good_row "good_row" = true) (p_good_row : PySem.W.keepIn K (.ref f_good_row) = true)
    {f_need_rows : Addr} {od_need_rows an_need_rows : Option Addr} {sl_need_rows : Array (Option Value)} {oc_need_rows kV_need_rows dc_need_rows pm_need_rows cd_need_rows ct_need_rows : Value}
    (a_need_rows : PySem.W.nsIn K mainGlobals "need_rows" = some (some (.ref f_need_rows)))
    (l_need_rows : K.lookup f_need_rows = some ⟨oc_need_rows, od_need_rows, .func (PySem.W.fnOf "need_rows" "need_rows" (defArgs s_need_rows) (defBody s_need_rows) (defScope s_need_rows) .none kV_need_rows dc_need_rows pm_need_rows an_need_rows cd_need_rows ct_need_rows), sl_need_rows⟩)
    (e_need_rows : PySem.W.codeIn K cd_need_rows "need_rows" = true) (p_need_rows : PySem.W.keepIn K (.ref f_need_rows) = true)
    {f_behind : Addr} {od_behind an_behind : Option Addr} {sl_behind : Array (Option Value)} {oc_behind kV_behind dc_behind pm_behind cd_behind ct_behind : Value}
    (a_behind : PySem.W.nsIn K mainGlobals "behind" = some (some (.ref f_behind)))
    (l_behind : K.lookup f_behind = some ⟨oc_behind, od_behind, .func (PySem.W.fnOf "behind" "behind" (defArgs s_behind) (defBody s_behind) (defScope s_behind) .none kV_behind dc_behind pm_behind an_behind cd_behind ct_behind), sl_behind⟩)
    (e_behind : PySem.W.codeIn K cd_behind "behind" = true) (p_behind : PySem.W.keepIn K (.ref f_behind) = true)
    {f_gone_on : Addr} {od_gone_on an_gone_on : Option Addr} {sl_gone_on : Array (Option Value)} {oc_gone_on kV_gone_on dc_gone_on pm_gone_on cd_gone_on ct_gone_on : Value}
    (a_gone_on : PySem.W.nsIn K mainGlobals "gone_on" = some (some (.ref f_gone_on)))
    (l_gone_on : K.lookup f_gone_on = some ⟨oc_gone_on, od_gone_on, .func (PySem.W.fnOf "gone_on" "gone_on" (defArgs s_gone_on) (defBody s_gone_on) (defScope s_gone_on) .none kV_gone_on dc_gone_on pm_gone_on an_gone_on cd_gone_on ct_gone_on), sl_gone_on⟩)
    (e_gone_on : PySem.W.codeIn K cd_gone_on "gone_on" = true) (p_gone_on : PySem.W.keepIn K (.ref f_gone_on) = true)
    {f_walk : Addr} {od_walk an_walk : Option Addr} {sl_walk : Array (Option Value)} {oc_walk kV_walk dc_walk pm_walk cd_walk ct_walk : Value}
    (a_walk : PySem.W.nsIn K mainGlobals "walk" = some (some (.ref f_walk)))
    (l_walk : K.lookup f_walk = some ⟨oc_walk, od_walk, .func (PySem.W.fnOf "walk" "walk" (defArgs s_walk) (defBody s_walk) (defScope s_walk) .none kV_walk dc_walk pm_walk an_walk cd_walk ct_walk), sl_walk⟩)
    (e_walk : PySem.W.codeIn K cd_walk "walk" = true) (p_walk : PySem.W.keepIn K (.ref f_walk) = true)
    {f__law_ints : Addr} {od__law_ints an__law_ints : Option Addr} {sl__law_ints : Array (Option Value)} {oc__law_ints kV__law_ints dc__law_ints pm__law_ints cd__law_ints ct__law_ints : Value}
    (a__law_ints : PySem.W.nsIn K mainGlobals "_law_ints" = some (some (.ref f__law_ints)))
    (l__law_ints : K.lookup f__law_ints = some ⟨oc__law_ints, od__law_ints, .func (PySem.W.fnOf "_law_ints" "_law_ints" (defArgs s__law_ints) (defBody s__law_ints) (defScope s__law_ints) .none kV__law_ints dc__law_ints pm__law_ints an__law_ints cd__law_ints ct__law_ints), sl__law_ints⟩)
    (e__law_ints : PySem.W.codeIn K cd__law_ints "_law_ints" = true) (p__law_ints : PySem.W.keepIn K (.ref f__law_ints) = true)
    {f__law_number_by : Addr} {od__law_number_by an__law_number_by : Option Addr} {sl__law_number_by : Array (Option Value)} {oc__law_number_by kV__law_number_by dc__law_number_by pm__law_number_by cd__law_number_by ct__law_number_by : Value}
    (a__law_number_by : PySem.W.nsIn K mainGlobals "_law_number_by" = some (some (.ref f__law_number_by)))
    (l__law_number_by : K.lookup f__law_number_by = some ⟨oc__law_number_by, od__law_number_by, .func (PySem.W.fnOf "_law_number_by" "_law_number_by" (defArgs s__law_number_by) (defBody s__law_number_by) (defScope s__law_number_by) .none kV__law_number_by dc__law_number_by pm__law_number_by an__law_number_by cd__law_number_by ct__law_number_by), sl__law_number_by⟩)
    (e__law_number_by : PySem.W.codeIn K cd__law_number_by "_law_number_by" = true) (p__law_number_by : PySem.W.keepIn K (.ref f__law_number_by) = true)
    {f__law_cell_at : Addr} {od__law_cell_at an__law_cell_at : Option Addr} {sl__law_cell_at : Array (Option Value)} {oc__law_cell_at kV__law_cell_at dc__law_cell_at pm__law_cell_at cd__law_cell_at ct__law_cell_at : Value}
    (a__law_cell_at : PySem.W.nsIn K mainGlobals "_law_cell_at" = some (some (.ref f__law_cell_at)))
    (l__law_cell_at : K.lookup f__law_cell_at = some ⟨oc__law_cell_at, od__law_cell_at, .func (PySem.W.fnOf "_law_cell_at" "_law_cell_at" (defArgs s__law_cell_at) (defBody s__law_cell_at) (defScope s__law_cell_at) .none kV__law_cell_at dc__law_cell_at pm__law_cell_at an__law_cell_at cd__law_cell_at ct__law_cell_at), sl__law_cell_at⟩)
    (e__law_cell_at : PySem.W.codeIn K cd__law_cell_at "_law_cell_at" = true) (p__law_cell_at : PySem.W.keepIn K (.ref f__law_cell_at) = true)
    {f__law_ended : Addr} {od__law_ended an__law_ended : Option Addr} {sl__law_ended : Array (Option Value)} {oc__law_ended kV__law_ended dc__law_ended pm__law_ended cd__law_ended ct__law_ended : Value}
    (a__law_ended : PySem.W.nsIn K mainGlobals "_law_ended" = some (some (.ref f__law_ended)))
    (l__law_ended : K.lookup f__law_ended = some ⟨oc__law_ended, od__law_ended, .func (PySem.W.fnOf "_law_ended" "_law_ended" (defArgs s__law_ended) (defBody s__law_ended) (defScope s__law_ended) .none kV__law_ended dc__law_ended pm__law_ended an__law_ended cd__law_ended ct__law_ended), sl__law_ended⟩)
    (e__law_ended : PySem.W.codeIn K cd__law_ended "_law_ended" = true) (p__law_ended : PySem.W.keepIn K (.ref f__law_ended) = true)
    {f_told : Addr} {od_told an_told : Option Addr} {sl_told : Array (Option Value)} {oc_told kV_told dc_told pm_told cd_told ct_told : Value}
    (a_told : PySem.W.nsIn K mainGlobals "told" = some (some (.ref f_told)))
    (l_told : K.lookup f_told = some ⟨oc_told, od_told, .func (PySem.W.fnOf "told" "told" (defArgs s_told) (defBody s_told) (defScope s_told) .none kV_told dc_told pm_told an_told cd_told ct_told), sl_told⟩)
    (e_told : PySem.W.codeIn K cd_told "told" = true) (p_told : PySem.W.keepIn K (.ref f_told) = true)
    {f__law_rows_in : Addr} {od__law_rows_in an__law_rows_in : Option Addr} {sl__law_rows_in : Array (Option Value)} {oc__law_rows_in kV__law_rows_in dc__law_rows_in pm__law_rows_in cd__law_rows_in ct__law_rows_in : Value}
    (a__law_rows_in : PySem.W.nsIn K mainGlobals "_law_rows_in" = some (some (.ref f__law_rows_in)))
    (l__law_rows_in : K.lookup f__law_rows_in = some ⟨oc__law_rows_in, od__law_rows_in, .func (PySem.W.fnOf "_law_rows_in" "_law_rows_in" (defArgs s__law_rows_in) (defBody s__law_rows_in) (defScope s__law_rows_in) .none kV__law_rows_in dc__law_rows_in pm__law_rows_in an__law_rows_in cd__law_rows_in ct__law_rows_in), sl__law_rows_in⟩)
    (e__law_rows_in : PySem.W.codeIn K cd__law_rows_in "_law_rows_in" = true) (p__law_rows_in : PySem.W.keepIn K (.ref f__law_rows_in) = true)
    {f__law_out : Addr} {od__law_out an__law_out : Option Addr} {sl__law_out : Array (Option Value)} {oc__law_out kV__law_out dc__law_out pm__law_out cd__law_out ct__law_out : Value}
    (a__law_out : PySem.W.nsIn K mainGlobals "_law_out" = some (some (.ref f__law_out)))
    (l__law_out : K.lookup f__law_out = some ⟨oc__law_out, od__law_out, .func (PySem.W.fnOf "_law_out" "_law_out" (defArgs s__law_out) (defBody s__law_out) (defScope s__law_out) .none kV__law_out dc__law_out pm__law_out an__law_out cd__law_out ct__law_out), sl__law_out⟩)
    (e__law_out : PySem.W.codeIn K cd__law_out "_law_out" = true) (p__law_out : PySem.W.keepIn K (.ref f__law_out) = true)
    {f__law_step : Addr} {od__law_step an__law_step : Option Addr} {sl__law_step : Array (Option Value)} {oc__law_step kV__law_step dc__law_step pm__law_step cd__law_step ct__law_step : Value}
    (a__law_step : PySem.W.nsIn K mainGlobals "_law_step" = some (some (.ref f__law_step)))
    (l__law_step : K.lookup f__law_step = some ⟨oc__law_step, od__law_step, .func (PySem.W.fnOf "_law_step" "_law_step" (defArgs s__law_step) (defBody s__law_step) (defScope s__law_step) .none kV__law_step dc__law_step pm__law_step an__law_step cd__law_step ct__law_step), sl__law_step⟩)
    (e__law_step : PySem.W.codeIn K cd__law_step "_law_step" = true) (p__law_step : PySem.W.keepIn K (.ref f__law_step) = true)
    {f__law_asks : Addr} {od__law_asks an__law_asks : Option Addr} {sl__law_asks : Array (Option Value)} {oc__law_asks kV__law_asks dc__law_asks pm__law_asks cd__law_asks ct__law_asks : Value}
    (a__law_asks : PySem.W.nsIn K mainGlobals "_law_asks" = some (some (.ref f__law_asks)))
    (l__law_asks : K.lookup f__law_asks = some ⟨oc__law_asks, od__law_asks, .func (PySem.W.fnOf "_law_asks" "_law_asks" (defArgs s__law_asks) (defBody s__law_asks) (defScope s__law_asks) .none kV__law_asks dc__law_asks pm__law_asks an__law_asks cd__law_asks ct__law_asks), sl__law_asks⟩)
    (e__law_asks : PySem.W.codeIn K cd__law_asks "_law_asks" = true) (p__law_asks : PySem.W.keepIn K (.ref f__law_asks) = true)
    {f__law_walk : Addr} {od__law_walk an__law_walk : Option Addr} {sl__law_walk : Array (Option Value)} {oc__law_walk kV__law_walk dc__law_walk pm__law_walk cd__law_walk ct__law_walk : Value}
    (a__law_walk : PySem.W.nsIn K mainGlobals "_law_walk" = some (some (.ref f__law_walk)))
    (l__law_walk : K.lookup f__law_walk = some ⟨oc__law_walk, od__law_walk, .func (PySem.W.fnOf "_law_walk" "_law_walk" (defArgs s__law_walk) (defBody s__law_walk) (defScope s__law_walk) .none kV__law_walk dc__law_walk pm__law_walk an__law_walk cd__law_walk ct__law_walk), sl__law_walk⟩)
    (e__law_walk : PySem.W.codeIn K cd__law_walk "_law_walk" = true) (p__law_walk : PySem.W.keepIn K (.ref f__law_walk) = true)
    {f_law : Addr} {od_law an_law : Option Addr} {sl_law : Array (Option Value)} {oc_law kV_law dc_law pm_law cd_law ct_law : Value}
    (a_law : PySem.W.nsIn K mainGlobals "law" = some (some (.ref f_law)))
    (l_law : K.lookup f_law = some ⟨oc_law, od_law, .func (PySem.W.fnOf "law" "law" (defArgs s_law) (defBody s_law) (defScope s_law) .none kV_law dc_law pm_law an_law cd_law ct_law), sl_law⟩)
    (e_law : PySem.W.codeIn K cd_law "law" = true) (p_law : PySem.W.keepIn K (.ref f_law) = true)
    (n_len : PySem.W.nsIn K mainGlobals "len" = some none)
    (n_isinstance : PySem.W.nsIn K mainGlobals "isinstance" = some none)
    (n_int : PySem.W.nsIn K mainGlobals "int" = some none)
    (n_bool : PySem.W.nsIn K mainGlobals "bool" = some none)
    (n_str : PySem.W.nsIn K mainGlobals "str" = some none)
    (n_tuple : PySem.W.nsIn K mainGlobals "tuple" = some none)
    (n_list : PySem.W.nsIn K mainGlobals "list" = some none)
    (n_range : PySem.W.nsIn K mainGlobals "range" = some none)
    (n_sorted : PySem.W.nsIn K mainGlobals "sorted" = some none)
    (n_max : PySem.W.nsIn K mainGlobals "max" = some none)
    (n_min : PySem.W.nsIn K mainGlobals "min" = some none)
    (n_any : PySem.W.nsIn K mainGlobals "any" = some none)
    (n_all : PySem.W.nsIn K mainGlobals "all" = some none)
    (n_enumerate : PySem.W.nsIn K mainGlobals "enumerate" = some none)
    {t_BOXES : Tok} (q_BOXES : PySem.W.nsIn K mainGlobals "BOXES" = some (some (Value.int 4 t_BOXES)))
    {t_MOST_ROWS : Tok} (q_MOST_ROWS : PySem.W.nsIn K mainGlobals "MOST_ROWS" = some (some (Value.int 20 t_MOST_ROWS)))
    : ∃ fd : FuncData, (∀ (s : Shared) (v : Value), BindsTo s fd ⟨[v], []⟩ [("_law_script", v)]) ∧ ∀ base : Heap, K.In base → base.Ns mainGlobals mg → FnOk l.prog w K mg base CX0 122 fa fd ["_law_script"] (spLaw K) := by
  have T : Txt mg := ⟨PySem.W.mg_none_of X G n_len, PySem.W.mg_none_of X G n_isinstance, PySem.W.mg_none_of X G n_int, PySem.W.mg_none_of X G n_bool, PySem.W.mg_none_of X G n_str, PySem.W.mg_none_of X G n_tuple, PySem.W.mg_none_of X G n_list, PySem.W.mg_none_of X G n_range, PySem.W.mg_none_of X G n_sorted, PySem.W.mg_none_of X G n_max, PySem.W.mg_none_of X G n_min, PySem.W.mg_none_of X G n_any, PySem.W.mg_none_of X G n_all, PySem.W.mg_none_of X G n_enumerate⟩
  have k_BOXES : ∃ t, mg "BOXES" = some (Value.int 4 t) := ⟨_, PySem.W.mg_of X G q_BOXES⟩
  have k_MOST_ROWS : ∃ t, mg "MOST_ROWS" = some (Value.int 20 t) := ⟨_, PySem.W.mg_of X G q_MOST_ROWS⟩
  have D__law_closed : DefAt K mg "_law_closed" s__law_closed := ⟨_, _, fun_mk (st := s__law_closed) l__law_closed e__law_closed p__law_closed, PySem.W.mg_of X G a__law_closed⟩
  have D__law_bare : DefAt K mg "_law_bare" s__law_bare := ⟨_, _, fun_mk (st := s__law_bare) l__law_bare e__law_bare p__law_bare, PySem.W.mg_of X G a__law_bare⟩
  have D__law_side : DefAt K mg "_law_side" s__law_side := ⟨_, _, fun_mk (st := s__law_side) l__law_side e__law_side p__law_side, PySem.W.mg_of X G a__law_side⟩
  have D__law_body_by : DefAt K mg "_law_body_by" s__law_body_by := ⟨_, _, fun_mk (st := s__law_body_by) l__law_body_by e__law_body_by p__law_body_by, PySem.W.mg_of X G a__law_body_by⟩
  have D_is_whole : DefAt K mg "is_whole" s_is_whole := ⟨_, _, fun_mk (st := s_is_whole) l_is_whole e_is_whole p_is_whole, PySem.W.mg_of X G a_is_whole⟩
  have D_good_row : DefAt K mg "good_row" s_good_row := ⟨_, _, fun_mk (st := s_good_row) l_good_row e_good_row p_good_row, PySem.W.mg_of X G a_good_row⟩
  have D_need_rows : DefAt K mg "need_rows" s_need_rows := ⟨_, _, fun_mk (st := s_need_rows) l_need_rows e_need_rows p_need_rows, PySem.W.mg_of X G a_need_rows⟩
  have D_behind : DefAt K mg "behind" s_behind := ⟨_, _, fun_mk (st := s_behind) l_behind e_behind p_behind, PySem.W.mg_of X G a_behind⟩
  have D_gone_on : DefAt K mg "gone_on" s_gone_on := ⟨_, _, fun_mk (st := s_gone_on) l_gone_on e_gone_on p_gone_on, PySem.W.mg_of X G a_gone_on⟩
  have D_walk : DefAt K mg "walk" s_walk := ⟨_, _, fun_mk (st := s_walk) l_walk e_walk p_walk, PySem.W.mg_of X G a_walk⟩
  have D__law_ints : DefAt K mg "_law_ints" s__law_ints := ⟨_, _, fun_mk (st := s__law_ints) l__law_ints e__law_ints p__law_ints, PySem.W.mg_of X G a__law_ints⟩
  have D__law_number_by : DefAt K mg "_law_number_by" s__law_number_by := ⟨_, _, fun_mk (st := s__law_number_by) l__law_number_by e__law_number_by p__law_number_by, PySem.W.mg_of X G a__law_number_by⟩
  have D__law_cell_at : DefAt K mg "_law_cell_at" s__law_cell_at := ⟨_, _, fun_mk (st := s__law_cell_at) l__law_cell_at e__law_cell_at p__law_cell_at, PySem.W.mg_of X G a__law_cell_at⟩
  have D__law_ended : DefAt K mg "_law_ended" s__law_ended := ⟨_, _, fun_mk (st := s__law_ended) l__law_ended e__law_ended p__law_ended, PySem.W.mg_of X G a__law_ended⟩
  have D_told : DefAt K mg "told" s_told := ⟨_, _, fun_mk (st := s_told) l_told e_told p_told, PySem.W.mg_of X G a_told⟩
  have D__law_rows_in : DefAt K mg "_law_rows_in" s__law_rows_in := ⟨_, _, fun_mk (st := s__law_rows_in) l__law_rows_in e__law_rows_in p__law_rows_in, PySem.W.mg_of X G a__law_rows_in⟩
  have D__law_out : DefAt K mg "_law_out" s__law_out := ⟨_, _, fun_mk (st := s__law_out) l__law_out e__law_out p__law_out, PySem.W.mg_of X G a__law_out⟩
  have D__law_step : DefAt K mg "_law_step" s__law_step := ⟨_, _, fun_mk (st := s__law_step) l__law_step e__law_step p__law_step, PySem.W.mg_of X G a__law_step⟩
  have D__law_asks : DefAt K mg "_law_asks" s__law_asks := ⟨_, _, fun_mk (st := s__law_asks) l__law_asks e__law_asks p__law_asks, PySem.W.mg_of X G a__law_asks⟩
  have D__law_walk : DefAt K mg "_law_walk" s__law_walk := ⟨_, _, fun_mk (st := s__law_walk) l__law_walk e__law_walk p__law_walk, PySem.W.mg_of X G a__law_walk⟩
  have e := hfa.symm.trans (PySem.W.mg_of X G a_law)
  cases e
  refine ⟨PySem.W.fnOf "law" "law" (defArgs s_law) (defBody s_law) (defScope s_law) .none kV_law dc_law pm_law an_law cd_law ct_law, fun s v => .of_eq rfl, fun base _ _ => ?_⟩
  have c__law_closed : Cal l.prog w K mg base CX0 1 "_law_closed" ["_law_frames"] (spClosed K) := W.c__law_closed T D__law_closed
  have c__law_bare : Cal l.prog w K mg base CX0 1 "_law_bare" ["_law_cell", "_law_kinds"] (spSide K 4) := W.c__law_bare T D__law_bare
  have c__law_side : Cal l.prog w K mg base CX0 1 "_law_side" ["_law_cell", "_law_kinds"] (spSide K 4) := W.c__law_side T D__law_side
  have c__law_body_by : Cal l.prog w K mg base CX0 2 "_law_body_by" ["_law_cells"] (spBody K) := W.c__law_body_by T D__law_body_by c__law_closed c__law_bare c__law_side
  have c_is_whole : Cal l.prog w K mg base CX0 1 "is_whole" ["thing"] spWhole := W.c_is_whole T D_is_whole
  have c_good_row : Cal l.prog w K mg base CX0 2 "good_row" ["row", "many"] (spGood K) := W.c_good_row T D_good_row k_BOXES c_is_whole
  have c_need_rows : Cal l.prog w K mg base CX0 3 "need_rows" ["rows"] (spNeed K) := W.c_need_rows T D_need_rows k_MOST_ROWS c_good_row
  have c_behind : Cal l.prog w K mg base CX0 1 "behind" ["row", "boxes"] (spBehind K) := W.c_behind T D_behind
  have c_gone_on : Cal l.prog w K mg base CX0 1 "gone_on" ["pile", "deed"] (spGone K) := W.c_gone_on T D_gone_on
  have c_walk : Cal l.prog w K mg base CX0 4 "walk" ["rows", "body", "boxes", "most"] (spWalk K) := W.c_walk T D_walk c_need_rows c_behind c_gone_on
  have c__law_ints : Cal l.prog w K mg base CX0 1 "_law_ints" ["_law_found", "_law_due"] (spInts K) := W.c__law_ints T D__law_ints
  have c__law_number_by : Cal l.prog w K mg base CX0 1 "_law_number_by" ["_law_cell"] spNum := W.c__law_number_by T D__law_number_by
  have c__law_cell_at : Cal l.prog w K mg base CX0 1 "_law_cell_at" ["_law_script", "_law_k"] (spCellU K) := W.c__law_cell_at T D__law_cell_at
  have c__law_ended : Cal l.prog w K mg base CX0 2 "_law_ended" ["_law_found", "_law_due"] (spEnded K) := W.c__law_ended T D__law_ended c__law_ints
  have c_told : Cal l.prog w K mg base CX0 121 "told" ["body"] (spTold K 119) := W.c_told T D_told
  have c__law_rows_in : Cal l.prog w K mg base CX0 121 "_law_rows_in" ["_law_body"] (spTold K 119) := W.c__law_rows_in T D__law_rows_in
  have c__law_out : Cal l.prog w K mg base CX0 1 "_law_out" ["_law_pile", "_law_deed"] (spGone K) := W.c__law_out T D__law_out
  have c__law_step : Cal l.prog w K mg base CX0 2 "_law_step" ["_law_rows", "_law_held", "_law_pile", "_law_trail"] (spLStep K) := W.c__law_step T D__law_step c__law_out
  have c__law_asks : Cal l.prog w K mg base CX0 1 "_law_asks" ["_law_pile"] (spAsks K) := W.c__law_asks T D__law_asks
  have c__law_walk : Cal l.prog w K mg base CX0 3 "_law_walk" ["_law_rows", "_law_body", "_law_boxes", "_law_most"] (spLWalk K) := W.c__law_walk T D__law_walk c__law_step c__law_asks
  exact W.c_law (P := l.prog) (w := w) (base := base) T (fun_mk (st := s_law) l_law e_law p_law) c__law_body_by c_walk c__law_ints c__law_number_by c__law_cell_at c__law_ended c_told c__law_rows_in c__law_walk
end W
open PySem PySem.W PyProof.Rows
set_option maxHeartbeats 0 in
theorem PySem.Challenge.cw_unravel_k08_bodies_walked_holds : PySem.Challenge.rw_unravel_k08_bodies_walked.Holds := by
  w_on; o_law; k_head; (case hw => w_witness2)
  k_fill
  refine L2.walk_ofB (l := PySem.Challenge.rw_unravel_k08_bodies_walked) (n := 63) (k := 122) (x := "_law_script") (CX := fun _ => L2.CX0) (sp := fun w => U.spLaw _) rfl (by decide) rfl ⟨rfl, by decide, by decide⟩ (fun w h Y => PySem.W.kIn_of Y) ?F (fun _ H a ns hl hb _ hS => U.spLaw_in hS hl hb) (fun _ _ _ _ _ h => h)
  case F =>
    intro w mg fa h KX G hmg
    refine' W.all_mk KX G hmg ?a__law_closed ?l__law_closed ?e__law_closed ?p__law_closed ?a__law_bare ?l__law_bare ?e__law_bare ?p__law_bare ?a__law_side ?l__law_side ?e__law_side ?p__law_side ?a__law_body_by ?l__law_body_by ?e__law_body_by ?p__law_body_by ?a_is_whole ?l_is_whole ?e_is_whole ?p_is_whole ?a_good_row ?l_good_row ?e_good_row ?p_good_row ?a_need_rows ?l_need_rows ?e_need_rows ?p_need_rows ?a_behind ?l_behind ?e_behind ?p_behind ?a_gone_on ?l_gone_on ?e_gone_on ?p_gone_on ?a_walk ?l_walk ?e_walk ?p_walk ?a__law_ints ?l__law_ints ?e__law_ints ?p__law_ints ?a__law_number_by ?l__law_number_by ?e__law_number_by ?p__law_number_by ?a__law_cell_at ?l__law_cell_at ?e__law_cell_at ?p__law_cell_at ?a__law_ended ?l__law_ended ?e__law_ended ?p__law_ended ?a_told ?l_told ?e_told ?p_told ?a__law_rows_in ?l__law_rows_in ?e__law_rows_in ?p__law_rows_in ?a__law_out ?l__law_out ?e__law_out ?p__law_out ?a__law_step ?l__law_step ?e__law_step ?p__law_step ?a__law_asks ?l__law_asks ?e__law_asks ?p__law_asks ?a__law_walk ?l__law_walk ?e__law_walk ?p__law_walk ?a_law ?l_law ?e_law ?p_law ?n_len ?n_isinstance ?n_int ?n_bool ?n_str ?n_tuple ?n_list ?n_range ?n_sorted ?n_max ?n_min ?n_any ?n_all ?n_enumerate ?q_BOXES ?q_MOST_ROWS
    (case a__law_closed => k_is)
    (case l__law_closed => k_is)
    (case e__law_closed => k_is)
    (case p__law_closed => k_is)
    (case a__law_bare => k_is)
    (case l__law_bare => k_is)
    (case e__law_bare => k_is)
    (case p__law_bare => k_is)
    (case a__law_side => k_is)
    (case l__law_side => k_is)
    (case e__law_side => k_is)
    (case p__law_side => k_is)
    (case a__law_body_by => k_is)
    (case l__law_body_by => k_is)
    (case e__law_body_by => k_is)
    (case p__law_body_by => k_is)
    (case a_is_whole => k_is)
    (case l_is_whole => k_is)
    (case e_is_whole => k_is)
    (case p_is_whole => k_is)
    (case a_good_row => k_is)
    (case l_good_row => k_is)
    (case e_good_row => k_is)
    (case p_good_row => k_is)
    (case a_need_rows => k_is)
    (case l_need_rows => k_is)
    (case e_need_rows => k_is)
    (case p_need_rows => k_is)
    (case a_behind => k_is)
    (case l_behind => k_is)
    (case e_behind => k_is)
    (case p_behind => k_is)
    (case a_gone_on => k_is)
    (case l_gone_on => k_is)
    (case e_gone_on => k_is)
    (case p_gone_on => k_is)
    (case a_walk => k_is)
    (case l_walk => k_is)
    (case e_walk => k_is)
    (case p_walk => k_is)
    (case a__law_ints => k_is)
    (case l__law_ints => k_is)
    (case e__law_ints => k_is)
    (case p__law_ints => k_is)
    (case a__law_number_by => k_is)
    (case l__law_number_by => k_is)
    (case e__law_number_by => k_is)
    (case p__law_number_by => k_is)
    (case a__law_cell_at => k_is)
    (case l__law_cell_at => k_is)
    (case e__law_cell_at => k_is)
    (case p__law_cell_at => k_is)
    (case a__law_ended => k_is)
    (case l__law_ended => k_is)
    (case e__law_ended => k_is)
    (case p__law_ended => k_is)
    (case a_told => k_is)
    (case l_told => k_is)
    (case e_told => k_is)
    (case p_told => k_is)
    (case a__law_rows_in => k_is)
    (case l__law_rows_in => k_is)
    (case e__law_rows_in => k_is)
    (case p__law_rows_in => k_is)
    (case a__law_out => k_is)
    (case l__law_out => k_is)
    (case e__law_out => k_is)
    (case p__law_out => k_is)
    (case a__law_step => k_is)
    (case l__law_step => k_is)
    (case e__law_step => k_is)
    (case p__law_step => k_is)
    (case a__law_asks => k_is)
    (case l__law_asks => k_is)
    (case e__law_asks => k_is)
    (case p__law_asks => k_is)
    (case a__law_walk => k_is)
    (case l__law_walk => k_is)
    (case e__law_walk => k_is)
    (case p__law_walk => k_is)
    (case a_law => k_is)
    (case l_law => k_is)
    (case e_law => k_is)
    (case p_law => k_is)
    (case n_len => k_is)
    (case n_isinstance => k_is)
    (case n_int => k_is)
    (case n_bool => k_is)
    (case n_str => k_is)
    (case n_tuple => k_is)
    (case n_list => k_is)
    (case n_range => k_is)
    (case n_sorted => k_is)
    (case n_max => k_is)
    (case n_min => k_is)
    (case n_any => k_is)
    (case n_all => k_is)
    (case n_enumerate => k_is)
    (case q_BOXES => k_is)
    (case q_MOST_ROWS => k_is)

