import PyProof.Rows.All
import Wide.All
import OpenK.AllK
import Wide.FinOn
import HandS.ForMost
import HandS.Evl
import HandS.SortInts
import HandS.IsInst
import HandS.TupAny
import HandS.TupMul
import HandS.Wide
import HandS.EndBits
import HandS.Deep
import HandS.Conv
import HandS.SetFor
import PySem.Challenge.RW_unravel_k03_shortest_ways
set_option Elab.async false
set_option linter.all false
set_option maxRecDepth 100000
set_option maxHeartbeats 4000000
/-! Own base over the hand layer: defs by name, readings that keep what is known, data -/
namespace U
open PySem PySem.Spec PyProof.Rows L2 Evl

/-! ### defs by name -/
def DefAt (K : PySem.W.Frag) (mg : Str → Option Value) (x : Str) (st : Stmt) : Prop :=
  ∃ f fd, Fun K x x st f fd ∧ mg x = some (.ref f)
def Cal (P : Program) (w : World) (K : PySem.W.Frag) (mg : Str → Option Value) (base : Heap) (CX : CXT) (k : Nat) (x : Str) (ps : List Str) (sp : Sp) : Prop :=
  ∃ f fd, FnOk P w K mg base CX k f fd ps sp ∧ mg x = some (.ref f) ∧ PySem.W.keepIn K (.ref f) = true ∧ Binds K fd ps []
section
variable {P : Program} {w : World} {K : PySem.W.Frag} {mg : Str → Option Value} {base : Heap}
theorem cal_of {x : Str} {st : Stmt} {N ps : List Str} {k : Nat} {sp : Sp} (D : DefAt K mg x st) (S : FnScope N ps (defScope st))
    (hb : ∀ (kV doc pm : Value) (an : Option Addr) (cdv ct : Value) (us : List Value), us.length = ps.length → bindArgs (PySem.W.fnOf x x (defArgs st) (defBody st) (defScope st) .none kV doc pm an cdv ct) ⟨us, []⟩ = pure (ps.zip us))
    (len : ∀ vs H Q E, sp vs H Q E → vs.length = ps.length)
    (body : ∀ (f : Addr) (cdv : Value) (A : Around) (outer : List Env) (s : Shared) (H : Hp) (vs : List V) (Q : VK) (E : XK), Room k (A.deeper (envOfC x (defScope st) s.heap.objs.size f cdv)) → sp vs H Q E →
      ∃ t, PSs (cxOf CX0 P w K mg base N x (defScope st) f cdv A outer s H E).nox (defBody st) t ∧ t { nx := fun _ H' => Q .non H', rt := Q } (start N vs) H) :
    Cal P w K mg base CX0 (k + 1) x ps sp := by
  obtain ⟨f, fd, F, hm⟩ := D
  exact ⟨f, fd, F.ok S len (body f), hm, F.kp, F.binds hb⟩
theorem Cal.mono {CX : CXT} {j k : Nat} {x : Str} {ps : List Str} {sp : Sp} (c : Cal P w K mg base CX j x ps sp) (h : j ≤ k) : Cal P w K mg base CX k x ps sp := by
  obtain ⟨f, fd, F, a, b, d⟩ := c
  exact ⟨f, fd, F.mono h, a, b, d⟩
theorem Cal.imp {CX : CXT} {k : Nat} {x : Str} {ps : List Str} {sp sp' : Sp} (c : Cal P w K mg base CX k x ps sp) (h : ∀ vs H Q E, sp' vs H Q E → sp vs H Q E) : Cal P w K mg base CX k x ps sp' := by
  obtain ⟨f, fd, F, a, b, d⟩ := c
  exact ⟨f, fd, F.imp h, a, b, d⟩
end
section
variable {X : Cx} {CX : CXT} {k : Nat} {ps : List Str} {sp : Sp} {E : XK} {x : Str} {p pos : Pos} {e : Expr} {es : List Expr} {t : TA}
theorem pe_cal (c : Cal X.prog X.w X.K X.mg X.base CX k x ps sp) (hr : Room k X.A) (hg : Gl X x) (hx : Passes CX X E) (ha : PA X (e :: es) t)
    (hdb : (x == ("__debug__" : Str)) = false := by decide) (he : starEach (e :: es) X.env = (false, eval e X.env) :: starEach es X.env := by rfl) (hpl : (backTo pos (starEach es X.env)).any (·.1) = false := by rfl) :
    PE X (.Call (.Name x p) (e :: es) [] pos) (tCall sp [] E t) := by
  obtain ⟨f, fd, F, hm, hk, hb⟩ := c
  exact pe_call F hr hg hm hk hb .nil hx ha hdb he hpl
theorem pe_globI {n : Int} (hg : Gl X x) (hm : ∃ t, X.mg x = some (.int n t)) (hd : (x == ("__debug__" : Str)) = false := by decide) : PE X (.Name x pos) (tC (.int n)) := by
  obtain ⟨t, hm⟩ := hm
  exact pe_glob hg hm ⟨t, rfl⟩ hd
/-- a * b, of any factors whose product is not beyond the model's own line -/
theorem op_mulA : OpR X (binaryOp .Mult) (rI IntMulOk fun i j => .int (i * j)) := opI fun _ _ _ _ _ _ _ hc q => mul_int q hc
end
/-! ### the rules, the written part named (within a comprehension the context is another) -/
section
variable {X : Cx} {K : PySem.W.Frag}
theorem k_ix_list (h : X.K = K) : IxR X (rIxL K) := h ▸ ix_list
theorem k_ix_tup (h : X.K = K) : IxR X (rIxT K) := h ▸ ix_tup
theorem k_sl_list (h : X.K = K) : SlR X (rSlL K) := h ▸ sl_list
theorem k_sl_tup (h : X.K = K) : SlR X (rSlA K) := h ▸ sl_tupA
theorem k_in_seq (h : X.K = K) : OpR X (compareOp .In) (rIn K false) := h ▸ op_in_seq
theorem k_notIn_seq (h : X.K = K) : OpR X (compareOp .NotIn) (rIn K true) := h ▸ op_notIn_seq
theorem k_catA (h : X.K = K) : OpR X (binaryOp .Add) (rCatA K) := h ▸ op_catA
theorem k_repT (h : X.K = K) : OpR X (binaryOp .Mult) (rRepT K) := h ▸ op_repT
theorem k_eqD (h : X.K = K) (hu : X.A.units + 64 < cLine) : OpR X (compareOp .Eq) (rEqD K) := h ▸ op_eqD hu
theorem k_neD (h : X.K = K) (hu : X.A.units + 64 < cLine) : OpR X (compareOp .NotEq) (rNeD K) := h ▸ op_neD hu
theorem k_len_seq (h : X.K = K) : CallR X (.builtin "len") (rLenS K) := h ▸ call_len_seq
theorem k_list_of (h : X.K = K) : CallR X (.type "list") (rListS K) := h ▸ call_list_of
theorem k_isi (h : X.K = K) : CallR X (.builtin "isinstance") (rIsi K) := h ▸ call_isi
theorem k_sortedI (h : X.K = K) : CallR X (.builtin "sorted") (rSortedI K) := h ▸ cr_sortedI
theorem k_any (h : X.K = K) (hc : X.calm = true) : CallR X (.builtin "any") (rAny K) := h ▸ cr_any hc
theorem k_all (h : X.K = K) (hc : X.calm = true) : CallR X (.builtin "all") (rAll K) := h ▸ cr_all hc
theorem k_index (h : X.K = K) : MtR X "list.index" (rIndex K) := h ▸ mt_index
theorem k_indexD (h : X.K = K) (hu : X.A.units + 65 < cLine) : MtR X "list.index" (rIndexD K) := h ▸ mt_indexD hu
theorem k_lcount (h : X.K = K) : MtR X "list.count" (rCntI K) := h ▸ mt_lcount
end
theorem mulok_l {i j : Int} (h1 : -(2 ^ 64) < i) (h2 : i < 2 ^ 64) : IntMulOk i j := CMul.ok (Or.inl ⟨h1, h2⟩)
theorem mulok_r {i j : Int} (h1 : -(2 ^ 64) < j) (h2 : j < 2 ^ 64) : IntMulOk i j := CMul.ok (Or.inr ⟨h1, h2⟩)
theorem mulok_bits {i j : Int} {a b : Nat} (hi : Builtin.Int.intBits i ≤ a) (hj : Builtin.Int.intBits j ≤ b) (h : a + b ≤ 100000000) : IntMulOk i j := by
  have e : bitsLine = 134217728 := by decide
  unfold IntMulOk
  intro z
  rw [Bool.and_eq_true] at z
  have z2 := z.2
  unfold Builtin.Int.intTooBig at z2
  have z3 := of_decide_eq_true z2
  rw [e] at z3
  omega

/-- the law's own promise -/
def BitsAll (ns : List Int) : Prop := ∀ z ∈ ns, Builtin.Int.intBits z ≤ 1048576
def spLaw (K : PySem.W.Frag) : Sp := fun vs H Q _ => ∃ (a : Addr) (ns : List Int), vs = [.ref a] ∧ SqL K H a (ns.map V.int) ∧ ns.length ≤ 63 ∧ BitsAll ns ∧ ∀ H', Q (.bl true) H'
theorem spLaw_in {K : PySem.W.Frag} {H : Hp} {a : Addr} {ns : List Int} {E : XK} (hS : SqL K H a (ns.map V.int)) (hl : ns.length ≤ 63) (hb : BitsAll ns) : spLaw K [.ref a] H (fun v _ => v = .bl true) E := ⟨a, ns, rfl, hS, hl, hb, fun _ => rfl⟩

/-! ### readings with a relation -/
def EvR (te : TE) (σ : L2.St) (H : Hp) (R : Hp → V → Hp → Prop) : Prop := ∀ H1, Ex H H1 → ∀ Q : VK, (∀ v H2, Ex H1 H2 → R H1 v H2 → Q v H2) → te σ H1 Q
def EvAR (ta : TA) (σ : L2.St) (H : Hp) (R : List V → Hp → Prop) : Prop := ∀ H1, Ex H H1 → ∀ Q : List V → Hp → Prop, (∀ vs H2, Ex H1 H2 → R vs H2 → Q vs H2) → ta σ H1 Q
/-- a def's promise by what is asked of the arguments and what is told of the answer; g: what is meant -/
def FSp {G : Type} (pre : G → List V → Hp → Prop) (R : G → Hp → V → Hp → Prop) : Sp := fun vs H Q _ => ∃ g, pre g vs H ∧ ∀ v H', Ex H H' → R g H v H' → Q v H'
section
variable {K : PySem.W.Frag} {σ : L2.St} {H H' : Hp} {ta tb te tx : TE} {t u : TT} {x y z v : V} {r : R2} {D : Ends} {tu tw tz : TS}
theorem EvR.mono {R : Hp → V → Hp → Prop} (e : Ex H H') (h : EvR te σ H R) : EvR te σ H' R := fun H1 a Q q => h H1 (e.trans a) Q q
theorem EvR.imp {R R' : Hp → V → Hp → Prop} (h : EvR te σ H R) (f : ∀ H1 v H2, Ex H H1 → Ex H1 H2 → R H1 v H2 → R' H1 v H2) : EvR te σ H R' := fun H1 a Q q => h H1 a Q fun v H2 e r => q v H2 e (f H1 v H2 a e r)
theorem _root_.Evl.Ev.toR (h : Ev te σ H v) : EvR te σ H (fun _ x _ => x = v) := fun H1 a Q q => h H1 a Q fun H2 e => q v H2 e rfl
theorem _root_.Evl.EvL.toR {xs : List V} (h : EvL te σ H xs) : EvR te σ H (fun H1 x H2 => ∃ p, x = .ref p ∧ H1 p = none ∧ H2 p = some (.lst xs)) := fun H1 a Q q => h H1 a Q fun p H2 hp e h2 => q _ H2 e ⟨p, rfl, hp, h2⟩
theorem _root_.Evl.EvU.toR {xs : List V} (h : EvU te σ H xs) : EvR te σ H (fun H1 x H2 => ∃ p, x = .ref p ∧ H1 p = none ∧ H2 p = some (.tup xs)) := fun H1 a Q q => h H1 a Q fun p H2 hp e h2 => q _ H2 e ⟨p, rfl, hp, h2⟩
theorem EvR.ev (h : EvR te σ H (fun _ x _ => x = v)) : Ev te σ H v := fun H1 a Q q => h H1 a Q fun w H2 e r => by
  subst r
  exact q H2 e
theorem EvR.l {xs : List V} (h : EvR te σ H (fun H1 x H2 => ∃ p, x = .ref p ∧ H1 p = none ∧ H2 p = some (.lst xs))) : EvL te σ H xs := fun H1 a Q q => h H1 a Q fun w H2 e r => by
  obtain ⟨p, rfl, hp, h2⟩ := r
  exact q p H2 hp e h2
theorem ear_nil : EvAR tNil σ H (fun vs _ => vs = []) := fun H1 _ Q q => q [] H1 (Ex.refl H1) rfl
theorem ear_of {ta : TA} {vs : List V} (h : EvA ta σ H vs) : EvAR ta σ H (fun ws _ => ws = vs) := fun H1 a Q q => h H1 a Q fun H2 e => q vs H2 e rfl
theorem ear_cons {tr : TA} {R1 : Hp → V → Hp → Prop} {R : List V → Hp → Prop} (h : EvR te σ H R1) (hr : ∀ H1 x H2, Ex H H1 → Ex H1 H2 → R1 H1 x H2 → EvAR tr σ H2 (fun vs H3 => R (x :: vs) H3)) : EvAR (tCons te tr) σ H R := fun H1 e Q q =>
  h H1 e _ fun x H2 e2 r1 => hr H1 x H2 e e2 r1 H2 (Ex.refl H2) _ fun vs H3 e3 r => q _ H3 (e2.trans e3) r
/-- a call of a def that keeps an FSp -/
theorem ev_callR {G : Type} {pre : G → List V → Hp → Prop} {R : G → Hp → V → Hp → Prop} {E : XK} {ta : TA} {Ra : List V → Hp → Prop} (g : G) (h : EvAR ta σ H Ra) (hp : ∀ vs H1, Ex H H1 → Ra vs H1 → pre g vs H1) (hR : ∀ (H1 H2 H3 : Hp) v, Ex H1 H2 → R g H2 v H3 → R g H1 v H3) :
    EvR (tCall (FSp pre R) [] E ta) σ H (R g) := fun H1 e Q q => h H1 e _ fun vs H2 e2 ra => ⟨g, by
    rw [List.append_nil]
    exact hp vs H2 (e.trans e2) ra, fun v H3 e3 r => q v H3 (e2.trans e3) (hR H1 H2 H3 v e2 r)⟩
theorem ev_callA {G : Type} {pre : G → List V → Hp → Prop} {R : G → Hp → V → Hp → Prop} {E : XK} {ta : TA} {vs : List V} (g : G) (h : EvA ta σ H vs) (hp : ∀ H1, Ex H H1 → pre g vs H1) (hR : ∀ (H1 H2 H3 : Hp) v, Ex H1 H2 → R g H2 v H3 → R g H1 v H3) :
    EvR (tCall (FSp pre R) [] E ta) σ H (R g) := ev_callR g (ear_of h) (fun ws H1 e q => by
    subst q
    exact hp H1 e) hR
theorem ev_callV {G : Type} {pre : G → List V → Hp → Prop} {f : G → V} {E : XK} {ta : TA} {vs : List V} (g : G) (h : EvA ta σ H vs) (hp : ∀ H1, Ex H H1 → pre g vs H1) :
    Ev (tCall (FSp pre fun g _ v _ => v = f g) [] E ta) σ H (f g) := EvR.ev (ev_callA g h hp fun _ _ _ _ _ q => q)
/-- statements -/
theorem s_asgR {i : Nat} {R : Hp → V → Hp → Prop} (h : EvR te σ H R) (k : ∀ v H1, Ex H H1 → R H v H1 → D.nx (σ.set i (some v)) H1) : tAsg te (gName i) D σ H := h H (Ex.refl H) _ fun v H1 e r => k v H1 e r
theorem q_asgR {i : Nat} {R : Hp → V → Hp → Prop} (h : EvR te σ H R) (k : ∀ v H1, Ex H H1 → R H v H1 → tz D (σ.set i (some v)) H1) : tSeq (tAsg te (gName i)) tz D σ H := s_asgR (D := { D with nx := tz D }) h k
theorem s_retR {R : Hp → V → Hp → Prop} (h : EvR te σ H R) (k : ∀ v H1, Ex H H1 → R H v H1 → D.rt v H1) : tRet te D σ H := h H (Ex.refl H) _ fun v H1 e r => k v H1 e r
theorem s_dropR {R : Hp → V → Hp → Prop} (h : EvR te σ H R) (k : ∀ v H1, Ex H H1 → R H v H1 → D.nx σ H1) : tDrop te D σ H := h H (Ex.refl H) _ fun v H1 e r => k v H1 e r
theorem q_dropR {R : Hp → V → Hp → Prop} (h : EvR te σ H R) (k : ∀ v H1, Ex H H1 → R H v H1 → tz D σ H1) : tSeq (tDrop te) tz D σ H := s_dropR (D := { D with nx := tz D }) h k
/-- any expression, then the rest by its value -/
theorem ev_bind {R1 : Hp → V → Hp → Prop} {R : Hp → V → Hp → Prop} {r : V → Hp → VK → Prop} (h : EvR te σ H R1) (k : ∀ x H1 H2, Ex H H1 → Ex H1 H2 → R1 H1 x H2 → ∀ Q : VK, (∀ v H3, Ex H2 H3 → R H1 v H3 → Q v H3) → r x H2 Q) :
    EvR (fun σ H Q => te σ H fun x H1 => r x H1 Q) σ H R := fun H1 e Q q => h H1 e _ fun x H2 e2 r1 => k x H1 H2 e e2 r1 Q fun v H3 e3 rr => q v H3 (e2.trans e3) rr
theorem evr_op {R1 R2 R : Hp → V → Hp → Prop} {r : L2.R2} (ha : EvR ta σ H R1) (hb : ∀ x H1 H2, Ex H H1 → Ex H1 H2 → R1 H1 x H2 → EvR tb σ H2 R2)
    (hr : ∀ x y H1 H2 H3, Ex H H1 → Ex H1 H2 → R1 H1 x H2 → Ex H2 H3 → R2 H2 y H3 → ∀ Q : VK, (∀ v H4, Ex H3 H4 → R H1 v H4 → Q v H4) → r x y H3 Q) : EvR (tOp r ta tb) σ H R := fun H1 e Q q =>
  ha H1 e _ fun x H2 e2 r1 => hb x H1 H2 e e2 r1 H2 (Ex.refl H2) _ fun y H3 e3 r2 => hr x y H1 H2 H3 e e2 r1 e3 r2 Q fun v H4 e4 rr => q v H4 ((e2.trans e3).trans e4) rr

/-! ### further values -/
theorem rv_I0b {g : Int → Int → V} {i j : Int} {w : V} (h : g i j = w) : RV (rI0 g) (.int i) (.int j) H w := by
  subst h
  exact rv_I0
theorem rv_mulA {i j : Int} (h : IntMulOk i j) : RV (rI IntMulOk fun i j => .int (i * j)) (.int i) (.int j) H (.int (i * j)) := rv_I h
theorem rv_modN {i j : Int} (h : 0 < j) : RV (rI (fun _ j => j ≠ 0) fun i j => .int (i.fmod j)) (.int i) (.int j) H (.int (i % j)) := by
  have q := rv_I (H := H) (C := fun (_ j : Int) => j ≠ 0) (g := fun i j => .int (i.fmod j)) (i := i) (j := j) (by omega)
  have e : i.fmod j = i % j := Int.fmod_eq_emod_of_nonneg i (by omega)
  rw [show V.int (i % j) = V.int (i.fmod j) by rw [e]]
  exact q
theorem rv_fdivN {i j : Int} (h : 0 < j) (h2 : j.natAbs < 1073741824) : RV (rI CDivN fun i j => .int (i.fdiv j)) (.int i) (.int j) H (.int (i / j)) := by
  have q := rv_I (H := H) (C := CDivN) (g := fun i j => .int (i.fdiv j)) (i := i) (j := j) ⟨by omega, h2⟩
  have e : i.fdiv j = i / j := Int.fdiv_eq_ediv_of_nonneg i (by omega)
  rw [show V.int (i / j) = V.int (i.fdiv j) by rw [e]]
  exact q
theorem rv_pow {i j : Int} (h : CPow i j) : RV (rI CPow fun i j => .int (i ^ j.toNat)) (.int i) (.int j) H (.int (i ^ j.toNat)) := rv_I h
def rMin2 : List V → Hp → VK → Prop := fun xs H Q => ∃ i j, xs = [.int i, .int j] ∧ Q (.int (if j < i then j else i)) H
theorem ev_min2 {i j : Int} (ha : Ev ta σ H (.int i)) (hb : Ev tb σ H (.int j)) : Ev (tCB rMin2 (tCons ta (tCons tb tNil))) σ H (.int (if j < i then j else i)) := fun H1 e Q q =>
  ha H1 e _ fun H2 e2 => hb H2 (e.trans e2) _ fun H3 e3 => ⟨i, j, rfl, q H3 (e2.trans e3)⟩
theorem ev_lenT {p : Addr} {xs : List V} (ha : Ev ta σ H (.ref p)) (h : SqT K H p xs) : Ev (tCB (rLenS K) (tCons ta tNil)) σ H (.int (xs.length : Int)) := fun H1 e Q q =>
  ha H1 e _ fun H2 e2 => ⟨p, xs, rfl, Or.inr (ex_t (e.trans e2) h), q H2 e2⟩
theorem ev_notT {b : Bool} (h : EvT t σ H b) : EvT (tNot t) σ H (!b) := et_not h
theorem ev_isi {n a : String} {b : Bool} (hx : Ev ta σ H x) (ty : ∀ H1, Ex H H1 → TyX K H1 x (.type a)) (h : kitB a n = some b) : Ev (tCB (rIsi K) (tCons ta (tCons (tC (.ty n)) tNil))) σ H (.bl b) := fun H1 e Q q =>
  hx H1 e _ fun H2 e2 => ⟨x, .ty n, .type a, .type n, b, rfl, .ty n, ty H2 (e.trans e2), kit_ty h, q H2 e2⟩
theorem kb_ii : kitB "int" "int" = some true := by decide +kernel
theorem kb_ib : kitB "int" "bool" = some false := by decide +kernel
theorem kb_bb : kitB "bool" "bool" = some true := by decide +kernel
theorem kb_bi : kitB "bool" "int" = some true := by decide +kernel
theorem kb_ss : kitB "str" "str" = some true := by decide +kernel
theorem kb_ll : kitB "list" "list" = some true := by decide +kernel
theorem kb_tt : kitB "tuple" "tuple" = some true := by decide +kernel
theorem kb_si : kitB "str" "int" = some false := by decide +kernel
theorem kb_is : kitB "int" "str" = some false := by decide +kernel
theorem kb_ni : kitB "NoneType" "int" = some false := by decide +kernel
theorem kb_li : kitB "list" "int" = some false := by decide +kernel
theorem kb_ls : kitB "list" "str" = some false := by decide +kernel
theorem kb_ns : kitB "NoneType" "str" = some false := by decide +kernel
theorem kb_ts : kitB "tuple" "str" = some false := by decide +kernel
/-- a chain of two comparisons -/
theorem ev_chain {r' : R2} {tc : TE} {a b : Bool} (ha : Ev ta σ H x) (hb : Ev tb σ H y) (h1 : RV r x y H (.bl a)) (h2 : a = true → Ev tc σ H z ∧ RV r' y z H (.bl b)) : Ev (tChain r r' ta tb tc) σ H (.bl (a && b)) := fun H1 e Q q =>
  ha H1 e _ fun H2 e2 => hb H2 (e.trans e2) _ fun H3 e3 => h1 H3 ((e.trans e2).trans e3) _ fun H4 e4 => ⟨a, rfl, by
    cases a with
    | false =>
      show Q (.bl false) H4
      exact q H4 ((e2.trans e3).trans e4)
    | true =>
      obtain ⟨hc, hr⟩ := h2 rfl
      show tc σ H4 fun w' H5 => r' y w' H5 Q
      exact hc H4 (((e.trans e2).trans e3).trans e4) _ fun H5 e5 => hr H5 ((((e.trans e2).trans e3).trans e4).trans e5) Q fun H6 e6 => q H6 ((((e2.trans e3).trans e4).trans e5).trans e6)⟩
/-- dicts -/
theorem ev_dget {a : Addr} {kvs : List (Key × V)} {k : Key} (ha : Ev ta σ H (.ref a)) (hb : Ev tb σ H (kV k)) (hd : Rd H a (.dK kvs)) (hv : valV kvs k = some v) : Ev (tDGet ta tb) σ H v := fun H1 e Q q =>
  ha H1 e _ fun H2 e2 => hb H2 (e.trans e2) _ fun H3 e3 => ⟨a, v, rfl, Or.inl ⟨kvs, k, ex_rd ((e.trans e2).trans e3) hd, rfl, hv.symm⟩, q H3 (e2.trans e3)⟩
theorem ev_din {a : Addr} {kvs : List (Key × V)} {k : Key} (hb : Ev tb σ H (kV k)) (ha : Ev ta σ H (.ref a)) (hd : Rd H a (.dK kvs)) : Ev (tDIn tb ta) σ H (.bl (valV kvs k).isSome) := fun H1 e Q q =>
  hb H1 e _ fun H2 e2 => ha H2 (e.trans e2) _ fun H3 e3 => ⟨a, valV kvs k, rfl, Or.inl ⟨kvs, k, ex_rd ((e.trans e2).trans e3) hd, rfl, rfl⟩, q H3 (e2.trans e3)⟩
theorem ev_dnotin {a : Addr} {kvs : List (Key × V)} {k : Key} (hb : Ev tb σ H (kV k)) (ha : Ev ta σ H (.ref a)) (hd : Rd H a (.dK kvs)) : Ev (tDNotIn tb ta) σ H (.bl (!(valV kvs k).isSome)) := fun H1 e Q q =>
  hb H1 e _ fun H2 e2 => ha H2 (e.trans e2) _ fun H3 e3 => ⟨a, valV kvs k, rfl, Or.inl ⟨kvs, k, ex_rd ((e.trans e2).trans e3) hd, rfl, rfl⟩, q H3 (e2.trans e3)⟩
/-- y in (a dict just made by e), y not in it -/
theorem ev_dinR {kvs : List (Key × V)} {k : Key} (hb : Ev tb σ H (kV k)) (ha : EvR ta σ H fun _ x H2 => ∃ a, x = .ref a ∧ Rd H2 a (.dK kvs)) : Ev (tDIn tb ta) σ H (.bl (valV kvs k).isSome) := fun H1 e Q q =>
  hb H1 e _ fun H2 e2 => ha H2 (e.trans e2) _ fun x H3 e3 ⟨a, ex, hd⟩ => ⟨a, valV kvs k, ex, Or.inl ⟨kvs, k, hd, rfl, rfl⟩, q H3 (e2.trans e3)⟩
theorem ev_dinP {k : Key} {b : Bool} (hb : Ev tb σ H (kV k)) (ha : EvR ta σ H fun _ x H2 => ∃ a kvs, x = .ref a ∧ Rd H2 a (.dK kvs) ∧ (valV kvs k).isSome = b) : Ev (tDIn tb ta) σ H (.bl b) := fun H1 e Q q =>
  hb H1 e _ fun H2 e2 => ha H2 (e.trans e2) _ fun x H3 e3 ⟨a, kvs, ex, hd, hv⟩ => ⟨a, valV kvs k, ex, Or.inl ⟨kvs, k, hd, rfl, rfl⟩, by
    rw [hv]
    exact q H3 (e2.trans e3)⟩
/-- a comprehension's list made ahead -/
theorem lc_bind {wi : TE → TI} {g : TG} {vs : List Nat} {R1 : Hp → V → Hp → Prop} {R : Hp → V → Hp → Prop} (hw : ∀ (te : TE) σ H Rr, wi te σ H Rr = te σ H fun x H1 => wi (tC x) σ H1 Rr) (h : EvR tx σ H R1)
    (k : ∀ x H1 H2, Ex H H1 → Ex H1 H2 → R1 H1 x H2 → EvR (tLc (wi (tC x)) g t te vs) σ H2 (fun _ y H3 => R H1 y H3)) : EvR (tLc (wi tx) g t te vs) σ H R := fun H1 e Q q => by
  show wi tx σ H1 _
  rw [hw]
  exact h H1 e _ fun x H2 e2 r => k x H1 H2 e e2 r H2 (Ex.refl H2) Q fun y H3 e3 rr => q y H3 (e2.trans e3) rr
theorem iList_bind (te : TE) (σ : L2.St) (H : Hp) (Rr : It → Hp → Prop) : iList K te σ H Rr = te σ H fun x H1 => iList K (tC x) σ H1 Rr := rfl
theorem ed_new : EvR tDNewK σ H (fun H1 x H2 => ∃ p, x = .ref p ∧ H1 p = none ∧ H2 p = some (.dK [])) := fun H1 _ Q q p hp => q _ _ (Ex.new hp) ⟨p, rfl, hp, upd_same⟩
theorem s_dput {a : Addr} {kvs : List (Key × V)} {k : Key} (hv : Ev te σ H v) (ha : Ev ta σ H (.ref a)) (hb : Ev tb σ H (kV k)) (hd : H a = some (.dK kvs)) (hl : kvs.length < 100000) (q : ∀ H1, Ex H H1 → D.nx σ (upd H1 a (.dK (putK kvs k v)))) : sDPut ta tb te D σ H :=
  hv H (Ex.refl H) _ fun H1 e1 => ha H1 e1 _ fun H2 e2 => hb H2 (e1.trans e2) _ fun H3 e3 => ⟨a, _, rfl, Or.inl ⟨kvs, k, ((e1.trans e2).trans e3) a _ hd, rfl, sz_lt hl, rfl⟩, q H3 ((e1.trans e2).trans e3)⟩
theorem q_dput {a : Addr} {kvs : List (Key × V)} {k : Key} (hv : Ev te σ H v) (ha : Ev ta σ H (.ref a)) (hb : Ev tb σ H (kV k)) (hd : H a = some (.dK kvs)) (hl : kvs.length < 100000) (q : ∀ H1, Ex H H1 → tz D σ (upd H1 a (.dK (putK kvs k v)))) : tSeq (sDPut ta tb te) tz D σ H :=
  s_dput (D := { D with nx := tz D }) hv ha hb hd hl q
/-- the same, the value by a relation -/
theorem s_dputR {a : Addr} {R : Hp → V → Hp → Prop} (hv : EvR te σ H R) (ha : Ev ta σ H (.ref a)) {k : Key} (hb : Ev tb σ H (kV k)) {kvs : List (Key × V)} (hd : H a = some (.dK kvs)) (hl : kvs.length < 100000)
    (q : ∀ v H1, Ex H H1 → (∃ H0, Ex H H0 ∧ Ex H0 H1 ∧ R H v H0) → D.nx σ (upd H1 a (.dK (putK kvs k v)))) : sDPut ta tb te D σ H :=
  hv H (Ex.refl H) _ fun v H1 e1 r => ha H1 e1 _ fun H2 e2 => hb H2 (e1.trans e2) _ fun H3 e3 => ⟨a, _, rfl, Or.inl ⟨kvs, k, ((e1.trans e2).trans e3) a _ hd, rfl, sz_lt hl, rfl⟩, q v H3 ((e1.trans e2).trans e3) ⟨H1, e1, e2.trans e3, r⟩⟩
/-- xs.pop() as a value, the last: the list changes -/
theorem s_asgPop {i : Nat} {l : Addr} {xs : List V} (ho : Ev ta σ H (.ref l)) (hl : H l = some (.lst (xs ++ [v]))) (q : ∀ H1, Ex H H1 → D.nx (σ.set i (some v)) (upd H1 l (.lst xs))) : tAsg (tBM0 K "list" rPop ta) (gName i) D σ H :=
  ho H (Ex.refl H) _ fun H1 e1 => ⟨Or.inl ⟨rfl, _, sq_of (e1 l _ hl)⟩, l, _, v, rfl, rfl, e1 l _ hl, by simp, by
    rw [List.dropLast_concat]
    exact q H1 e1⟩
theorem q_asgPop {i : Nat} {l : Addr} {xs : List V} (ho : Ev ta σ H (.ref l)) (hl : H l = some (.lst (xs ++ [v]))) (q : ∀ H1, Ex H H1 → tz D (σ.set i (some v)) (upd H1 l (.lst xs))) : tSeq (tAsg (tBM0 K "list" rPop ta) (gName i)) tz D σ H :=
  s_asgPop (D := { D with nx := tz D }) ho hl q
theorem s_pop {l : Addr} {xs : List V} (ho : Ev ta σ H (.ref l)) (hl : H l = some (.lst (xs ++ [v]))) (q : ∀ H1, Ex H H1 → D.nx σ (upd H1 l (.lst xs))) : tDrop (tBM0 K "list" rPop ta) D σ H :=
  ho H (Ex.refl H) _ fun H1 e1 => ⟨Or.inl ⟨rfl, _, sq_of (e1 l _ hl)⟩, l, _, v, rfl, rfl, e1 l _ hl, by simp, by
    rw [List.dropLast_concat]
    exact q H1 e1⟩
theorem q_pop {l : Addr} {xs : List V} (ho : Ev ta σ H (.ref l)) (hl : H l = some (.lst (xs ++ [v]))) (q : ∀ H1, Ex H H1 → tz D σ (upd H1 l (.lst xs))) : tSeq (tDrop (tBM0 K "list" rPop ta)) tz D σ H :=
  s_pop (D := { D with nx := tz D }) ho hl q
/-- x = xs[ys.pop()] -/
theorem q_asgIxPop {i : Nat} {a l : Addr} {us xs : List V} {n : Int} (ha : Ev ta σ H (.ref a)) (hb : Ev tb σ H (.ref l)) (hl : H l = some (.lst (xs ++ [.int n]))) (hat : atI us n = some v)
    (k : ∀ H1, Ex H H1 → SqL K (upd H1 l (.lst xs)) a us ∧ tz D (σ.set i (some v)) (upd H1 l (.lst xs))) : tSeq (tAsg (tOp (rIxL K) ta (tBM0 K "list" rPop tb)) (gName i)) tz D σ H :=
  ha H (Ex.refl H) _ fun H1 e1 => hb H1 e1 _ fun H2 e2 => ⟨Or.inl ⟨rfl, _, sq_of ((e1.trans e2) l _ hl)⟩, l, _, .int n, rfl, rfl, (e1.trans e2) l _ hl, by simp, by
    rw [List.dropLast_concat]
    obtain ⟨h1, h2⟩ := k H2 (e1.trans e2)
    exact ⟨a, us, n, v, rfl, rfl, h1, hat, h2⟩⟩
/-- sorted(a list just made of ints) and so on: a built-in of one argument that makes a list -/
theorem el_sorted {R1 : Hp → V → Hp → Prop} {ns : List Int} (h : EvR te σ H R1) (h1 : ∀ H1 x H2, Ex H H1 → Ex H1 H2 → R1 H1 x H2 → ∃ a, x = .ref a ∧ SqL K H2 a (ns.map V.int)) (ms : List Int) (hs : ∀ ns' : List Int, ns'.Perm ns → ns'.Pairwise (· ≤ ·) → ns' = ms) :
    EvL (tCB (rSortedI K) (tCons te tNil)) σ H (ms.map V.int) := fun H1 e Q q => h H1 e _ fun x H2 e2 r1 => by
  obtain ⟨a, rfl, hl⟩ := h1 H1 x H2 e e2 r1
  refine ⟨a, ns, rfl, hl, fun ns' p hp hw hn => ?_⟩
  rw [hs ns' hp hw]
  exact q p _ (fresh_back e2 hn) (e2.trans (Ex.new hn)) upd_same
theorem el_listD {a : Addr} {kvs : List (Key × V)} (h : Ev te σ H (.ref a)) (hd : H a = some (.dK kvs)) : EvL (tCB rListD (tCons te tNil)) σ H (kvs.map fun kv => kV kv.1) := fun H1 e Q q => h H1 e _ fun H2 e2 =>
  ⟨a, kvs, rfl, e2 a _ (e a _ hd), fun p hp => q p _ (fresh_back e2 hp) (e2.trans (Ex.new hp)) upd_same⟩
theorem el_listDR {kvs : List (Key × V)} (h : EvR te σ H fun _ x H2 => ∃ a, x = .ref a ∧ H2 a = some (.dK kvs)) : EvL (tCB rListD (tCons te tNil)) σ H (kvs.map fun kv => kV kv.1) := fun H1 e Q q => h H1 e _ fun x H2 e2 ⟨a, ex, hd⟩ =>
  ⟨a, kvs, by rw [ex], hd, fun p hp => q p _ (fresh_back e2 hp) (e2.trans (Ex.new hp)) upd_same⟩
theorem el_listRg {tr : L2.St → Hp → (Int → Int → Hp → Prop) → Prop} {a b : Int} (h : ∀ H1, Ex H H1 → ∀ Q : Int → Int → Hp → Prop, (∀ H2, Ex H1 H2 → Q a b H2) → tr σ H1 Q) (ok : RgOk a b) : EvL (tLstRg tr) σ H (rgV a b) := fun H1 e Q q =>
  h H1 e _ fun H2 e2 => ⟨ok, fun p hp => q p _ (fresh_back e2 hp) (e2.trans (Ex.new hp)) upd_same⟩
theorem rg1 {n : Int} (h : Ev te σ H (.int n)) : ∀ H1, Ex H H1 → ∀ Q : Int → Int → Hp → Prop, (∀ H2, Ex H1 H2 → Q 0 n H2) → tRg1 te σ H1 Q := fun H1 e Q q => h H1 e _ fun H2 e2 => ⟨n, rfl, q H2 e2⟩
theorem rg2 {a b : Int} (ha : Ev ta σ H (.int a)) (hb : Ev tb σ H (.int b)) : ∀ H1, Ex H H1 → ∀ Q : Int → Int → Hp → Prop, (∀ H2, Ex H1 H2 → Q a b H2) → tRg2 ta tb σ H1 Q := fun H1 e Q q => ha H1 e _ fun H2 e2 => hb H2 (e.trans e2) _ fun H3 e3 => ⟨a, b, rfl, rfl, q H3 (e2.trans e3)⟩
/-- lists joined -/
theorem el_cat {R1 R2 : Hp → V → Hp → Prop} {xs ys : List V} (ha : EvR ta σ H R1) (hb : ∀ x H1 H2, Ex H H1 → Ex H1 H2 → R1 H1 x H2 → EvR tb σ H2 R2) (hl : xs.length + ys.length ≤ 100000)
    (h : ∀ x y H1 H2 H3, Ex H H1 → Ex H1 H2 → R1 H1 x H2 → Ex H2 H3 → R2 H2 y H3 → ∃ a b, x = .ref a ∧ y = .ref b ∧ H3 a = some (.lst xs) ∧ H3 b = some (.lst ys)) : EvL (tOp rCat ta tb) σ H (xs ++ ys) :=
  EvR.l (evr_op ha hb fun x y H1 H2 H3 e e2 r1 e3 r2 Q q => by
    obtain ⟨a, b, rfl, rfl, h1, h2⟩ := h x y H1 H2 H3 e e2 r1 e3 r2
    exact ⟨a, b, xs, ys, rfl, rfl, h1, h2, sz_of hl, fun p hp => q _ _ (Ex.new hp) ⟨p, rfl, fresh_back (e2.trans e3) hp, upd_same⟩⟩)
/-- while, by a word with a number that falls -/
theorem s_whileW (W : Nat → L2.St → Hp → Prop) (m0 : Nat) (h0 : W m0 σ H)
    (hs : ∀ m σ' H', W m σ' H' → ∃ b, EvT t σ' H' b ∧ (b = true → ∀ H1, Ex H' H1 → tu { D with nx := fun σ2 H2 => ∃ m', m' < m ∧ W m' σ2 H2, ct := fun σ2 H2 => ∃ m', m' < m ∧ W m' σ2 H2, bk := D.nx } σ' H1) ∧ (b = false → ∀ H1, Ex H' H1 → D.nx σ' H1)) : tWhile t tu D σ H :=
  s_while W m0 h0 fun m σ' H' w => by
    obtain ⟨b, hb, h1, h2⟩ := hs m σ' H' w
    exact ⟨b, hb, fun z H1 e => ⟨_, fun _ _ y => y, h1 z H1 e⟩, h2⟩
theorem q_whileW (W : Nat → L2.St → Hp → Prop) (m0 : Nat) (h0 : W m0 σ H)
    (hs : ∀ m σ' H', W m σ' H' → ∃ b, EvT t σ' H' b ∧ (b = true → ∀ H1, Ex H' H1 → tu { D with nx := fun σ2 H2 => ∃ m', m' < m ∧ W m' σ2 H2, ct := fun σ2 H2 => ∃ m', m' < m ∧ W m' σ2 H2, bk := tz D } σ' H1) ∧ (b = false → ∀ H1, Ex H' H1 → tz D σ' H1)) : tSeq (tWhile t tu) tz D σ H :=
  s_whileW (D := { D with nx := tz D }) W m0 h0 hs
/-! ### walks over a dict, which is locked meanwhile -/
theorem ex_unlock {a : Addr} {u : HO} {od : Obj} (h : H a = some u) (e : Ex (upd H a (.frz od u)) H') : Ex H (upd H' a u) := fun b o hb => by
  by_cases z : b = a
  · subst z
    rw [upd_same, ← hb, h]
  · rw [upd_ne z]
    exact e b o (by rw [upd_ne z]; exact hb)
theorem s_forDict {a : Addr} {kvs : List (Key × V)} {td : TE} {j : Nat} (hd : H a = some (.dK kvs)) (he : ∀ H1 (Q : VK), Q (.ref a) H1 → td σ H1 Q) (Pv : Obj → Nat → L2.St → Hp → Prop) (h0 : ∀ od, Pv od 0 σ (upd H a (.frz od (.dK kvs))))
    (hl : ∀ od i σ' H', Pv od i σ' H' → H' a = some (.frz od (.dK kvs)))
    (hs : ∀ od i k v σ' H', kvs[i]? = some (k, v) → Pv od i σ' H' → tu { nx := Pv od (i + 1), ct := Pv od (i + 1), bk := fun σ' H' => H' a = some (.frz od (.dK kvs)) ∧ D.nx σ' (upd H' a (.dK kvs)), rt := fun v H' => H' a = some (.frz od (.dK kvs)) ∧ D.rt v (upd H' a (.dK kvs)) } (σ'.set j (some (kV k))) H')
    (hx : ∀ od σ' H', Pv od kvs.length σ' H' → D.nx σ' (upd H' a (.dK kvs))) : tLock (tFor (iKeys td) (gName j) tu) D σ H := by
  refine ⟨a, .dK kvs, hd, trivial, fun od => he _ _ ⟨a, od, rfl, .inl ⟨kvs, upd_same, ?_⟩⟩⟩
  refine ⟨fun i m σ' H' => m = kvs.length - i ∧ i ≤ kvs.length ∧ Pv od i σ' H', ⟨kvs.length, by simp, Nat.zero_le _, h0 od⟩, ?_⟩
  rintro i m σ' H' ⟨rfl, hi, p⟩
  have q := hl od i σ' H' p
  by_cases hlt : i < kvs.length
  · refine .inr ⟨⟨q, hlt⟩, Pv od (i + 1), fun σ2 H2 p' => ⟨kvs.length - (i + 1), by omega, rfl, hlt, p'⟩, fun x H2 y => ?_⟩
    obtain ⟨rfl, k, v, hk, rfl⟩ := y
    exact hs od i k v σ' _ hk p
  · have e : i = kvs.length := by omega
    subst e
    exact .inl ⟨⟨q, Nat.le_refl _⟩, q, hx od σ' H' p⟩
theorem q_forDict {a : Addr} {kvs : List (Key × V)} {td : TE} {j : Nat} (hd : H a = some (.dK kvs)) (he : ∀ H1 (Q : VK), Q (.ref a) H1 → td σ H1 Q) (Pv : Obj → Nat → L2.St → Hp → Prop) (h0 : ∀ od, Pv od 0 σ (upd H a (.frz od (.dK kvs))))
    (hl : ∀ od i σ' H', Pv od i σ' H' → H' a = some (.frz od (.dK kvs)))
    (hs : ∀ od i k v σ' H', kvs[i]? = some (k, v) → Pv od i σ' H' → tu { nx := Pv od (i + 1), ct := Pv od (i + 1), bk := fun σ' H' => H' a = some (.frz od (.dK kvs)) ∧ tz D σ' (upd H' a (.dK kvs)), rt := fun v H' => H' a = some (.frz od (.dK kvs)) ∧ D.rt v (upd H' a (.dK kvs)) } (σ'.set j (some (kV k))) H')
    (hx : ∀ od σ' H', Pv od kvs.length σ' H' → tz D σ' (upd H' a (.dK kvs))) : tSeq (tLock (tFor (iKeys td) (gName j) tu)) tz D σ H :=
  s_forDict (D := { D with nx := tz D }) hd he Pv h0 hl hs hx
theorem he_var {i : Nat} {a : Addr} (h : σ[i]? = some (some (.ref a))) : ∀ H1 (Q : VK), Q (.ref a) H1 → tVar i σ H1 Q := fun _ _ q => ⟨_, h, q⟩
/-! ### comprehensions that make an object a turn -/
def Objs (H1 H2 : Hp) (P : Nat → HO → Prop) (ts : List Addr) : Prop := ts.Nodup ∧ ∀ k t, ts[k]? = some t → H1 t = none ∧ ∃ o, H2 t = some o ∧ P k o
theorem et_yes : EvT tYes σ H true := fun H1 _ Q q => q H1 (Ex.refl H1)
def Ow (H : Hp) (P : Nat → HO → Prop) (Dl : Addr) (i : Nat) (H' : Hp) : Prop := H Dl = none ∧ Ex H H' ∧ ∃ ts : List Addr, H' Dl = some (.lst (ts.map V.ref)) ∧ ts.length = i ∧ Dl ∉ ts ∧ Objs H H' P ts
theorem ow_turn {P : Nat → HO → Prop} {Dl : Addr} {i : Nat} {σ2 : L2.St} (p : Ow H P Dl i H') (hi : i < 50000) (he : EvR te σ2 H fun H1 y H2 => ∃ t o, y = .ref t ∧ H1 t = none ∧ H2 t = some o ∧ P i o) :
    tYes σ2 H' fun b H3 => if b = true then te σ2 H3 fun y H4 => ∃ acc, H4 Dl = some (.lst acc) ∧ acc.length < sizeLine ∧ Ow H P Dl (i + 1) (upd H4 Dl (.lst (acc ++ [y]))) else Ow H P Dl (i + 1) H3 := by
  obtain ⟨p1, p2, ts, p3, p4, p5, p6, p7⟩ := p
  show te σ2 H' fun y H4 => ∃ acc, H4 Dl = some (.lst acc) ∧ acc.length < sizeLine ∧ Ow H P Dl (i + 1) (upd H4 Dl (.lst (acc ++ [y])))
  refine he H' p2 _ fun y H4 e4 hy => ?_
  obtain ⟨t, o, rfl, ht, ho, hP⟩ := hy
  have nD : t ≠ Dl := fun z => by
    subst z
    rw [ht] at p3
    cases p3
  have nt : t ∉ ts := fun hm => by
    obtain ⟨k, hk⟩ := List.mem_iff_getElem?.mp hm
    obtain ⟨_, o', ho', _⟩ := p7 k t hk
    rw [ht] at ho'
    cases ho'
  refine ⟨_, e4 Dl _ p3, sz_lt (by rw [List.length_map]; omega), p1, Ex.mut (p2.trans e4) p1, ts ++ [t], ?_, ?_, ?_, ?_, ?_⟩
  · rw [upd_same, List.map_append]
    rfl
  · rw [List.length_append, List.length_singleton, p4]
  · intro hm
    rcases List.mem_append.mp hm with z | z
    · exact p5 z
    · exact nD (List.mem_singleton.mp z).symm
  · exact L2.nd_snoc p6 nt
  · intro k u hk
    by_cases hk2 : k < ts.length
    · rw [List.getElem?_append_left hk2] at hk
      obtain ⟨f1, o', f2, f3⟩ := p7 k u hk
      have hu : u ≠ Dl := fun z => by
        subst z
        exact p5 (List.mem_of_getElem? hk)
      exact ⟨f1, o', by rw [upd_ne hu]; exact e4 u _ f2, f3⟩
    · rw [List.getElem?_append_right (by omega)] at hk
      have hk0 : k - ts.length = 0 := by
        have := (List.getElem?_eq_some_iff.mp hk).1
        rw [List.length_singleton] at this
        omega
      rw [hk0] at hk
      have hu : t = u := Option.some.inj hk
      subst hu
      have hki : k = i := by omega
      subst hki
      exact ⟨fresh_back p2 ht, o, by rw [upd_ne nD]; exact ho, hP⟩
def LstObj (P : Nat → HO → Prop) (n : Nat) (H1 : Hp) (x : V) (H2 : Hp) : Prop := ∃ p ts, x = .ref p ∧ H1 p = none ∧ H2 p = some (.lst (ts.map V.ref)) ∧ ts.length = n ∧ p ∉ ts ∧ Objs H1 H2 P ts
theorem Ow.out {P : Nat → HO → Prop} {Dl : Addr} {i : Nat} {H1 : Hp} (p : Ow H1 P Dl i H') (e : Ex H H1) : LstObj P i H (.ref Dl) H' := by
  obtain ⟨p1, p2, ts, p3, p4, p5, p6, p7⟩ := p
  exact ⟨Dl, ts, rfl, fresh_back e p1, p3, p4, p5, p6, fun k t hk => by
    obtain ⟨f1, f2⟩ := p7 k t hk
    exact ⟨fresh_back e f1, f2⟩⟩
theorem lc_objR {ta : TA} {j : Nat} {vs : List Nat} {n : Int} (P : Nat → HO → Prop) (h : EvA ta σ H [.int n]) (hn : 0 ≤ n ∧ n ≤ 40000) (hw : ∀ x, wipe ((wipe σ vs).set j (some x)) vs = wipe σ vs)
    (he : ∀ (i : Nat) H1, Ex H H1 → (i : Int) < n → EvR te ((wipe σ vs).set j (some (.int (i : Int)))) H1 fun H1 y H2 => ∃ t o, y = .ref t ∧ H1 t = none ∧ H2 t = some o ∧ P i o) :
    EvR (tLc (iRng1 ta) (gName j) tYes te vs) σ H (LstObj P n.toNat) := fun H0 e Q q => h H0 e _ fun H1 e1 => ⟨n, rfl, by omega, by omega, fun Dl hD =>
  lc_range (lo := 0) (n := n.toNat) (Ow H1 P Dl) ⟨hD, Ex.new hD, [], upd_same, rfl, by simp, List.nodup_nil, fun k t hk => by simp at hk⟩ (fun i H' hi p => by
    have e0 : (0 : Int) + (i : Int) = (i : Int) := Int.zero_add _
    show wipe ((wipe σ vs).set j (some (.int ((0 : Int) + (i : Int))))) vs = wipe σ vs ∧ tYes ((wipe σ vs).set j (some (.int ((0 : Int) + (i : Int))))) H' fun b H3 => if b = true then te ((wipe σ vs).set j (some (.int ((0 : Int) + (i : Int))))) H3 fun y H4 => ∃ acc, H4 Dl = some (.lst acc) ∧ acc.length < sizeLine ∧ Ow H1 P Dl (i + 1) (upd H4 Dl (.lst (acc ++ [y]))) else Ow H1 P Dl (i + 1) H3
    rw [e0]
    exact ⟨hw _, ow_turn p (by omega) (he i H1 (e.trans e1) (by omega))⟩) (fun H' p => q _ H' (e1.trans p.2.1) (p.out e1))⟩
theorem lc_objL {a : Addr} {xs : List V} {tl : TE} {j : Nat} {vs : List Nat} (P : Nat → HO → Prop) (h : Ev tl σ H (.ref a)) (hx : SqL K H a xs) (hz : xs.length ≤ 40000) (hw : ∀ x, wipe ((wipe σ vs).set j (some x)) vs = wipe σ vs)
    (he : ∀ (i : Nat) (x : V) H1, Ex H H1 → xs[i]? = some x → EvR te ((wipe σ vs).set j (some x)) H1 fun H1 y H2 => ∃ t o, y = .ref t ∧ H1 t = none ∧ H2 t = some o ∧ P i o) :
    EvR (tLc (iList K tl) (gName j) tYes te vs) σ H (LstObj P xs.length) := fun H0 e Q q => h H0 e _ fun H1 e1 => ⟨a, rfl, ⟨xs, ex_l (e.trans e1) hx⟩, fun Dl hD =>
  lc_list (xs := xs) (Ow H1 P Dl) ⟨hD, Ex.new hD, [], upd_same, rfl, by simp, List.nodup_nil, fun k t hk => by simp at hk⟩ (fun i H' _ p => ex_l ((e.trans e1).trans p.2.1) hx)
    (fun i x H' hi p => ⟨hw x, ow_turn p (by have := (List.getElem?_eq_some_iff.mp hi).1; omega) (he i x H1 (e.trans e1) hi)⟩) (fun H' p => q _ H' (e1.trans p.2.1) (p.out e1))⟩
end
end U

/-! Data: rows, lists of numbers, dicts by numbers -/
namespace U
open PySem PySem.Spec PyProof.Rows L2 Evl

/-- the built-in names that the module leaves alone -/
structure Txt (mg : Str → Option Value) : Prop where
  n_len : mg "len" = none
  n_isinstance : mg "isinstance" = none
  n_int : mg "int" = none
  n_bool : mg "bool" = none
  n_str : mg "str" = none
  n_tuple : mg "tuple" = none
  n_list : mg "list" = none
  n_range : mg "range" = none
  n_sorted : mg "sorted" = none
  n_max : mg "max" = none
  n_min : mg "min" = none
  n_any : mg "any" = none
  n_all : mg "all" = none
  n_enumerate : mg "enumerate" = none

/-! ### rows -/
inductive URow where
  | add (b : Nat) (n : Int) (x : Nat)
  | more (b y x : Nat)
  deriving DecidableEq
def URow.vs : URow → List V
  | .add b n x => [.str ("add" : Str), .int b, .int n, .int x]
  | .more b y x => [.str ("more" : Str), .int b, .int y, .int x]
def URow.nx : URow → List Nat
  | .add _ _ x => [x]
  | .more _ y x => [y, x]
def URow.ok (m : Nat) : URow → Prop
  | .add b _ x => b < 4 ∧ x ≤ m
  | .more b y x => b < 4 ∧ y ≤ m ∧ x ≤ m
def RowsOk (rs : List URow) : Prop := 1 ≤ rs.length ∧ rs.length ≤ 20 ∧ ∀ r ∈ rs, r.ok rs.length
def RowAt (K : PySem.W.Frag) (H : Hp) (v : V) (r : URow) : Prop := ∃ t, v = .ref t ∧ SqT K H t r.vs
def RowsAt (K : PySem.W.Frag) (H : Hp) (a : Addr) (rs : List URow) : Prop := ∃ vs : List V, SqL K H a vs ∧ vs.length = rs.length ∧ ∀ (k : Nat) v r, vs[k]? = some v → rs[k]? = some r → RowAt K H v r
section
variable {K : PySem.W.Frag} {H H' : Hp} {a : Addr} {rs : List URow} {v : V} {r : URow}
theorem RowAt.mono (e : Ex H H') (h : RowAt K H v r) : RowAt K H' v r := by
  obtain ⟨t, h1, h2⟩ := h
  exact ⟨t, h1, ex_t e h2⟩
theorem RowsAt.mono (e : Ex H H') (h : RowsAt K H a rs) : RowsAt K H' a rs := by
  obtain ⟨vs, h1, h2, h3⟩ := h
  exact ⟨vs, ex_l e h1, h2, fun k v r hv hr => (h3 k v r hv hr).mono e⟩
theorem RowsAt.get (h : RowsAt K H a rs) {k : Nat} (hk : k < rs.length) : ∃ vs v, SqL K H a vs ∧ vs.length = rs.length ∧ vs[k]? = some v ∧ RowAt K H v rs[k] := by
  obtain ⟨vs, h1, h2, h3⟩ := h
  have hv : k < vs.length := by omega
  exact ⟨vs, vs[k], h1, h2, List.getElem?_eq_getElem hv, h3 k _ _ (List.getElem?_eq_getElem hv) (List.getElem?_eq_getElem hk)⟩
theorem RowsAt.sq (h : RowsAt K H a rs) : ∃ vs, SqL K H a vs ∧ vs.length = rs.length := by
  obtain ⟨vs, h1, h2, _⟩ := h
  exact ⟨vs, h1, h2⟩
/-- rows just made -/
def RowsP (rs : List URow) : Nat → HO → Prop := fun k o => ∃ r, rs[k]? = some r ∧ o = .tup r.vs
theorem LstObj.rows {x : V} {H1 H2 : Hp} (h : LstObj (RowsP rs) rs.length H1 x H2) : ∃ p, x = .ref p ∧ H1 p = none ∧ RowsAt K H2 p rs ∧ ∃ vs, H2 p = some (.lst vs) := by
  obtain ⟨p, ts, h1, h2, h3, h4, h5, h6, h7⟩ := h
  refine ⟨p, h1, h2, ⟨_, SqL.of h3, by rw [List.length_map, h4], fun k v r hv hr => ?_⟩, _, h3⟩
  rw [List.getElem?_map] at hv
  cases ht : ts[k]? with
  | none =>
    rw [ht] at hv
    cases hv
  | some t =>
    rw [ht] at hv
    cases hv
    obtain ⟨_, o, ho, r', hr', eo⟩ := h7 k t ht
    rw [hr] at hr'
    cases hr'
    subst eo
    exact ⟨t, rfl, SqT.of ho⟩
/-- the same rows in a new list -/
theorem RowsAt.copy {b : Addr} {vs : List V} (h : RowsAt K H a rs) (hs : SqL K H a vs) (inj : ∀ xs, SqL K H a xs → xs = vs) (e : Ex H H') (hb : H' b = some (.lst vs)) : RowsAt K H' b rs := by
  obtain ⟨ws, h1, h2, h3⟩ := h
  obtain rfl := inj ws h1
  exact ⟨ws, SqL.of hb, h2, fun k v r hv hr => (h3 k v r hv hr).mono e⟩
/-! ### a list at its place is one list -/
theorem sq_tracked {xs ys : List V} (h : H a = some (.lst xs)) (g : SqL K H a ys) (hK : K.lookup a = none) : ys = xs := by
  rcases g with (g | ⟨o, g⟩) | g
  · rw [h] at g
    cases g
    rfl
  · rw [h] at g
    cases g
  · obtain ⟨_, _, _, g1, _⟩ := g
    rw [hK] at g1
    cases g1
end

/-! ### numbers -/
abbrev nv (ns : List Nat) : List V := ns.map fun (n : Nat) => V.int ((n : Nat) : Int)
theorem nv_len (ns : List Nat) : (nv ns).length = ns.length := List.length_map _
theorem nv_get {ns : List Nat} {k : Nat} {n : Nat} (h : ns[k]? = some n) : (nv ns)[k]? = some (.int (n : Int)) := by
  rw [List.getElem?_map, h]
  rfl
theorem nv_flat (ns : List Nat) : (nv ns).all flatV = true := by
  rw [List.all_eq_true]
  intro v hv
  obtain ⟨n, _, rfl⟩ := List.mem_map.mp hv
  rfl
theorem inV_nv (n : Nat) (ns : List Nat) : inV (.int (n : Int)) (nv ns) = decide (n ∈ ns) := by
  induction ns with
  | nil => simp [inV]
  | cons m r ih =>
    have e : inV (.int (n : Int)) (nv (m :: r)) = (eqV (.int (m : Int)) (.int (n : Int)) || inV (.int (n : Int)) (nv r)) := by
      simp only [inV, List.map_cons, List.any_cons]
    rw [e, ih]
    have e2 : eqV (.int (m : Int)) (.int (n : Int)) = decide (n = m) := by
      show ((m : Int) == (n : Int)) = decide (n = m)
      rw [Bool.eq_iff_iff, beq_iff_eq, decide_eq_true_iff]
      omega
    rw [e2, Bool.eq_iff_iff, Bool.or_eq_true, decide_eq_true_iff, decide_eq_true_iff, decide_eq_true_iff, List.mem_cons]
theorem nv_app (ns : List Nat) (n : Nat) : nv (ns ++ [n]) = nv ns ++ [.int (n : Int)] := by
  show List.map _ (ns ++ [n]) = _
  rw [List.map_append]
  rfl

theorem given_filter (l : List Nat) (p : Nat → Bool) : given l.length (fun i => p (l.getD i 0)) (fun i => .int ((l.getD i 0 : Nat) : Int)) = nv (l.filter p) := by
  have e : l = (List.range l.length).map (fun i => l.getD i 0) := by
    refine List.ext_getElem? fun i => ?_
    rw [List.getElem?_map]
    by_cases h : i < l.length
    · rw [List.getElem?_range h, List.getElem?_eq_getElem h, Option.map_some, List.getD_eq_getElem?_getD, List.getElem?_eq_getElem h]
      rfl
    · rw [List.getElem?_eq_none (by omega), List.getElem?_eq_none (by rw [List.length_range]; omega)]
      rfl
  have h2 : nv (l.filter p) = nv (((List.range l.length).map (fun i => l.getD i 0)).filter p) := by rw [← e]
  rw [h2, List.filter_map]
  unfold given nv
  rw [List.map_map]
  rfl
theorem getD_get {l : List Nat} {i : Nat} (h : i < l.length) : l.getD i 0 = l[i] := by
  rw [List.getD_eq_getElem?_getD, List.getElem?_eq_getElem h]
  rfl
theorem getD_get' {l : List Nat} {i : Nat} (h : i < l.length) : Option.map (fun (n : Nat) => V.int ((n : Nat) : Int)) l[i]? = Option.map (fun (i : Nat) => V.int ((l.getD i 0 : Nat) : Int)) (some i) := by
  rw [List.getElem?_eq_getElem h, Option.map_some, Option.map_some, getD_get h]
/-! ### dicts by numbers -/
section
variable {α : Type}
def look : List (Nat × α) → Nat → Option α
  | [], _ => none
  | p :: r, k => if p.1 = k then some p.2 else look r k
def put (m : List (Nat × α)) (k : Nat) (x : α) : List (Nat × α) := if (look m k).isSome then m.map (fun p => if p.1 = k then (p.1, x) else p) else m ++ [(k, x)]
theorem look_snoc {m : List (Nat × α)} {k : Nat} {x : α} (h : look m k = none) (j : Nat) : look (m ++ [(k, x)]) j = if j = k then some x else look m j := by
  induction m with
  | nil =>
    show (if k = j then some x else none) = _
    by_cases e : j = k
    · rw [if_pos e, if_pos e.symm]
    · rw [if_neg e, if_neg (fun z => e z.symm)]
      rfl
  | cons p r ih =>
    have h1 : ¬ p.1 = k := fun z => by
      unfold look at h
      rw [if_pos z] at h
      cases h
    have h2 : look r k = none := by
      unfold look at h
      rw [if_neg h1] at h
      exact h
    show (if p.1 = j then some p.2 else look (r ++ [(k, x)]) j) = if j = k then some x else (if p.1 = j then some p.2 else look r j)
    rw [ih h2]
    by_cases e : p.1 = j
    · rw [if_pos e, if_pos e, if_neg (fun z => h1 (e.trans z))]
    · rw [if_neg e, if_neg e]
theorem look_map {m : List (Nat × α)} {k : Nat} {x : α} (j : Nat) : look (m.map fun p => if p.1 = k then (p.1, x) else p) j = (look m j).map fun y => if j = k then x else y := by
  induction m with
  | nil => rfl
  | cons p r ih =>
    rw [List.map_cons]
    by_cases h : p.1 = k
    · rw [if_pos h]
      show (if p.1 = j then some x else _) = ((if p.1 = j then some p.2 else look r j) : Option α).map _
      by_cases e : p.1 = j
      · rw [if_pos e, if_pos e, Option.map_some, if_pos (e.symm.trans h)]
      · rw [if_neg e, if_neg e, ih]
    · rw [if_neg h]
      show (if p.1 = j then some p.2 else _) = ((if p.1 = j then some p.2 else look r j) : Option α).map _
      by_cases e : p.1 = j
      · rw [if_pos e, if_pos e, Option.map_some, if_neg (fun z => h (e.trans z))]
      · rw [if_neg e, if_neg e, ih]
theorem look_put (m : List (Nat × α)) (k j : Nat) (x : α) : look (put m k x) j = if j = k then some x else look m j := by
  unfold put
  by_cases h : (look m k).isSome = true
  · rw [if_pos h, look_map]
    by_cases e : j = k
    · subst e
      obtain ⟨y, hy⟩ := Option.isSome_iff_exists.mp h
      rw [hy, if_pos rfl, Option.map_some, if_pos rfl]
    · rw [if_neg e]
      cases look m j with
      | none => rfl
      | some y =>
        rw [Option.map_some, if_neg e]
  · rw [if_neg h]
    exact look_snoc (by
      cases q : look m k with
      | none => rfl
      | some y =>
        rw [q] at h
        exact absurd rfl h) j
theorem put_new {m : List (Nat × α)} {k : Nat} {x : α} (h : look m k = none) : put m k x = m ++ [(k, x)] := by
  unfold put
  rw [h, if_neg (by simp)]
theorem look_none_iff {m : List (Nat × α)} {k : Nat} : look m k = none ↔ k ∉ m.map (·.1) := by
  induction m with
  | nil => exact ⟨fun _ h => (by cases h), fun _ => rfl⟩
  | cons p r ih =>
    show (if p.1 = k then some p.2 else look r k) = none ↔ _
    rw [List.map_cons, List.mem_cons]
    by_cases e : p.1 = k
    · rw [if_pos e]
      exact ⟨fun h => (by cases h), fun h => absurd (Or.inl e.symm) h⟩
    · rw [if_neg e, ih]
      exact ⟨fun h z => h (z.resolve_left fun q => e q.symm), fun h z => h (Or.inr z)⟩
theorem look_some_mem {m : List (Nat × α)} {k : Nat} {x : α} (h : look m k = some x) : (k, x) ∈ m := by
  induction m with
  | nil => cases h
  | cons p r ih =>
    have h : (if p.1 = k then some p.2 else look r k) = some x := h
    by_cases e : p.1 = k
    · rw [if_pos e] at h
      cases h
      subst e
      exact List.mem_cons_self
    · rw [if_neg e] at h
      exact List.mem_cons_of_mem _ (ih h)
theorem look_of_mem {m : List (Nat × α)} {k : Nat} {x : α} (hn : (m.map (·.1)).Nodup) (h : (k, x) ∈ m) : look m k = some x := by
  induction m with
  | nil => cases h
  | cons p r ih =>
    rw [List.map_cons] at hn
    obtain ⟨h1, h2⟩ := List.nodup_cons.mp hn
    show (if p.1 = k then some p.2 else look r k) = some x
    rcases List.mem_cons.mp h with e | e
    · rw [← e, if_pos rfl]
    · rw [if_neg (fun z => h1 (by rw [z]; exact List.mem_map.mpr ⟨_, e, rfl⟩))]
      exact ih h2 e
theorem look_isSome {m : List (Nat × α)} {k : Nat} : (look m k).isSome = decide (k ∈ m.map (·.1)) := by
  cases h : look m k with
  | none =>
    rw [decide_eq_false (look_none_iff.mp h)]
    rfl
  | some y =>
    rw [decide_eq_true (List.mem_map.mpr ⟨_, look_some_mem h, rfl⟩)]
    rfl
theorem put_keys_nodup {m : List (Nat × α)} {k : Nat} {x : α} (h : (m.map (·.1)).Nodup) : ((put m k x).map (·.1)).Nodup := by
  unfold put
  by_cases e : (look m k).isSome = true
  · rw [if_pos e, List.map_map]
    have : ((fun p : Nat × α => p.1) ∘ fun p => if p.1 = k then (p.1, x) else p) = fun p => p.1 := by
      funext p
      show (if p.1 = k then (p.1, x) else p).1 = p.1
      by_cases q : p.1 = k
      · rw [if_pos q]
      · rw [if_neg q]
    rw [this]
    exact h
  · rw [if_neg e, List.map_append]
    refine L2.nd_snoc h fun hm => e ?_
    rw [look_isSome]
    exact decide_eq_true hm
/-- as pairs of the layer -/
def dk (f : α → V) (m : List (Nat × α)) : List (Key × V) := m.map fun p => (Sum.inl (p.1 : Int), f p.2)
theorem dk_len (f : α → V) (m : List (Nat × α)) : (dk f m).length = m.length := List.length_map _
theorem dk_key {a b : Nat} : ((Sum.inl (a : Int) : Key) = Sum.inl (b : Int)) ↔ a = b := by
  constructor
  · intro h
    have := Sum.inl.inj h
    omega
  · intro h
    rw [h]
theorem valV_dk (f : α → V) (m : List (Nat × α)) (k : Nat) : valV (dk f m) (Sum.inl (k : Int)) = (look m k).map f := by
  induction m with
  | nil => rfl
  | cons p r ih =>
    show valV ((Sum.inl (p.1 : Int), f p.2) :: dk f r) _ = ((if p.1 = k then some p.2 else look r k) : Option α).map f
    by_cases e : p.1 = k
    · rw [if_pos e, valV_pos (p := (Sum.inl (p.1 : Int), f p.2)) (dk_key.mpr e), Option.map_some]
    · rw [if_neg e, valV_neg (p := (Sum.inl (p.1 : Int), f p.2)) (fun z => e (dk_key.mp z)), ih]
theorem putK_dk (f : α → V) (m : List (Nat × α)) (k : Nat) (x : α) : putK (dk f m) (Sum.inl (k : Int)) (f x) = dk f (put m k x) := by
  unfold putK put
  rw [valV_any, valV_dk, Option.isSome_map]
  by_cases h : (look m k).isSome = true
  · rw [if_pos h, if_pos h]
    unfold dk
    rw [List.map_map, List.map_map]
    refine List.map_congr_left fun p _ => ?_
    show (if (Sum.inl (p.1 : Int) : Key) = Sum.inl (k : Int) then ((Sum.inl (p.1 : Int) : Key), f x) else (Sum.inl (p.1 : Int), f p.2)) = (Sum.inl ((if p.1 = k then (p.1, x) else p).1 : Int), f (if p.1 = k then (p.1, x) else p).2)
    by_cases e : p.1 = k
    · rw [if_pos e, if_pos (dk_key.mpr e)]
    · rw [if_neg e, if_neg (fun z => e (dk_key.mp z))]
  · rw [if_neg h, if_neg h]
    unfold dk
    rw [List.map_append]
    rfl
theorem dk_keys (f : α → V) (m : List (Nat × α)) : ((dk f m).map fun kv => kV kv.1) = nv (m.map (·.1)) := by
  unfold dk nv
  rw [List.map_map, List.map_map]
  rfl
end
end U

/-! What the law's own helpers and the defs of rows.py tell: plain functions and promises -/
namespace U
open PySem PySem.Spec PyProof.Rows L2 Evl

/-! ### cells -/
def cellAt (ns : List Int) (k : Nat) : Int := ns.getD k 0
abbrev LB : Nat := 1048576
def Bits (ns : List Int) : Prop := ∀ z ∈ ns, Builtin.Int.intBits z ≤ LB
theorem bits_mono {a b : Int} (h : a.natAbs ≤ b.natAbs) : Builtin.Int.intBits a ≤ Builtin.Int.intBits b := by
  unfold Builtin.Int.intBits
  by_cases ha : a = 0
  · subst ha
    exact Nat.zero_le _
  · have hb : b ≠ 0 := by omega
    rw [if_neg (by simpa using ha), if_neg (by simpa using hb)]
    have h1 : a.natAbs.log2 ≤ b.natAbs.log2 := by
      rw [Nat.le_log2 (by omega)]
      exact Nat.le_trans (Nat.log2_self_le (by omega)) h
    omega
theorem bits_div {a : Int} {d : Int} (h : 0 < d) : Builtin.Int.intBits (a / d) ≤ Builtin.Int.intBits a := by
  refine bits_mono ?_
  by_cases h1 : 0 ≤ a
  · have h2 : 0 ≤ a / d := Int.ediv_nonneg h1 (by omega)
    have h3 : a / d ≤ a := Int.ediv_le_self d h1
    omega
  · have h2 : a / d < 0 := Int.ediv_neg_of_neg_of_pos (by omega) h
    have h3 : a ≤ a / d := by
      have q := Int.le_ediv_iff_mul_le (a := a) (b := a) h
      rw [q]
      have : a * d ≤ a * 1 := Int.mul_le_mul_of_nonpos_left (by omega) (by omega)
      omega
    omega
theorem bits_cell {ns : List Int} (h : Bits ns) (k : Nat) : Builtin.Int.intBits (cellAt ns k) ≤ LB := by
  unfold cellAt
  rw [List.getD_eq_getElem?_getD]
  cases e : ns[k]? with
  | none => exact Nat.zero_le _
  | some z => exact h z (List.mem_of_getElem? e)
def spCellU (K : PySem.W.Frag) : Sp := FSp (G := Addr × List Int × Nat) (fun g vs H => vs = [.ref g.1, .int (g.2.2 : Int)] ∧ SqL K H g.1 (g.2.1.map V.int)) (fun g _ v _ => v = .int (cellAt g.2.1 g.2.2))

/-! ### numbers -/
def numBy (c : Int) : Int := if c % 9 = 4 then c * (10 ^ 59 + 7) % 10 ^ 60 * (1 - 2 * (c / 9 % 2)) else c / 9 % 9 - 4
def spNum : Sp := FSp (G := Int) (fun c vs _ => vs = [.int c] ∧ Builtin.Int.intBits c ≤ LB) (fun c _ v _ => v = .int (numBy c))
def nearN (k : Nat) (m : Int) (many : Nat) : Nat := if m % 5 = 0 then ((k : Int) - m / 5 % 4).toNat else (min (many : Int) ((k : Int) + 1 + m / 5 % 3)).toNat
def spNear : Sp := FSp (G := Nat × Int × Nat) (fun g vs _ => vs = [.int (g.1 : Int), .int g.2.1, .int (g.2.2 : Int)]) (fun g _ v _ => v = .int (nearN g.1 g.2.1 g.2.2 : Nat))
theorem nearN_le {k : Nat} {m : Int} {many : Nat} (h : k < many) : nearN k m many ≤ many := by
  unfold nearN
  have h1 : 0 ≤ m / 5 % 4 := Int.emod_nonneg _ (by decide)
  split <;> omega

/-! ### rows -/
def mixBy (c : Int) (k : Nat) : Int := (c * 48271 + 7919 * (k : Int)) % 1000003
theorem mix_nonneg (c : Int) (k : Nat) : 0 ≤ mixBy c k := Int.emod_nonneg _ (by decide)
def rowBy (c : Int) (k many : Nat) : URow :=
  let m := mixBy c k
  let y := if many > 6 then nearN k (m / 12) many else (m / 12 % ((many : Int) + 1)).toNat
  let x := if many > 6 then nearN k (m / 240) many else (m / 12 / ((many : Int) + 1) % ((many : Int) + 1)).toNat
  if m % 3 = 0 then .add (m / 3 % 4).toNat (numBy (c / 3)) y else .more (m / 3 % 4).toNat y x
def TupNew (xs : List V) (H1 : Hp) (v : V) (H2 : Hp) : Prop := ∃ t, v = .ref t ∧ H1 t = none ∧ H2 t = some (.tup xs)
theorem TupNew.back {xs : List V} (H1 H2 H3 : Hp) (v : V) (e : Ex H1 H2) (h : TupNew xs H2 v H3) : TupNew xs H1 v H3 := by
  obtain ⟨t, h1, h2, h3⟩ := h
  exact ⟨t, h1, fresh_back e h2, h3⟩
def spRow : Sp := FSp (G := Int × Nat × Nat) (fun g vs _ => vs = [.int g.1, .int (g.2.1 : Int), .int (g.2.2 : Int)] ∧ Builtin.Int.intBits g.1 ≤ LB ∧ g.2.1 < g.2.2 ∧ g.2.2 ≤ 20) (fun g H1 v H2 => TupNew (rowBy g.1 g.2.1 g.2.2).vs H1 v H2)
theorem rowBy_ok {c : Int} {k many : Nat} (h : k < many) : (rowBy c k many).ok many := by
  have b1 : (mixBy c k / 3 % 4).toNat < 4 := by
    have h1 : mixBy c k / 3 % 4 < 4 := Int.emod_lt_of_pos _ (by decide)
    omega
  have hy : (if many > 6 then nearN k (mixBy c k / 12) many else (mixBy c k / 12 % ((many : Int) + 1)).toNat) ≤ many := by
    split
    · exact nearN_le h
    · have h1 : mixBy c k / 12 % ((many : Int) + 1) < (many : Int) + 1 := Int.emod_lt_of_pos _ (by omega)
      omega
  have hx : (if many > 6 then nearN k (mixBy c k / 240) many else (mixBy c k / 12 / ((many : Int) + 1) % ((many : Int) + 1)).toNat) ≤ many := by
    split
    · exact nearN_le h
    · have h1 : mixBy c k / 12 / ((many : Int) + 1) % ((many : Int) + 1) < (many : Int) + 1 := Int.emod_lt_of_pos _ (by omega)
      omega
  unfold rowBy
  by_cases h0 : mixBy c k % 3 = 0
  · simp only [if_pos h0]
    exact ⟨b1, hy⟩
  · simp only [if_neg h0]
    exact ⟨b1, hy, hx⟩
def manyBy (ns : List Int) : Nat := if cellAt ns 1 % 4 = 1 then (7 + cellAt ns 0 % 14).toNat else (1 + cellAt ns 0 % 6).toNat
theorem manyBy_le (ns : List Int) : 1 ≤ manyBy ns ∧ manyBy ns ≤ 20 := by
  unfold manyBy
  have h1 : 0 ≤ cellAt ns 0 % 14 := Int.emod_nonneg _ (by decide)
  have h2 : cellAt ns 0 % 14 < 14 := Int.emod_lt_of_pos _ (by decide)
  have h3 : 0 ≤ cellAt ns 0 % 6 := Int.emod_nonneg _ (by decide)
  have h4 : cellAt ns 0 % 6 < 6 := Int.emod_lt_of_pos _ (by decide)
  split <;> omega
def rowsBy (ns : List Int) : List URow := (List.range (manyBy ns)).map fun k => rowBy (cellAt ns (8 + k)) k (manyBy ns)
theorem rowsBy_len (ns : List Int) : (rowsBy ns).length = manyBy ns := by
  unfold rowsBy
  rw [List.length_map, List.length_range]
theorem rowsBy_ok (ns : List Int) : RowsOk (rowsBy ns) := by
  have h := manyBy_le ns
  refine ⟨by rw [rowsBy_len]; exact h.1, by rw [rowsBy_len]; exact h.2, fun r hr => ?_⟩
  rw [rowsBy_len]
  obtain ⟨k, hk, rfl⟩ := List.mem_map.mp hr
  exact rowBy_ok (List.mem_range.mp hk)
def spScr (K : PySem.W.Frag) (R : List Int → Hp → V → Hp → Prop) : Sp := FSp (G := Addr × List Int) (fun g vs H => vs = [.ref g.1] ∧ SqL K H g.1 (g.2.map V.int) ∧ Bits g.2) (fun g H1 v H2 => R g.2 H1 v H2)
def spRows (K : PySem.W.Frag) : Sp := spScr K fun ns H1 v H2 => LstObj (RowsP (rowsBy ns)) (rowsBy ns).length H1 v H2
def LstNew (xs : List V) (H1 : Hp) (v : V) (H2 : Hp) : Prop := ∃ t, v = .ref t ∧ H1 t = none ∧ H2 t = some (.lst xs)
theorem LstNew.back {xs : List V} (H1 H2 H3 : Hp) (v : V) (e : Ex H1 H2) (h : LstNew xs H2 v H3) : LstNew xs H1 v H3 := by
  obtain ⟨t, h1, h2, h3⟩ := h
  exact ⟨t, h1, fresh_back e h2, h3⟩
theorem LstObj.back {P : Nat → HO → Prop} {n : Nat} (H1 H2 H3 : Hp) (v : V) (e : Ex H1 H2) (h : LstObj P n H2 v H3) : LstObj P n H1 v H3 := by
  obtain ⟨p, ts, h1, h2, h3, h4, h5, h6, h7⟩ := h
  exact ⟨p, ts, h1, fresh_back e h2, h3, h4, h5, h6, fun k t hk => ⟨fresh_back e (h7 k t hk).1, (h7 k t hk).2⟩⟩
def boxesBy (ns : List Int) : List Int := (List.range 4).map fun k => numBy (cellAt ns (3 + k))
def spBoxes (K : PySem.W.Frag) : Sp := spScr K fun ns H1 v H2 => LstNew ((boxesBy ns).map V.int) H1 v H2

/-! ### comparisons -/
def spInts (K : PySem.W.Frag) : Sp := FSp (G := Addr × Addr × List Int × List Int) (fun g vs H => vs = [.ref g.1, .ref g.2.1] ∧ H g.1 = some (.lst (g.2.2.1.map V.int)) ∧ SqL K H g.2.1 (g.2.2.2.map V.int) ∧ g.2.2.2.length ≤ 40000) (fun g _ v _ => v = .bl (decide (g.2.2.1 = g.2.2.2)))

/-! ### rows.py -/
def spWhole : Sp := FSp (G := Int) (fun i vs _ => vs = [.int i]) (fun _ _ v _ => v = .bl true)
def spGood (K : PySem.W.Frag) : Sp := FSp (G := Addr × URow × Nat) (fun g vs H => vs = [.ref g.1, .int (g.2.2 : Int)] ∧ SqT K H g.1 g.2.1.vs ∧ g.2.1.ok g.2.2) (fun _ _ v _ => v = .bl true)
def spNeed (K : PySem.W.Frag) : Sp := FSp (G := Addr × List URow) (fun g vs H => vs = [.ref g.1] ∧ RowsAt K H g.1 g.2 ∧ RowsOk g.2) (fun _ _ v _ => v = .non)
def spNexts (K : PySem.W.Frag) : Sp := FSp (G := Addr × URow) (fun g vs H => vs = [.ref g.1] ∧ SqT K H g.1 g.2.vs) (fun g H1 v H2 => LstNew (nv g.2.nx) H1 v H2)
/-- what a row does with the boxes, and what comes behind it -/
def behindF (r : URow) (bx : List Int) : List Int × Nat := match r with
  | .add b n x => (bx.set b (bx.getD b 0 + n), x)
  | .more b y x => (bx, if bx.getD b 0 > 0 then y else x)
/-- behind changes the list that it is handed -/
def spBehind (K : PySem.W.Frag) : Sp := fun vs H Q _ => ∃ (t l : Addr) (r : URow) (m : Nat) (bx : List Int), vs = [.ref t, .ref l] ∧ SqT K H t r.vs ∧ r.ok m ∧ H l = some (.lst (bx.map V.int)) ∧ bx.length = 4 ∧
  ∀ H', (∀ a o, a ≠ l → H a = some o → H' a = some o) → H' l = some (.lst ((behindF r bx).1.map V.int)) → Q (.int ((behindF r bx).2 : Int)) H'
/-- the rows gone along: so many steps at most; the boxes, the place, the trail -/
def goRows (rs : List URow) : Nat → List Int → Nat → List Int × Nat × List Nat
  | 0, bx, p => (bx, p, [])
  | n + 1, bx, p => match rs[p]? with
    | none => (bx, p, [])
    | some r => let q := goRows rs n (behindF r bx).1 (behindF r bx).2; (q.1, q.2.1, p :: q.2.2)
theorem goRows_some {rs : List URow} {p : Nat} {r : URow} (h : rs[p]? = some r) (n : Nat) (bx : List Int) :
    goRows rs (n + 1) bx p = ((goRows rs n (behindF r bx).1 (behindF r bx).2).1, (goRows rs n (behindF r bx).1 (behindF r bx).2).2.1, p :: (goRows rs n (behindF r bx).1 (behindF r bx).2).2.2) := by
  rw [goRows.eq_2, h]
theorem goRows_none {rs : List URow} {p : Nat} (h : rs[p]? = none) (n : Nat) (bx : List Int) : goRows rs n bx p = (bx, p, []) := by
  cases n with
  | zero => rfl
  | succ n => rw [goRows.eq_2, h]
theorem behindF_len (r : URow) (bx : List Int) : (behindF r bx).1.length = bx.length := by
  cases r <;> simp [behindF]
theorem behindF_le {r : URow} {m : Nat} (h : r.ok m) (bx : List Int) : (behindF r bx).2 ≤ m := by
  cases r with
  | add b n x => exact h.2
  | more b y x =>
    show (if bx.getD b 0 > 0 then y else x) ≤ m
    split
    · exact h.2.1
    · exact h.2.2
theorem goRows_len (rs : List URow) : ∀ (n : Nat) (bx : List Int) (p : Nat), (goRows rs n bx p).1.length = bx.length
  | 0, _, _ => rfl
  | n + 1, bx, p => by
    unfold goRows
    cases rs[p]? with
    | none => rfl
    | some r =>
      show (goRows rs n _ _).1.length = _
      rw [goRows_len rs n, behindF_len]
theorem goRows_trail (rs : List URow) : ∀ (n : Nat) (bx : List Int) (p : Nat), (goRows rs n bx p).2.2.length ≤ n
  | 0, _, _ => Nat.le_refl 0
  | n + 1, bx, p => by
    unfold goRows
    cases rs[p]? with
    | none => exact Nat.zero_le _
    | some r =>
      show (p :: (goRows rs n _ _).2.2).length ≤ _
      have := goRows_trail rs n (behindF r bx).1 (behindF r bx).2
      rw [List.length_cons]
      omega
theorem goRows_le {rs : List URow} (hr : RowsOk rs) : ∀ (n : Nat) (bx : List Int) (p : Nat), p ≤ rs.length → (goRows rs n bx p).2.1 ≤ rs.length
  | 0, _, _, h => h
  | n + 1, bx, p, h => by
    unfold goRows
    cases e : rs[p]? with
    | none => exact h
    | some r => exact goRows_le hr n _ _ (behindF_le (hr.2.2 r (List.mem_of_getElem? e)) bx)
def spRun (K : PySem.W.Frag) : Sp := FSp (G := Addr × Addr × List URow × List Int × Nat) (fun g vs H => vs = [.ref g.1, .ref g.2.1, .int (g.2.2.2.2 : Int)] ∧ RowsAt K H g.1 g.2.2.1 ∧ RowsOk g.2.2.1 ∧ SqL K H g.2.1 (g.2.2.2.1.map V.int) ∧ g.2.2.2.1.length = 4 ∧ g.2.2.2.2 ≤ 100)
  (fun g H1 v H2 => let q := goRows g.2.2.1 g.2.2.2.2 g.2.2.2.1 0; ∃ t l, v = .ref t ∧ H1 l = none ∧ H2 l = some (.lst (q.1.map V.int)) ∧ H2 t = some (.tup [.ref l, .int (q.2.2.length : Nat), .bl (decide (q.2.1 = g.2.2.1.length))]))
def spLawRun (K : PySem.W.Frag) : Sp := FSp (G := Addr × Addr × List URow × List Int × Nat) (fun g vs H => vs = [.ref g.1, .ref g.2.1, .int (g.2.2.2.2 : Int)] ∧ RowsAt K H g.1 g.2.2.1 ∧ RowsOk g.2.2.1 ∧ SqL K H g.2.1 (g.2.2.2.1.map V.int) ∧ g.2.2.2.1.length = 4 ∧ g.2.2.2.2 ≤ 100)
  (fun g H1 v H2 => let q := goRows g.2.2.1 g.2.2.2.2 g.2.2.2.1 0; ∃ t l m, v = .ref t ∧ H1 t = none ∧ H1 l = none ∧ H1 m = none ∧ H2 l = some (.lst (q.1.map V.int)) ∧ H2 m = some (.lst (nv q.2.2)) ∧ H2 t = some (.lst [.ref l, .int (q.2.2.length : Nat), .bl (decide (q.2.1 = g.2.2.1.length)), .ref m]))
/-- _law_ended(found, due): found (a tuple of a list, a number, a truth), due (a list that begins with a list, a number, a truth) -/
def spEnded (K : PySem.W.Frag) : Sp := FSp (G := (Addr × Addr × List Int × Int × Bool) × (Addr × Addr × List Int × Int × Bool × List V))
  (fun g vs H => vs = [.ref g.1.1, .ref g.2.1] ∧ H g.1.1 = some (.tup [.ref g.1.2.1, .int g.1.2.2.2.1, .bl g.1.2.2.2.2]) ∧ H g.1.2.1 = some (.lst (g.1.2.2.1.map V.int)) ∧
    SqL K H g.2.1 ([.ref g.2.2.1, .int g.2.2.2.2.1, .bl g.2.2.2.2.2.1] ++ g.2.2.2.2.2.2) ∧ SqL K H g.2.2.1 (g.2.2.2.1.map V.int) ∧ g.2.2.2.1.length ≤ 40000)
  (fun g _ v _ => v = .bl (decide (g.1.2.2.1 = g.2.2.2.1) && (decide (g.1.2.2.2.1 = g.2.2.2.2.1) && decide (g.1.2.2.2.2 = g.2.2.2.2.2.1))))
end U

/-! Data compared as a whole; displays of parts just made -/
namespace U
open PySem PySem.Spec PyProof.Rows L2 Evl

def URow.pd : URow → PyData
  | .add b n x => .tuple [.str ("add" : Str), .int b, .int n, .int x]
  | .more b y x => .tuple [.str ("more" : Str), .int b, .int y, .int x]
theorem pd_lay (rs : List URow) : PyData.canLayAll0 (rs.map URow.pd) = true := by
  induction rs with
  | nil => simp [PyData.canLayAll0]
  | cons r t ih =>
    rw [List.map_cons]
    have h1 : PyData.strOk ("add" : Str) = true := by decide +kernel
    have h2 : PyData.strOk ("more" : Str) = true := by decide +kernel
    cases r
    · simp only [PyData.canLayAll0, PyData.canLay0, URow.pd, ih, h1, Bool.and_self]
    · simp only [PyData.canLayAll0, PyData.canLay0, URow.pd, ih, h2, Bool.and_self]
theorem pd_depth (rs : List URow) : PyData.depthAll (rs.map URow.pd) ≤ 1 := by
  induction rs with
  | nil => simp [PyData.depthAll]
  | cons r t ih =>
    rw [List.map_cons]
    cases r <;> simp [PyData.depthAll, PyData.depth, URow.pd] <;> omega
theorem shaped_rows (rs : List URow) : SeqAt.shaped (.list (rs.map URow.pd)) = true := by
  unfold SeqAt.shaped
  rw [Bool.and_eq_true]
  refine ⟨by simp only [PyData.canLay0]; exact pd_lay rs, decide_eq_true ?_⟩
  have := pd_depth rs
  simp only [PyData.depth]
  omega
theorem shaped_intsU (ns : List Int) : SeqAt.shaped (.list (ns.map PyData.int)) = true := by
  have h1 : PyData.canLayAll0 (ns.map PyData.int) = true := by
    induction ns with
    | nil => simp [PyData.canLayAll0]
    | cons n t ih => simp [PyData.canLayAll0, PyData.canLay0, ih]
  have h2 : PyData.depthAll (ns.map PyData.int) = 0 := by
    induction ns with
    | nil => simp [PyData.depthAll]
    | cons n t ih =>
      rw [List.map_cons] at h1 ⊢
      simp only [PyData.canLayAll0, PyData.canLay0, Bool.true_and] at h1
      simp [PyData.depthAll, PyData.depth, ih h1]
  unfold SeqAt.shaped
  rw [Bool.and_eq_true]
  refine ⟨by simp only [PyData.canLay0]; exact h1, decide_eq_true ?_⟩
  simp only [PyData.depth, h2]
  omega
section
variable {K : PySem.W.Frag} {H H' : Hp} {σ : L2.St} {ta tb : TE} {x y : V}
theorem dp_ints {xs : List Int} : DpAll K H (xs.map V.int) (xs.map PyData.int) := by
  induction xs with
  | nil => exact .nil
  | cons n t ih => exact .cons (.int n) ih
theorem dp_row {v : V} {r : URow} (h : RowAt K H v r) : Dp K H v r.pd := by
  obtain ⟨t, rfl, ht⟩ := h
  cases r with
  | add b n x => exact .tup ht (.cons (.str _) (.cons (.int _) (.cons (.int _) (.cons (.int _) .nil))))
  | more b y x => exact .tup ht (.cons (.str _) (.cons (.int _) (.cons (.int _) (.cons (.int _) .nil))))
theorem dp_rowsL : ∀ {vs : List V} {rs : List URow}, vs.length = rs.length → (∀ (k : Nat) v r, vs[k]? = some v → rs[k]? = some r → RowAt K H v r) → DpAll K H vs (rs.map URow.pd)
  | [], [], _, _ => .nil
  | [], _ :: _, h, _ => by cases h
  | _ :: _, [], h, _ => by cases h
  | v :: vs, r :: rs, h, f => .cons (dp_row (f 0 v r rfl rfl)) (dp_rowsL (Nat.succ.inj h) fun k w q h1 h2 => f (k + 1) w q h1 h2)
theorem RowsAt.dp {a : Addr} {rs : List URow} (h : RowsAt K H a rs) : Dp K H (.ref a) (.list (rs.map URow.pd)) := by
  obtain ⟨vs, h1, h2, h3⟩ := h
  exact .lst h1 (dp_rowsL h2 h3)
theorem dp_lst {a : Addr} {xs : List Int} (h : SqL K H a (xs.map V.int)) : Dp K H (.ref a) (.list (xs.map PyData.int)) := .lst h dp_ints
theorem rv_eqD {d e : PyData} (hd : ∀ H1, Ex H H1 → Dp K H1 x d) (he : ∀ H1, Ex H H1 → Dp K H1 y e) (sd : SeqAt.shaped d = true) (se : SeqAt.shaped e = true) : RV (rEqD K) x y H (.bl (PyData.eqv d e)) :=
  rv_val fun H1 e1 Q q => ⟨d, e, hd H1 e1, he H1 e1, sd, se, q⟩
theorem rv_neD {d e : PyData} (hd : ∀ H1, Ex H H1 → Dp K H1 x d) (he : ∀ H1, Ex H H1 → Dp K H1 y e) (sd : SeqAt.shaped d = true) (se : SeqAt.shaped e = true) : RV (rNeD K) x y H (.bl (!PyData.eqv d e)) :=
  rv_val fun H1 e1 Q q => ⟨d, e, hd H1 e1, he H1 e1, sd, se, q⟩
theorem eqv_rows (rs : List URow) : PyData.eqv (.list (rs.map URow.pd)) (.list (rs.map URow.pd)) = true := SeqAt.eqv_refl _ (SeqAt.canLay_of_shaped (shaped_rows rs))
theorem eqv_intsU (xs : List Int) : PyData.eqv (.list (xs.map PyData.int)) (.list (xs.map PyData.int)) = true := SeqAt.eqv_refl _ (SeqAt.canLay_of_shaped (shaped_intsU xs))
/-- two lists of the same rows -/
theorem ev_eqRows {a b : Addr} {rs : List URow} (ha : Ev ta σ H (.ref a)) (hb : Ev tb σ H (.ref b)) (h1 : RowsAt K H a rs) (h2 : RowsAt K H b rs) : Ev (tOp (rEqD K) ta tb) σ H (.bl true) := by
  have q := ev_op ha hb (rv_eqD (fun H1 e => (h1.mono e).dp) (fun H1 e => (h2.mono e).dp) (shaped_rows rs) (shaped_rows rs))
  rw [eqv_rows] at q
  exact q
theorem ev_neRows {a b : Addr} {rs : List URow} (ha : Ev ta σ H (.ref a)) (hb : Ev tb σ H (.ref b)) (h1 : RowsAt K H a rs) (h2 : RowsAt K H b rs) : Ev (tOp (rNeD K) ta tb) σ H (.bl false) := by
  have q := ev_op ha hb (rv_neD (fun H1 e => (h1.mono e).dp) (fun H1 e => (h2.mono e).dp) (shaped_rows rs) (shaped_rows rs))
  rw [eqv_rows] at q
  exact q
theorem ev_eqInts {a b : Addr} {xs : List Int} (ha : Ev ta σ H (.ref a)) (hb : Ev tb σ H (.ref b)) (h1 : SqL K H a (xs.map V.int)) (h2 : SqL K H b (xs.map V.int)) : Ev (tOp (rEqD K) ta tb) σ H (.bl true) := by
  have q := ev_op ha hb (rv_eqD (fun H1 e => dp_lst (ex_l e h1)) (fun H1 e => dp_lst (ex_l e h2)) (shaped_intsU xs) (shaped_intsU xs))
  rw [eqv_intsU] at q
  exact q
theorem ev_neInts {a b : Addr} {xs : List Int} (ha : Ev ta σ H (.ref a)) (hb : Ev tb σ H (.ref b)) (h1 : SqL K H a (xs.map V.int)) (h2 : SqL K H b (xs.map V.int)) : Ev (tOp (rNeD K) ta tb) σ H (.bl false) := by
  have q := ev_op ha hb (rv_neD (fun H1 e => dp_lst (ex_l e h1)) (fun H1 e => dp_lst (ex_l e h2)) (shaped_intsU xs) (shaped_intsU xs))
  rw [eqv_intsU] at q
  exact q

/-! ### displays of what is just made -/
def Disp (R : List V → Hp → Prop) (mk : List V → HO) (H1 : Hp) (x : V) (H2 : Hp) : Prop := ∃ p vs H', x = .ref p ∧ H1 p = none ∧ Ex H1 H' ∧ R vs H' ∧ H' p = none ∧ Ex H' H2 ∧ H2 p = some (mk vs)
theorem er_lst {ta : TA} {R : List V → Hp → Prop} (h : EvAR ta σ H R) (hl : ∀ vs H1, R vs H1 → vs.length ≤ 100000) : EvR (tLst ta) σ H (Disp R .lst) := fun H1 e Q q =>
  h H1 e _ fun vs H2 e2 r => ⟨sz_of (hl vs H2 r), fun p hp => q _ _ (e2.trans (Ex.new hp)) ⟨p, vs, H2, rfl, fresh_back e2 hp, e2, r, hp, Ex.new hp, upd_same⟩⟩
theorem er_tup {ta : TA} {R : List V → Hp → Prop} (h : EvAR ta σ H R) (hl : ∀ vs H1, R vs H1 → vs.length ≤ 100000) : EvR (tTup ta) σ H (Disp R .tup) := fun H1 e Q q =>
  h H1 e _ fun vs H2 e2 r => ⟨sz_of (hl vs H2 r), fun p hp => q _ _ (e2.trans (Ex.new hp)) ⟨p, vs, H2, rfl, fresh_back e2 hp, e2, r, hp, Ex.new hp, upd_same⟩⟩
/-- list(x), x a list: the same items in a new list -/
theorem el_listS {a : Addr} {xs : List V} (ha : Ev ta σ H (.ref a)) (h : SqL K H a xs) : EvL (tCB (rListS K) (tCons ta tNil)) σ H xs := el_list ha h
/-- behind, handed a row and the boxes -/
theorem s_behind {D : Ends} {E : XK} {i : Nat} {t l : Addr} {r : URow} {m : Nat} {bx : List Int} (h1 : Ev ta σ H (.ref t)) (h2 : Ev tb σ H (.ref l)) (ht : SqT K H t r.vs) (hr : r.ok m) (hl : H l = some (.lst (bx.map V.int))) (h4 : bx.length = 4)
    (k : ∀ H', (∀ a o, a ≠ l → H a = some o → H' a = some o) → H' l = some (.lst ((behindF r bx).1.map V.int)) → D.nx (σ.set i (some (.int ((behindF r bx).2 : Int)))) H') : tAsg (tCall (spBehind K) [] E (tCons ta (tCons tb tNil))) (gName i) D σ H :=
  h1 H (Ex.refl H) _ fun H1 e1 => h2 H1 e1 _ fun H2 e2 => ⟨t, l, r, m, bx, rfl, ex_t (e1.trans e2) ht, hr, (e1.trans e2) l _ hl, h4, fun H' f g => k H' (fun a o ha ho => f a o ha ((e1.trans e2) a o ho)) g⟩
theorem q_behind {D : Ends} {tz : TS} {E : XK} {i : Nat} {t l : Addr} {r : URow} {m : Nat} {bx : List Int} (h1 : Ev ta σ H (.ref t)) (h2 : Ev tb σ H (.ref l)) (ht : SqT K H t r.vs) (hr : r.ok m) (hl : H l = some (.lst (bx.map V.int))) (h4 : bx.length = 4)
    (k : ∀ H', (∀ a o, a ≠ l → H a = some o → H' a = some o) → H' l = some (.lst ((behindF r bx).1.map V.int)) → tz D (σ.set i (some (.int ((behindF r bx).2 : Int)))) H') : tSeq (tAsg (tCall (spBehind K) [] E (tCons ta (tCons tb tNil))) (gName i)) tz D σ H :=
  s_behind (D := { D with nx := tz D }) h1 h2 ht hr hl h4 k
/-- all that stood before H0's own things is kept -/
theorem ex_but {H0 H1 H2 : Hp} {l : Addr} (e : Ex H0 H1) (hl : H0 l = none) (f : ∀ a o, a ≠ l → H1 a = some o → H2 a = some o) : Ex H0 H2 := fun a o ha => f a o (ne_of_none ha hl) (e a o ha)
end
/-! ### rows by their four places -/
def URow.word : URow → Str
  | .add _ _ _ => ("add" : Str)
  | .more _ _ _ => ("more" : Str)
def URow.box : URow → Nat
  | .add b _ _ => b
  | .more b _ _ => b
def URow.mid : URow → Int
  | .add _ n _ => n
  | .more _ y _ => (y : Int)
def URow.last : URow → Nat
  | .add _ _ x => x
  | .more _ _ x => x
theorem URow.vs_eq (r : URow) : r.vs = [.str r.word, .int r.box, .int r.mid, .int r.last] := by cases r <;> rfl
theorem add_ne_more : ¬ (("more" : Str) = ("add" : Str)) := by decide +kernel
theorem URow.box_lt {r : URow} {m : Nat} (h : r.ok m) : r.box < 4 := by
  cases r with
  | add b n x => exact h.1
  | more b y x => exact h.1
theorem URow.last_le {r : URow} {m : Nat} (h : r.ok m) : r.last ≤ m := by
  cases r with
  | add b n x => exact h.2
  | more b y x => exact h.2.2
end U

/-! Ways in a graph: what is come to, by a pile and by layers. Plain Lean -/
namespace U

/-! ### lists of numbers -/
theorem nodup_len : ∀ {l m : List Nat}, l.Nodup → (∀ x ∈ l, x ∈ m) → l.length ≤ m.length
  | [], _, _, _ => Nat.zero_le _
  | x :: r, m, h, hs => by
    obtain ⟨h1, h2⟩ := List.nodup_cons.mp h
    have hx : x ∈ m := hs x List.mem_cons_self
    have ih := nodup_len (l := r) (m := m.erase x) h2 fun y hy => (List.mem_erase_of_ne (fun z => h1 (by rw [← z]; exact hy))).mpr (hs y (List.mem_cons_of_mem _ hy))
    rw [List.length_erase_of_mem hx] at ih
    have : 0 < m.length := List.length_pos_of_mem hx
    rw [List.length_cons]
    omega
theorem nodup_lt {l : List Nat} {n : Nat} (h : l.Nodup) (hs : ∀ x ∈ l, x < n) : l.length ≤ n := by
  have := nodup_len (m := List.range n) h fun x hx => List.mem_range.mpr (hs x hx)
  rw [List.length_range] at this
  exact this
theorem nodup_app1 {l : List Nat} {x : Nat} (h : l.Nodup) (hx : x ∉ l) : (l ++ [x]).Nodup := L2.nd_snoc h hx

/-! ### what is come to -/
section
variable (ok : Nat → Prop) (G : Nat → List Nat)
/-- by one step and more from s, all but s being ok -/
inductive Rt (s : Nat) : Nat → Prop where
  | base {o : Nat} (h : o ∈ G s) (k : ok o) : Rt s o
  | step {u o : Nat} (r : Rt s u) (h : o ∈ G u) (k : ok o) : Rt s o
def Rs (s v : Nat) : Prop := v = s ∨ Rt ok G s v
end
section
variable {ok ok' : Nat → Prop} {G : Nat → List Nat} {s u v o : Nat}
theorem Rt.ok_ (h : Rt ok G s v) : ok v := by
  cases h with
  | base h k => exact k
  | step r h k => exact k
theorem Rt.trans (h : Rt ok G s u) (g : Rt ok G u v) : Rt ok G s v := by
  induction g with
  | base a k => exact .step h a k
  | step r a k ih => exact .step ih a k
theorem Rt.imp (h : Rt ok G s v) (f : ∀ x, ok x → ok' x) : Rt ok' G s v := by
  induction h with
  | base a k => exact .base a (f _ k)
  | step r a k ih => exact .step ih a (f _ k)
theorem Rs.refl : Rs ok G s s := .inl rfl
theorem Rs.step (h : Rs ok G s u) (a : o ∈ G u) (k : ok o) : Rs ok G s o := by
  rcases h with rfl | h
  · exact .inr (.base a k)
  · exact .inr (.step h a k)
theorem Rs.rt (h : Rs ok G s u) (a : o ∈ G u) (k : ok o) : Rt ok G s o := by
  rcases h with rfl | h
  · exact .base a k
  · exact .step h a k
theorem Rs.trans (h : Rs ok G s u) (g : Rs ok G u v) : Rs ok G s v := by
  rcases h with rfl | h
  · exact g
  · rcases g with rfl | g
    · exact .inr h
    · exact .inr (h.trans g)
theorem Rt.trans_s (h : Rt ok G s u) (g : Rs ok G u v) : Rt ok G s v := by
  rcases g with rfl | g
  · exact h
  · exact h.trans g
theorem Rs.trans_t (h : Rs ok G s u) (g : Rt ok G u v) : Rt ok G s v := by
  rcases h with rfl | h
  · exact g
  · exact h.trans g
theorem Rs.imp (h : Rs ok G s v) (f : ∀ x, ok x → ok' x) : Rs ok' G s v := Or.imp id (fun h => Rt.imp h f) h
/-- the last step -/
theorem Rt.last (h : Rt ok G s v) : ∃ u, Rs ok G s u ∧ v ∈ G u ∧ ok v := by
  cases h with
  | base a k => exact ⟨s, .refl, a, k⟩
  | step r a k => exact ⟨_, .inr r, a, k⟩
/-- the first step -/
theorem Rt.first (h : Rt ok G s v) : ∃ u, u ∈ G s ∧ ok u ∧ Rs ok G u v := by
  induction h with
  | base a k => exact ⟨_, a, k, .refl⟩
  | step r a k ih =>
    obtain ⟨w, h1, h2, h3⟩ := ih
    exact ⟨w, h1, h2, h3.step a k⟩
theorem Rs.closed {S : Nat → Prop} (h : Rs ok G s v) (hs : S s) (hc : ∀ u o, S u → o ∈ G u → ok o → S o) : S v := by
  rcases h with rfl | h
  · exact hs
  · induction h with
    | base a k => exact hc _ _ hs a k
    | step r a k ih => exact hc _ _ ih a k
end

/-! ### by a pile (the law's _law_come, the program's come_to) -/
/-- one node behind the popped one: found and the pile grow -/
def scan (ok : Nat → Bool) (st : List Nat × List Nat) (o : Nat) : List Nat × List Nat := if ok o = true ∧ o ∉ st.1 then (st.1 ++ [o], st.2 ++ [o]) else st
theorem scan_yes {ok : Nat → Bool} {f w : List Nat} {o : Nat} (h : ok o = true) (h2 : o ∉ f) : scan ok (f, w) o = (f ++ [o], w ++ [o]) := if_pos ⟨h, h2⟩
theorem scan_no {ok : Nat → Bool} {f w : List Nat} {o : Nat} (h : ¬ (ok o = true ∧ o ∉ f)) : scan ok (f, w) o = (f, w) := if_neg h
structure Scan (ok : Nat → Bool) (f w f' w' : List Nat) (os : List Nat) : Prop where
  more : ∃ a : List Nat, f' = f ++ a ∧ w' = w ++ a ∧ (∀ x ∈ a, x ∈ os ∧ ok x = true) ∧ (f.Nodup → f'.Nodup)
  all : ∀ x ∈ os, ok x = true → x ∈ f'
theorem scan_all (ok : Nat → Bool) : ∀ (os f w : List Nat), Scan ok f w (os.foldl (scan ok) (f, w)).1 (os.foldl (scan ok) (f, w)).2 os
  | [], f, w => ⟨⟨[], (List.append_nil _).symm, (List.append_nil _).symm, fun _ h => (nomatch h), id⟩, fun _ h => (nomatch h)⟩
  | o :: os, f, w => by
    rw [List.foldl_cons]
    by_cases h : ok o = true ∧ o ∉ f
    · rw [scan_yes h.1 h.2]
      obtain ⟨⟨a, h1, h2, h3, h4⟩, h5⟩ := scan_all ok os (f ++ [o]) (w ++ [o])
      refine ⟨⟨o :: a, by rw [h1, List.append_assoc]; rfl, by rw [h2, List.append_assoc]; rfl, fun x hx => ?_, fun hn => h4 (nodup_app1 hn h.2)⟩, fun x hx hk => ?_⟩
      · rcases List.mem_cons.mp hx with rfl | hx
        · exact ⟨List.mem_cons_self, h.1⟩
        · exact ⟨List.mem_cons_of_mem _ (h3 x hx).1, (h3 x hx).2⟩
      · rcases List.mem_cons.mp hx with rfl | hx
        · rw [h1]
          exact List.mem_append_left _ (List.mem_append_right _ List.mem_cons_self)
        · exact h5 x hx hk
    · rw [scan_no h]
      obtain ⟨⟨a, h1, h2, h3, h4⟩, h5⟩ := scan_all ok os f w
      refine ⟨⟨a, h1, h2, fun x hx => ⟨List.mem_cons_of_mem _ (h3 x hx).1, (h3 x hx).2⟩, h4⟩, fun x hx hk => ?_⟩
      rcases List.mem_cons.mp hx with rfl | hx
      · have hf : x ∈ f := Classical.byContradiction fun z => h ⟨hk, z⟩
        rw [h1]
        exact List.mem_append_left _ hf
      · exact h5 x hx hk
/-- what holds between two pops: s the beginning, f what is found, w the pile -/
structure Df (ok : Nat → Bool) (G : Nat → List Nat) (s : Nat) (f w : List Nat) : Prop where
  nd : f.Nodup
  pile : ∀ u ∈ w, u = s ∨ u ∈ f
  good : ∀ v ∈ f, v = s ∨ Rt (fun x => ok x = true) G s v
  done : ∀ u, (u = s ∨ u ∈ f) → u ∉ w → ∀ o ∈ G u, ok o = true → o ∈ f
theorem Df.turn {ok : Nat → Bool} {G : Nat → List Nat} {s u : Nat} {f w : List Nat} (h : Df ok G s f (w ++ [u])) : Df ok G s ((G u).foldl (scan ok) (f, w)).1 ((G u).foldl (scan ok) (f, w)).2 := by
  obtain ⟨⟨a, h1, h2, h3, h4⟩, h5⟩ := scan_all ok (G u) f w
  have hu : u = s ∨ u ∈ f := h.pile u (List.mem_append_right _ List.mem_cons_self)
  have ru : Rs (fun x => ok x = true) G s u := by
    rcases hu with e | e
    · exact .inl e
    · exact h.good u e
  refine ⟨h4 h.nd, fun x hx => ?_, fun x hx => ?_, fun x hx hw o ho hk => ?_⟩
  · rw [h2] at hx
    rw [h1]
    rcases List.mem_append.mp hx with q | q
    · exact (h.pile x (List.mem_append_left _ q)).imp id fun z => List.mem_append_left _ z
    · exact .inr (List.mem_append_right _ q)
  · rw [h1] at hx
    rcases List.mem_append.mp hx with q | q
    · exact h.good x q
    · exact .inr (ru.rt (h3 x q).1 (h3 x q).2)
  · by_cases hxu : x = u
    · subst hxu
      exact h5 o ho hk
    · rw [h1]
      rw [h2] at hw
      have hx2 : x = s ∨ x ∈ f := by
        rcases hx with e | e
        · exact .inl e
        · rw [h1] at e
          rcases List.mem_append.mp e with q | q
          · exact .inr q
          · exact absurd (List.mem_append_right _ q) hw
      refine List.mem_append_left _ (h.done x hx2 (fun z => ?_) o ho hk)
      rcases List.mem_append.mp z with q | q
      · exact hw (List.mem_append_left _ q)
      · exact hxu (List.mem_singleton.mp q)
/-- the pile's end: what is found is what is come to -/
theorem Df.out {ok : Nat → Bool} {G : Nat → List Nat} {s : Nat} {f : List Nat} (h : Df ok G s f []) (v : Nat) (hv : Rt (fun x => ok x = true) G s v) : v ∈ f := by
  induction hv with
  | base a k => exact h.done s (.inl rfl) (fun z => nomatch z) _ a k
  | step r a k ih => exact h.done _ (.inr ih) (fun z => nomatch z) _ a k
/-- a number that falls at each pop: n bounds what may be found -/
theorem scan_less {ok : Nat → Bool} {G : Nat → List Nat} {s u n : Nat} {f w : List Nat} (h : Df ok G s f (w ++ [u])) (hn : ∀ (f' w' : List Nat), Df ok G s f' w' → f'.length ≤ n) :
    2 * (n - ((G u).foldl (scan ok) (f, w)).1.length) + ((G u).foldl (scan ok) (f, w)).2.length < 2 * (n - f.length) + (w ++ [u]).length := by
  have h2 := hn _ _ h.turn
  obtain ⟨⟨a, e1, e2, _, _⟩, _⟩ := scan_all ok (G u) f w
  rw [e1] at h2 ⊢
  rw [e2]
  rw [List.length_append] at h2 ⊢
  rw [List.length_append, List.length_append, List.length_singleton]
  omega

/-! ### by layers (the program's follow; the law's _law_rounds) -/
section
variable (G : Nat → List Nat) (ok : Nat → Prop) (s : Nat)
/-- within k steps -/
def Rk : Nat → Nat → Prop
  | 0, v => v = s ∧ ok s
  | k + 1, v => Rk k v ∨ ∃ u, Rk k u ∧ v ∈ G u ∧ ok v
end
section
variable {G : Nat → List Nat} {ok : Nat → Prop} {s v u : Nat} {k j : Nat}
theorem Rk.mono (h : j ≤ k) (r : Rk G ok s j v) : Rk G ok s k v := by
  induction h with
  | refl => exact r
  | step _ ih => exact .inl ih
theorem Rk.rs (r : Rk G ok s k v) : ok s ∧ Rs ok G s v := by
  induction k generalizing v with
  | zero => exact ⟨r.2, .inl r.1⟩
  | succ k ih =>
    rcases r with r | ⟨u, r, h, o⟩
    · exact ih r
    · exact ⟨(ih r).1, (ih r).2.step h o⟩
theorem Rk.ok_ (r : Rk G ok s k v) : ok v := by
  induction k generalizing v with
  | zero => exact r.1 ▸ r.2
  | succ k ih =>
    rcases r with r | ⟨u, r, h, o⟩
    · exact ih r
    · exact o
theorem Rs.rk (hs : ok s) (r : Rs ok G s v) : ∃ k, Rk G ok s k v := by
  rcases r with rfl | r
  · exact ⟨0, rfl, hs⟩
  · induction r with
    | base a o => exact ⟨1, .inr ⟨s, ⟨rfl, hs⟩, a, o⟩⟩
    | step r a o ih =>
      obtain ⟨k, hk⟩ := ih
      exact ⟨k + 1, .inr ⟨_, hk, a, o⟩⟩
/-- just k steps -/
def Dist (G : Nat → List Nat) (ok : Nat → Prop) (s k v : Nat) : Prop := Rk G ok s k v ∧ ∀ j, j < k → ¬ Rk G ok s j v
theorem Rk.dist (r : Rk G ok s k v) : ∃ j, j ≤ k ∧ Dist G ok s j v := by
  induction k using Nat.strongRecOn with
  | _ k ih =>
    by_cases h : ∃ j, j < k ∧ Rk G ok s j v
    · obtain ⟨j, hj, hr⟩ := h
      obtain ⟨i, hi, d⟩ := ih j hj hr
      exact ⟨i, by omega, d⟩
    · exact ⟨k, Nat.le_refl k, r, fun j hj hr => h ⟨j, hj, hr⟩⟩
theorem Dist.inj (a : Dist G ok s j v) (b : Dist G ok s k v) : j = k := by
  rcases Nat.lt_trichotomy j k with h | h | h
  · exact absurd a.1 (b.2 j h)
  · exact h
  · exact absurd b.1 (a.2 k h)
theorem Dist.pred (d : Dist G ok s (k + 1) v) : ∃ u, Dist G ok s k u ∧ v ∈ G u := by
  rcases d.1 with r | ⟨u, r, h, o⟩
  · exact absurd r (d.2 k (Nat.lt_succ_self k))
  · refine ⟨u, ⟨r, fun j hj hr => d.2 (j + 1) (by omega) (.inr ⟨u, hr, h, o⟩)⟩, h⟩
theorem Dist.next (d : Dist G ok s k u) (h : v ∈ G u) (o : ok v) : Rk G ok s (k + 1) v := .inr ⟨u, d.1, h, o⟩
/-- nothing new at a layer: nothing new behind it -/
theorem Rk.closed (h : ∀ v, ¬ Dist G ok s (k + 1) v) : ∀ j v, Rk G ok s j v → Rk G ok s k v := by
  have step : ∀ v, Rk G ok s (k + 1) v → Rk G ok s k v := fun v r => by
    obtain ⟨j, hj, d⟩ := r.dist
    by_cases e : j = k + 1
    · subst e
      exact absurd d (h v)
    · exact d.1.mono (by omega)
  intro j
  induction j with
  | zero => exact fun v r => r.mono (Nat.zero_le _)
  | succ j ih =>
    intro v r
    rcases r with r | ⟨u, r, h, o⟩
    · exact ih v r
    · exact step v (.inr ⟨u, ih u r, h, o⟩)
/-- as many nodes as layers -/
theorem Dist.chain (d : Dist G ok s k v) : ∃ l : List Nat, l.Nodup ∧ l.length = k + 1 ∧ ∀ x ∈ l, ∃ j, j ≤ k ∧ Dist G ok s j x := by
  induction k generalizing v with
  | zero => exact ⟨[v], by simp, rfl, fun x hx => ⟨0, Nat.le_refl 0, by rw [List.mem_singleton.mp hx]; exact d⟩⟩
  | succ k ih =>
    obtain ⟨u, du, _⟩ := d.pred
    obtain ⟨l, h1, h2, h3⟩ := ih du
    refine ⟨v :: l, List.nodup_cons.mpr ⟨fun hv => ?_, h1⟩, by rw [List.length_cons, h2], fun x hx => ?_⟩
    · obtain ⟨j, hj, dj⟩ := h3 v hv
      have := dj.inj d
      omega
    · rcases List.mem_cons.mp hx with rfl | hx
      · exact ⟨k + 1, Nat.le_refl _, d⟩
      · obtain ⟨j, hj, dj⟩ := h3 x hx
        exact ⟨j, by omega, dj⟩
theorem Dist.lt {n : Nat} (hn : ∀ v, ok v → v < n) (d : Dist G ok s k v) : k < n := by
  obtain ⟨l, h1, h2, h3⟩ := d.chain
  have := nodup_lt h1 fun x hx => by
    obtain ⟨j, _, dj⟩ := h3 x hx
    exact hn x dj.1.ok_
  omega
theorem Rs.rk_lt {n : Nat} (hn : ∀ v, ok v → v < n) (hs : ok s) (r : Rs ok G s v) : Rk G ok s n v := by
  obtain ⟨k, hk⟩ := r.rk hs
  obtain ⟨j, _, d⟩ := hk.dist
  exact d.1.mono (Nat.le_of_lt (d.lt hn))
end
/-- one node behind a row: the dict ahead, and fresh -/
def visit (ok : Nat → Bool) (row : Nat) (st : List (Nat × Option Nat) × List Nat) (o : Nat) : List (Nat × Option Nat) × List Nat := if ok o = true ∧ look st.1 o = none then (put st.1 o (some row), st.2 ++ [o]) else st
/-- what holds between two layers: m the dict, w the layer k -/
structure Bf (ok : Nat → Bool) (G : Nat → List Nat) (s k : Nat) (m : List (Nat × Option Nat)) (w : List Nat) : Prop where
  nd : (m.map (·.1)).Nodup
  keys : ∀ v, (look m v).isSome = true ↔ Rk G (fun x => ok x = true) s k v
  lay : ∀ v, v ∈ w ↔ Dist G (fun x => ok x = true) s k v
  par : ∀ v q, look m v = some q → match q with
    | none => v = s
    | some u => ∃ j, Dist G (fun x => ok x = true) s j u ∧ Dist G (fun x => ok x = true) s (j + 1) v ∧ v ∈ G u
/-- within a layer: the rows us of the layer are done, of the row r the nodes os -/
structure Bm (ok : Nat → Bool) (G : Nat → List Nat) (s k : Nat) (us : List Nat) (r : Nat) (os : List Nat) (m : List (Nat × Option Nat)) (f : List Nat) : Prop where
  nd : (m.map (·.1)).Nodup
  keys : ∀ v, (look m v).isSome = true ↔ (Rk G (fun x => ok x = true) s k v ∨ (ok v = true ∧ ((∃ u ∈ us, v ∈ G u) ∨ v ∈ os)))
  fresh : ∀ v, v ∈ f ↔ (¬ Rk G (fun x => ok x = true) s k v ∧ (ok v = true ∧ ((∃ u ∈ us, v ∈ G u) ∨ v ∈ os)))
  par : ∀ v q, look m v = some q → match q with
    | none => v = s
    | some u => ∃ j, Dist G (fun x => ok x = true) s j u ∧ Dist G (fun x => ok x = true) s (j + 1) v ∧ v ∈ G u
theorem Bm.visit {ok : Nat → Bool} {G : Nat → List Nat} {s k r o : Nat} {us os : List Nat} {m : List (Nat × Option Nat)} {f : List Nat} (h : Bm ok G s k us r os m f) (hr : Dist G (fun x => ok x = true) s k r) (ho : o ∈ G r) :
    Bm ok G s k us r (os ++ [o]) (visit ok r (m, f) o).1 (visit ok r (m, f) o).2 := by
  have ext : ∀ v, (ok v = true ∧ ((∃ u ∈ us, v ∈ G u) ∨ v ∈ os ++ [o])) ↔ ((ok v = true ∧ ((∃ u ∈ us, v ∈ G u) ∨ v ∈ os)) ∨ (v = o ∧ ok o = true)) := fun v => by
    rw [List.mem_append, List.mem_singleton]
    constructor
    · rintro ⟨a, b | b | b⟩
      · exact .inl ⟨a, .inl b⟩
      · exact .inl ⟨a, .inr b⟩
      · exact .inr ⟨b, b ▸ a⟩
    · rintro (⟨a, b | b⟩ | ⟨a, b⟩)
      · exact ⟨a, .inl b⟩
      · exact ⟨a, .inr (.inl b)⟩
      · exact ⟨a ▸ b, .inr (.inr a)⟩
  by_cases c : ok o = true ∧ look m o = none
  · have e : U.visit ok r (m, f) o = (put m o (some r), f ++ [o]) := if_pos c
    rw [e]
    have nk : ¬ (Rk G (fun x => ok x = true) s k o ∨ (ok o = true ∧ ((∃ u ∈ us, o ∈ G u) ∨ o ∈ os))) := fun z => by
      have := (h.keys o).mpr z
      rw [c.2] at this
      cases this
    have nR : ¬ Rk G (fun x => ok x = true) s k o := fun z => nk (.inl z)
    have dO : Dist G (fun x => ok x = true) s (k + 1) o := ⟨hr.next ho c.1, fun j hj z => nR (z.mono (by omega))⟩
    refine ⟨put_keys_nodup h.nd, fun v => ?_, fun v => ?_, fun v q hq => ?_⟩
    · rw [look_put, ext]
      by_cases e : v = o
      · subst e
        rw [if_pos rfl]
        exact ⟨fun _ => .inr (.inr ⟨rfl, c.1⟩), fun _ => rfl⟩
      · rw [if_neg e, h.keys]
        exact ⟨fun z => z.imp id fun z => .inl z, fun z => z.imp id fun z => z.elim id fun y => absurd y.1 e⟩
    · rw [List.mem_append, List.mem_singleton, h.fresh, ext]
      constructor
      · rintro (⟨a, b⟩ | rfl)
        · exact ⟨a, .inl b⟩
        · exact ⟨nR, .inr ⟨rfl, c.1⟩⟩
      · rintro ⟨a, b | b⟩
        · exact .inl ⟨a, b⟩
        · exact .inr b.1
    · rw [look_put] at hq
      by_cases e : v = o
      · subst e
        rw [if_pos rfl] at hq
        cases hq
        exact ⟨k, hr, dO, ho⟩
      · rw [if_neg e] at hq
        exact h.par v q hq
  · have e : U.visit ok r (m, f) o = (m, f) := if_neg c
    rw [e]
    have old : ok o = true → (Rk G (fun x => ok x = true) s k o ∨ (ok o = true ∧ ((∃ u ∈ us, o ∈ G u) ∨ o ∈ os))) := fun z => by
      rw [← h.keys]
      cases q : look m o with
      | none => exact absurd ⟨z, q⟩ c
      | some y => rfl
    refine ⟨h.nd, fun v => ?_, fun v => ?_, h.par⟩
    · rw [h.keys, ext]
      constructor
      · exact fun z => z.imp id fun z => .inl z
      · rintro (z | z | ⟨rfl, z⟩)
        · exact .inl z
        · exact .inr z
        · exact old z
    · rw [h.fresh, ext]
      constructor
      · exact fun z => ⟨z.1, .inl z.2⟩
      · rintro ⟨z, y | ⟨rfl, y⟩⟩
        · exact ⟨z, y⟩
        · rcases old y with x | x
          · exact absurd x z
          · exact ⟨z, x⟩
/-- a row's nodes are done -/
theorem Bm.row {ok : Nat → Bool} {G : Nat → List Nat} {s k r r' : Nat} {us : List Nat} {m : List (Nat × Option Nat)} {f : List Nat} (h : Bm ok G s k us r (G r) m f) : Bm ok G s k (us ++ [r]) r' [] m f := by
  have ext : ∀ v, (ok v = true ∧ ((∃ u ∈ us, v ∈ G u) ∨ v ∈ G r)) ↔ (ok v = true ∧ ((∃ u ∈ us ++ [r], v ∈ G u) ∨ v ∈ ([] : List Nat))) := fun v => by
    constructor
    · rintro ⟨a, ⟨u, hu, b⟩ | b⟩
      · exact ⟨a, .inl ⟨u, List.mem_append_left _ hu, b⟩⟩
      · exact ⟨a, .inl ⟨r, List.mem_append_right _ List.mem_cons_self, b⟩⟩
    · rintro ⟨a, ⟨u, hu, b⟩ | b⟩
      · rcases List.mem_append.mp hu with q | q
        · exact ⟨a, .inl ⟨u, q, b⟩⟩
        · exact ⟨a, .inr (by rw [← List.mem_singleton.mp q]; exact b)⟩
      · cases b
  exact ⟨h.nd, fun v => by rw [h.keys, ext], fun v => by rw [h.fresh, ext], h.par⟩
theorem Bf.begin {ok : Nat → Bool} {G : Nat → List Nat} {s k r : Nat} {m : List (Nat × Option Nat)} {w : List Nat} (h : Bf ok G s k m w) : Bm ok G s k [] r [] m [] :=
  by
  have no : ∀ v, ¬ (ok v = true ∧ ((∃ u ∈ ([] : List Nat), v ∈ G u) ∨ v ∈ ([] : List Nat))) := fun v z => by
    rcases z.2 with ⟨u, hu, _⟩ | hu
    · cases hu
    · cases hu
  refine ⟨h.nd, fun v => ?_, fun v => ?_, h.par⟩
  · rw [h.keys]
    exact ⟨.inl, fun z => z.elim id fun z => absurd z (no v)⟩
  · exact ⟨fun z => (by cases z), fun z => absurd z.2 (no v)⟩
/-- the layer is done -/
theorem Bm.out {ok : Nat → Bool} {G : Nat → List Nat} {s k r : Nat} {m m0 : List (Nat × Option Nat)} {w f : List Nat} (h0 : Bf ok G s k m0 w) (h : Bm ok G s k w r [] m f) : Bf ok G s (k + 1) m f := by
  have e : ∀ v, (ok v = true ∧ ((∃ u ∈ w, v ∈ G u) ∨ v ∈ ([] : List Nat))) → Rk G (fun x => ok x = true) s (k + 1) v := fun v ⟨a, b⟩ => by
    rcases b with ⟨u, hu, b⟩ | b
    · exact ((h0.lay u).mp hu).next b a
    · cases b
  have e2 : ∀ v, Dist G (fun x => ok x = true) s (k + 1) v → (ok v = true ∧ ((∃ u ∈ w, v ∈ G u) ∨ v ∈ ([] : List Nat))) := fun v d => by
    obtain ⟨u, du, b⟩ := d.pred
    exact ⟨d.1.ok_, .inl ⟨u, (h0.lay u).mpr du, b⟩⟩
  refine ⟨h.nd, fun v => ?_, fun v => ?_, h.par⟩
  · rw [h.keys]
    constructor
    · rintro (z | z)
      · exact .inl z
      · exact e v z
    · intro z
      by_cases q : Rk G (fun x => ok x = true) s k v
      · exact .inl q
      · exact .inr (e2 v ⟨z, fun j hj y => q (y.mono (by omega))⟩)
  · rw [h.fresh]
    constructor
    · rintro ⟨z, y⟩
      exact ⟨e v y, fun j hj x => z (x.mono (by omega))⟩
    · intro d
      exact ⟨fun z => d.2 k (Nat.lt_succ_self k) z, e2 v d⟩
/-- the end: no layer is left -/
theorem Bf.out {ok : Nat → Bool} {G : Nat → List Nat} {s k : Nat} {m : List (Nat × Option Nat)} (h : Bf ok G s k m []) (hs : ok s = true) (v : Nat) : (look m v).isSome = true ↔ Rs (fun x => ok x = true) G s v := by
  rw [h.keys]
  constructor
  · exact fun r => r.rs.2
  · intro r
    obtain ⟨j, hj⟩ := r.rk hs
    by_cases hk : k = 0
    · subst hk
      exact absurd ((h.lay s).mpr ⟨⟨rfl, hs⟩, fun j hj => absurd hj (Nat.not_lt_zero j)⟩) (fun z => nomatch z)
    · obtain ⟨i, rfl⟩ : ∃ i, k = i + 1 := ⟨k - 1, by omega⟩
      exact (Rk.closed (k := i) (fun v d => absurd ((h.lay v).mpr d) (fun z => nomatch z)) j v hj).mono (by omega)
end U

/-! Promises of ways.py's defs and of the law's own searches -/
namespace U
open PySem PySem.Spec PyProof.Rows L2 Evl

/-- the rows behind a row -/
def gx (rs : List URow) (u : Nat) : List Nat := match rs[u]? with
  | some r => r.nx
  | none => []
theorem gx_some {rs : List URow} {u : Nat} {r : URow} (h : rs[u]? = some r) : gx rs u = r.nx := by
  unfold gx
  rw [h]
theorem gx_none {rs : List URow} {u : Nat} (h : rs.length ≤ u) : gx rs u = [] := by
  unfold gx
  rw [List.getElem?_eq_none h]
def okN (n : Nat) (wo : List Nat) (o : Nat) : Bool := decide (o < n) && decide (o ∉ wo)
theorem okN_iff {n : Nat} {wo : List Nat} {o : Nat} : okN n wo o = true ↔ o < n ∧ o ∉ wo := by
  unfold okN
  rw [Bool.and_eq_true, decide_eq_true_iff, decide_eq_true_iff]
/-- come to from s, s itself too, all within the rows and without wo -/
abbrev RRs (rs : List URow) (wo : List Nat) (s v : Nat) : Prop := Rs (fun x => okN rs.length wo x = true) (gx rs) s v
def parV : Option Nat → V
  | none => .non
  | some u => .int (u : Int)
def FollowP (rs : List URow) (s : Nat) (wo : List Nat) (m : List (Nat × Option Nat)) : Prop := (s ∈ wo ∧ m = []) ∨ (s ∉ wo ∧ ∃ k, Bf (okN rs.length wo) (gx rs) s k m [])
theorem FollowP.keys {rs : List URow} {s : Nat} {wo : List Nat} {m : List (Nat × Option Nat)} (h : FollowP rs s wo m) (hs : s < rs.length) (v : Nat) : (look m v).isSome = true ↔ (s ∉ wo ∧ RRs rs wo s v) := by
  rcases h with ⟨a, rfl⟩ | ⟨a, k, b⟩
  · exact ⟨fun z => (by cases z), fun z => absurd a z.1⟩
  · rw [b.out (okN_iff.mpr ⟨hs, a⟩)]
    exact ⟨fun z => ⟨a, z⟩, fun z => z.2⟩
theorem FollowP.nd {rs : List URow} {s : Nat} {wo : List Nat} {m : List (Nat × Option Nat)} (h : FollowP rs s wo m) : (m.map (·.1)).Nodup := by
  rcases h with ⟨_, rfl⟩ | ⟨_, k, b⟩
  · exact List.nodup_nil
  · exact b.nd
theorem FollowP.lt {rs : List URow} {s : Nat} {wo : List Nat} {m : List (Nat × Option Nat)} (h : FollowP rs s wo m) (hs : s < rs.length) {v : Nat} (hv : v ∈ m.map (·.1)) : v < rs.length := by
  have q : (look m v).isSome = true := by
    rw [look_isSome]
    exact decide_eq_true hv
  obtain ⟨_, r⟩ := (h.keys hs v).mp q
  rcases r with rfl | r
  · exact hs
  · exact (okN_iff.mp r.ok_).1
def DictNew {α : Type} (f : α → V) (P : List (Nat × α) → Prop) (H1 : Hp) (v : V) (H2 : Hp) : Prop := ∃ p m, v = .ref p ∧ H1 p = none ∧ H2 p = some (.dK (dk f m)) ∧ P m
theorem DictNew.back {α : Type} {f : α → V} {P : List (Nat × α) → Prop} (H1 H2 H3 : Hp) (v : V) (e : Ex H1 H2) (h : DictNew f P H2 v H3) : DictNew f P H1 v H3 := by
  obtain ⟨p, m, h1, h2, h3⟩ := h
  exact ⟨p, m, h1, fresh_back e h2, h3⟩
structure GW where
  a : Addr
  rs : List URow
  s : Nat
  wa : Addr
  wo : List Nat
def spFollow (K : PySem.W.Frag) : Sp := FSp (G := GW) (fun g vs H => vs = [.ref g.a, .int (g.s : Int), .ref g.wa] ∧ RowsAt K H g.a g.rs ∧ RowsOk g.rs ∧ g.s < g.rs.length ∧ SqL K H g.wa (nv g.wo)) (fun g H1 v H2 => DictNew parV (FollowP g.rs g.s g.wo) H1 v H2)
/-- rows handed in, one of them: the row with all that it comes to and that come to it -/
def tangleL (rs : List URow) (u : Nat) (l : List Nat) : Prop := l.Pairwise (· < ·) ∧ ∀ v, v ∈ l ↔ (RRs rs [] u v ∧ RRs rs [] v u)
def spTangle (K : PySem.W.Frag) : Sp := FSp (G := Addr × List URow × Nat) (fun g vs H => vs = [.ref g.1, .int (g.2.2 : Int)] ∧ RowsAt K H g.1 g.2.1 ∧ RowsOk g.2.1 ∧ g.2.2 < g.2.1.length) (fun g H1 v H2 => ∃ l, tangleL g.2.1 g.2.2 l ∧ LstNew (nv l) H1 v H2)
/-- the law's own search: what is come to, as keys -/
def tru : Unit → V := fun _ => .bl true
def ComeP (rs : List URow) (s : Nat) (wo : List Nat) (m : List (Nat × Unit)) : Prop := (m.map (·.1)).Nodup ∧ ∀ v, (look m v).isSome = true ↔ (s ∉ wo ∧ RRs rs wo s v)
def spCome (K : PySem.W.Frag) : Sp := FSp (G := GW) (fun g vs H => vs = [.ref g.a, .int (g.s : Int), .ref g.wa] ∧ RowsAt K H g.a g.rs ∧ RowsOk g.rs ∧ g.s < g.rs.length ∧ SqL K H g.wa (nv g.wo)) (fun g H1 v H2 => DictNew tru (ComeP g.rs g.s g.wo) H1 v H2)
def ReachO (rs : List URow) : Nat → HO → Prop := fun k o => ∃ m, o = .dK (dk tru m) ∧ ComeP rs k [] m
def spReach (K : PySem.W.Frag) : Sp := FSp (G := Addr × List URow) (fun g vs H => vs = [.ref g.1] ∧ RowsAt K H g.1 g.2 ∧ RowsOk g.2) (fun g H1 v H2 => LstObj (ReachO g.2) g.2.length H1 v H2)
theorem ComeP.lt {rs : List URow} {s : Nat} {wo : List Nat} {m : List (Nat × Unit)} (h : ComeP rs s wo m) (hs : s < rs.length) {v : Nat} (hv : v ∈ m.map (·.1)) : v < rs.length := by
  have q : (look m v).isSome = true := by
    rw [look_isSome]
    exact decide_eq_true hv
  obtain ⟨_, r⟩ := (h.2 v).mp q
  rcases r with rfl | r
  · exact hs
  · exact (okN_iff.mp r.ok_).1
/-- two rising lists of the same numbers -/
theorem rising_eq : ∀ {l m : List Nat}, l.Pairwise (· < ·) → m.Pairwise (· < ·) → (∀ v, v ∈ l ↔ v ∈ m) → l = m
  | [], [], _, _, _ => rfl
  | [], y :: m, _, _, h => absurd ((h y).mpr List.mem_cons_self) (fun z => nomatch z)
  | x :: l, [], _, _, h => absurd ((h x).mp List.mem_cons_self) (fun z => nomatch z)
  | x :: l, y :: m, hl, hm, h => by
    have hl' := List.pairwise_cons.mp hl
    have hm' := List.pairwise_cons.mp hm
    have e : x = y := by
      rcases Nat.lt_trichotomy x y with q | q | q
      · have := (h x).mp List.mem_cons_self
        rcases List.mem_cons.mp this with z | z
        · exact z
        · have := hm'.1 x z
          omega
      · exact q
      · have := (h y).mpr List.mem_cons_self
        rcases List.mem_cons.mp this with z | z
        · exact z.symm
        · have := hl'.1 y z
          omega
    subst e
    congr 1
    refine rising_eq hl'.2 hm'.2 fun v => ?_
    constructor
    · intro z
      have := (h v).mp (List.mem_cons_of_mem _ z)
      rcases List.mem_cons.mp this with w | w
      · subst w
        exact absurd (hl'.1 v z) (Nat.lt_irrefl v)
      · exact w
    · intro z
      have := (h v).mpr (List.mem_cons_of_mem _ z)
      rcases List.mem_cons.mp this with w | w
      · subst w
        exact absurd (hm'.1 v z) (Nat.lt_irrefl v)
      · exact w
/-- a sort of numbers is the rising list of them -/
theorem sort_rising {ns : List Nat} {ms : List Int} (hn : ns.Nodup) (hp : ms.Perm (ns.map fun n => ((n : Nat) : Int))) (hw : ms.Pairwise (· ≤ ·)) : ∃ l : List Nat, ms = l.map (fun n => ((n : Nat) : Int)) ∧ l.Pairwise (· < ·) ∧ ∀ v, v ∈ l ↔ v ∈ ns := by
  have hall : ∀ z ∈ ms, ∃ n, n ∈ ns ∧ z = ((n : Nat) : Int) := fun z hz => by
    obtain ⟨n, h1, h2⟩ := List.mem_map.mp (hp.mem_iff.mp hz)
    exact ⟨n, h1, h2.symm⟩
  have e : ms = (ms.map Int.toNat).map (fun n => ((n : Nat) : Int)) := by
    rw [List.map_map]
    refine (List.map_id ms).symm.trans (List.map_congr_left fun z hz => ?_)
    obtain ⟨n, _, rfl⟩ := hall z hz
    rfl
  have nd : (ns.map fun n => ((n : Nat) : Int)).Nodup := List.Pairwise.map _ (fun a b (h : a ≠ b) z => h (by omega)) hn
  have ndm : ms.Nodup := hp.nodup_iff.mpr nd
  refine ⟨ms.map Int.toNat, e, ?_, fun v => ?_⟩
  · have hlt : ms.Pairwise (· < ·) := by
      refine List.Pairwise.imp₂ ?_ hw ndm
      intro a b h1 h2
      omega
    refine List.pairwise_map.mpr (hlt.imp_of_mem ?_)
    intro a b ha hb h
    obtain ⟨n, _, rfl⟩ := hall a ha
    obtain ⟨m, _, rfl⟩ := hall b hb
    show n < m
    omega
  · rw [List.mem_map]
    constructor
    · rintro ⟨z, hz, rfl⟩
      obtain ⟨n, h1, rfl⟩ := hall z hz
      exact h1
    · intro hv
      exact ⟨(v : Int), hp.mem_iff.mpr (List.mem_map.mpr ⟨v, hv, rfl⟩), rfl⟩
/-- sorted(list of numbers just made) -/
theorem er_sortedN {K : PySem.W.Frag} {σ : L2.St} {H : Hp} {te : TE} {ns : List Nat} (h : EvL te σ H (nv ns)) (hn : ns.Nodup) :
    EvR (tCB (rSortedI K) (tCons te tNil)) σ H (fun H1 x H2 => ∃ l : List Nat, l.Pairwise (· < ·) ∧ (∀ v, v ∈ l ↔ v ∈ ns) ∧ LstNew (nv l) H1 x H2) := fun H1 e Q q => h H1 e _ fun a H2 ha e2 h2 => by
  refine ⟨a, ns.map fun n => ((n : Nat) : Int), rfl, SqL.of (by rw [h2, List.map_map]; rfl), fun ns' p hp hw hn' => ?_⟩
  obtain ⟨l, e1, h1, h3⟩ := sort_rising hn hp hw
  refine q _ _ (e2.trans (Ex.new hn')) ⟨l, h1, h3, p, rfl, fresh_back e2 hn', ?_⟩
  rw [upd_same, e1, List.map_map]
  rfl
/-- sorted(a list of numbers) -/
theorem er_sortedV {K : PySem.W.Frag} {σ : L2.St} {H : Hp} {te : TE} {a : Addr} {ns : List Nat} (h : Ev te σ H (.ref a)) (hs : SqL K H a (nv ns)) (hn : ns.Nodup) :
    EvR (tCB (rSortedI K) (tCons te tNil)) σ H (fun H1 x H2 => ∃ l : List Nat, l.Pairwise (· < ·) ∧ (∀ v, v ∈ l ↔ v ∈ ns) ∧ LstNew (nv l) H1 x H2) := fun H1 e Q q => h H1 e _ fun H2 e2 => by
  refine ⟨a, ns.map fun n => ((n : Nat) : Int), rfl, ex_l (e.trans e2) (by rw [List.map_map]; exact hs), fun ns' p hp hw hn' => ?_⟩
  obtain ⟨l, e1, h1, h3⟩ := sort_rising hn hp hw
  refine q _ _ (e2.trans (Ex.new hn')) ⟨l, h1, h3, p, rfl, fresh_back e2 hn', ?_⟩
  rw [upd_same, e1, List.map_map]
  rfl
theorem range_rising (n : Nat) : (List.range n).Pairwise (· < ·) := List.pairwise_lt_range
end U

/-! reached, way; the law's rounds; what a way is -/
namespace U
open PySem PySem.Spec PyProof.Rows L2 Evl

/-- the rows reached, rising -/
def ReachedL (rs : List URow) (l : List Nat) : Prop := l.Pairwise (· < ·) ∧ ∀ v, v ∈ l ↔ RRs rs [] 0 v
def spReached (K : PySem.W.Frag) : Sp := FSp (G := Addr × List URow) (fun g vs H => vs = [.ref g.1] ∧ RowsAt K H g.1 g.2 ∧ RowsOk g.2) (fun g H1 v H2 => ∃ l, ReachedL g.2 l ∧ LstNew (nv l) H1 v H2)
/-- a list that is a way from s to g, touching none of wo -/
def IsWay (rs : List URow) (s g : Nat) (wo : List Nat) (l : List Nat) : Prop := l.head? = some s ∧ l.getLast? = some g ∧ (∀ x ∈ l, x < rs.length ∧ x ∉ wo) ∧ ∀ (i x y : Nat), l[i]? = some x → l[i + 1]? = some y → y ∈ gx rs x
/-- what way tells: none where there is no way, else a way of as many rows as steps and one -/
def WayP (rs : List URow) (s g : Nat) (wo : List Nat) (H1 : Hp) (v : V) (H2 : Hp) : Prop :=
  (¬ (s ∉ wo ∧ RRs rs wo s g) ∧ v = .non) ∨ ∃ l k, IsWay rs s g wo l ∧ Dist (gx rs) (fun x => okN rs.length wo x = true) s k g ∧ l.length = k + 1 ∧ l.Nodup ∧ LstNew (nv l) H1 v H2
structure GY where
  a : Addr
  rs : List URow
  s : Nat
  g : Nat
  wa : Addr
  wo : List Nat
def spWay (K : PySem.W.Frag) : Sp := FSp (G := GY) (fun g vs H => vs = [.ref g.a, .int (g.s : Int), .int (g.g : Int), .ref g.wa] ∧ RowsAt K H g.a g.rs ∧ RowsOk g.rs ∧ g.s < g.rs.length ∧ g.g < g.rs.length ∧ SqL K H g.wa (nv g.wo)) (fun g H1 v H2 => WayP g.rs g.s g.g g.wo H1 v H2)
theorem WayP.back {rs : List URow} {s g : Nat} {wo : List Nat} (H1 H2 H3 : Hp) (v : V) (e : Ex H1 H2) (h : WayP rs s g wo H2 v H3) : WayP rs s g wo H1 v H3 := by
  rcases h with h | ⟨l, k, h1, h2, h3, h4, h5⟩
  · exact .inl h
  · exact .inr ⟨l, k, h1, h2, h3, h4, h5.back _ _ _ _ e⟩
/-- one more turn of the loop that has come to its end -/
def endN : Option Nat → Nat
  | none => 1
  | some _ => 0
/-- the law's rounds: how many rows a shortest way has -/
def RoundsP (rs : List URow) (s : Nat) (wo : List Nat) (m : List (Nat × Nat)) : Prop := (m.map (·.1)).Nodup ∧ (∀ v, (look m v).isSome = true ↔ (s ∉ wo ∧ RRs rs wo s v)) ∧ ∀ v k, look m v = some k → ∃ j, k = j + 1 ∧ Dist (gx rs) (fun x => okN rs.length wo x = true) s j v
def natV : Nat → V := fun n => .int (n : Int)
def spRounds (K : PySem.W.Frag) : Sp := FSp (G := GW) (fun g vs H => vs = [.ref g.a, .int (g.s : Int), .ref g.wa] ∧ RowsAt K H g.a g.rs ∧ RowsOk g.rs ∧ g.s < g.rs.length ∧ SqL K H g.wa (nv g.wo)) (fun g H1 v H2 => DictNew natV (RoundsP g.rs g.s g.wo) H1 v H2)
/-- _law_is_way of the third law: found is a list of numbers -/
structure GI where
  f : Addr
  l : List Nat
  a : Addr
  rs : List URow
  s : Nat
  g : Nat
  wa : Addr
  wo : List Nat
  n : Nat
def spIsWay3 (K : PySem.W.Frag) : Sp := FSp (G := GI) (fun g vs H => vs = [.ref g.f, .ref g.a, .int (g.s : Int), .int (g.g : Int), .ref g.wa, .int (g.n : Int)] ∧ H g.f = some (.lst (nv g.l)) ∧ RowsAt K H g.a g.rs ∧ RowsOk g.rs ∧ SqL K H g.wa (nv g.wo) ∧ g.l.length = g.n ∧ 0 < g.n ∧ g.n ≤ 100 ∧ IsWay g.rs g.s g.g g.wo g.l)
  (fun _ _ v _ => v = .bl true)
/-- within a turn of the rounds: k0 the dict at the turn's beginning (within t steps), fr what is fresh; done: the rows us are done -/
structure Ro (G : Nat → List Nat) (ok : Nat → Bool) (s t : Nat) (m : List (Nat × Nat)) : Prop where
  nd : (m.map (·.1)).Nodup
  keys : ∀ v, (look m v).isSome = true ↔ Rk G (fun x => ok x = true) s t v
  val : ∀ v k, look m v = some k → ∃ j, k = j + 1 ∧ Dist G (fun x => ok x = true) s j v
structure RoF (G : Nat → List Nat) (ok : Nat → Bool) (s t : Nat) (us os : List Nat) (f : List (Nat × Nat)) : Prop where
  nd : (f.map (·.1)).Nodup
  keys : ∀ v, (look f v).isSome = true ↔ (¬ Rk G (fun x => ok x = true) s t v ∧ ok v = true ∧ ((∃ u ∈ us, v ∈ G u) ∨ v ∈ os))
  val : ∀ v k, look f v = some k → k = t + 2
theorem RoF.visit {G : Nat → List Nat} {ok : Nat → Bool} {s t r o k : Nat} {us os : List Nat} {m f : List (Nat × Nat)} (hm : Ro G ok s t m) (h : RoF G ok s t us os f) (hr : look m r = some k) (ho : o ∈ G r) (c : ok o = true ∧ look m o = none) :
    RoF G ok s t us (os ++ [o]) (put f o (k + 1)) := by
  have hn : ¬ Rk G (fun x => ok x = true) s t o := fun z => by
    have := (hm.keys o).mpr z
    rw [c.2] at this
    cases this
  obtain ⟨j, rfl, d⟩ := hm.val r k hr
  have hjt : j = t := by
    have hR : Rk G (fun x => ok x = true) s t r := (hm.keys r).mp (by rw [hr]; rfl)
    obtain ⟨i, hi, d2⟩ := hR.dist
    have e := d.inj d2
    by_cases hlt : j = t
    · exact hlt
    · exact absurd ((d.next ho c.1).mono (by omega)) hn
  subst hjt
  refine ⟨put_keys_nodup h.nd, fun v => ?_, fun v k hv => ?_⟩
  · rw [look_put, List.mem_append, List.mem_singleton]
    by_cases e : v = o
    · subst e
      rw [if_pos rfl]
      exact ⟨fun _ => ⟨hn, c.1, .inr (.inr rfl)⟩, fun _ => rfl⟩
    · rw [if_neg e, h.keys]
      constructor
      · rintro ⟨a, b, q⟩
        exact ⟨a, b, q.imp id .inl⟩
      · rintro ⟨a, b, q | q | q⟩
        · exact ⟨a, b, .inl q⟩
        · exact ⟨a, b, .inr q⟩
        · exact absurd q e
  · rw [look_put] at hv
    by_cases e : v = o
    · rw [if_pos e] at hv
      cases hv
      rfl
    · rw [if_neg e] at hv
      exact h.val v k hv
theorem RoF.skip {G : Nat → List Nat} {ok : Nat → Bool} {s t o : Nat} {us os : List Nat} {m f : List (Nat × Nat)} (hm : Ro G ok s t m) (h : RoF G ok s t us os f) (c : ¬ (ok o = true ∧ look m o = none)) :
    RoF G ok s t us (os ++ [o]) f := by
  refine ⟨h.nd, fun v => ?_, h.val⟩
  rw [h.keys, List.mem_append, List.mem_singleton]
  constructor
  · rintro ⟨a, b, q⟩
    exact ⟨a, b, q.imp id .inl⟩
  · rintro ⟨a, b, q | q | rfl⟩
    · exact ⟨a, b, .inl q⟩
    · exact ⟨a, b, .inr q⟩
    · refine absurd ⟨b, ?_⟩ c
      cases e : look m v with
      | none => rfl
      | some y => exact absurd ((hm.keys v).mp (by rw [e]; rfl)) a
theorem RoF.row {G : Nat → List Nat} {ok : Nat → Bool} {s t r : Nat} {us : List Nat} {f : List (Nat × Nat)} (h : RoF G ok s t us (G r) f) : RoF G ok s t (us ++ [r]) [] f := by
  refine ⟨h.nd, fun v => ?_, h.val⟩
  rw [h.keys]
  constructor
  · rintro ⟨a, b, ⟨u, hu, q⟩ | q⟩
    · exact ⟨a, b, .inl ⟨u, List.mem_append_left _ hu, q⟩⟩
    · exact ⟨a, b, .inl ⟨r, List.mem_append_right _ List.mem_cons_self, q⟩⟩
  · rintro ⟨a, b, ⟨u, hu, q⟩ | q⟩
    · rcases List.mem_append.mp hu with z | z
      · exact ⟨a, b, .inl ⟨u, z, q⟩⟩
      · exact ⟨a, b, .inr (by rw [← List.mem_singleton.mp z]; exact q)⟩
    · cases q
theorem RoF.begin (G : Nat → List Nat) (ok : Nat → Bool) (s t : Nat) : RoF G ok s t [] [] [] := by
  refine ⟨List.nodup_nil, fun v => ⟨fun z => (by cases z), ?_⟩, fun v k z => (by cases z)⟩
  rintro ⟨_, _, ⟨u, hu, _⟩ | q⟩
  · cases hu
  · cases q
/-- fresh ones laid in, one by one: the first n are -/
structure RoM (G : Nat → List Nat) (ok : Nat → Bool) (s t : Nat) (m0 : List (Nat × Nat)) (f : List (Nat × Nat)) (n : Nat) (m : List (Nat × Nat)) : Prop where
  nd : (m.map (·.1)).Nodup
  lk : ∀ v, look m v = if v ∈ (f.take n).map (·.1) then some (t + 2) else look m0 v
theorem Ro.next {G : Nat → List Nat} {ok : Nat → Bool} {s t : Nat} {m0 f m : List (Nat × Nat)} (h : Ro G ok s t m0) (hf : RoF G ok s t (m0.map (·.1)) [] f) (hm : RoM G ok s t m0 f f.length m) : Ro G ok s (t + 1) m := by
  have key : ∀ v, v ∈ f.map (·.1) ↔ Dist G (fun x => ok x = true) s (t + 1) v := fun v => by
    have h1 : v ∈ f.map (·.1) ↔ (look f v).isSome = true := by
      rw [look_isSome, decide_eq_true_iff]
    rw [h1, hf.keys]
    constructor
    · rintro ⟨a, b, ⟨u, hu, q⟩ | q⟩
      · have hu2 : Rk G (fun x => ok x = true) s t u := (h.keys u).mp (by rw [look_isSome]; exact decide_eq_true hu)
        exact ⟨.inr ⟨u, hu2, q, b⟩, fun j hj z => a (z.mono (by omega))⟩
      · cases q
    · intro d
      obtain ⟨u, du, q⟩ := d.pred
      refine ⟨fun z => d.2 t (Nat.lt_succ_self t) z, d.1.ok_, .inl ⟨u, ?_, q⟩⟩
      have := (h.keys u).mpr du.1
      rw [look_isSome] at this
      exact of_decide_eq_true this
  have lk := hm.lk
  rw [List.take_length] at lk
  refine ⟨hm.nd, fun v => ?_, fun v k hv => ?_⟩
  · rw [lk]
    by_cases e : v ∈ f.map (·.1)
    · rw [if_pos e]
      exact ⟨fun _ => ((key v).mp e).1, fun _ => rfl⟩
    · rw [if_neg e, h.keys]
      constructor
      · exact fun z => z.mono (Nat.le_succ t)
      · intro z
        apply Classical.byContradiction
        intro n
        exact e ((key v).mpr ⟨z, fun j hj y => n (y.mono (by omega))⟩)
  · rw [lk] at hv
    by_cases e : v ∈ f.map (·.1)
    · rw [if_pos e] at hv
      cases hv
      exact ⟨t + 1, rfl, (key v).mp e⟩
    · rw [if_neg e] at hv
      exact h.val v k hv
end U
namespace W
open PySem PySem.Spec PyProof.Rows L2 Evl U
def topS (i : Nat) : Stmt := PySem.Challenge.pw_unravel_k03_shortest_ways.main.body.getD i (.Pass ⟨0, 0, 0, 0⟩)
local macro_rules
  | `(tactic| walk_at "sq") => `(tactic| first
    | assumption
    | exact ex_t (by assumption) (by assumption)
    | exact ex_l (by assumption) (by assumption)
    | exact SqL.of (by assumption)
    | exact SqT.of (by assumption))
  | `(tactic| walk_at "at") => `(tactic| first
    | rfl
    | exact atI_nat (by assumption)
    | assumption)
  | `(tactic| walk_at "rv") => `(tactic| first
    | ((with_reducible exact rv_I0))
    | ((with_reducible apply rv_modN); first | decide | omega)
    | ((with_reducible apply rv_fdivN) <;> first | decide | omega)
    | ((with_reducible apply rv_mulA); first | exact mulok_r (by decide) (by decide) | exact mulok_l (by decide) (by decide) | assumption | exact mulok_r (by omega) (by omega) | exact mulok_l (by omega) (by omega))
    | ((with_reducible apply rv_eq); rfl)
    | ((with_reducible apply rv_ne); rfl)
    | ((with_reducible apply rv_ixT); (walk_at "sq"); (walk_at "at"))
    | ((with_reducible apply rv_ixL); (walk_at "sq"); (walk_at "at"))
    | ((with_reducible apply rv_pow); exact ⟨by decide, by decide, by decide⟩)
    | ((with_reducible exact ru_neg))
    | ((with_reducible apply rv_isL); (walk_at "sq"); rfl; exact nv_flat _)
    | ((with_reducible apply rv_niL); (walk_at "sq"); rfl; exact nv_flat _))
  | `(tactic| walk_at "ev") => `(tactic| first
    | assumption
    | ((with_reducible apply ev_var); rfl)
    | ((with_reducible exact ev_c))
    | ((with_reducible apply ev_op); (walk_at "ev"); (walk_at "ev"); (walk_at "rv"))
    | ((with_reducible apply ev_un); (walk_at "ev"); (walk_at "rv"))
    | (apply ev_len; (walk_at "ev"); (walk_at "sq"))
    | (apply ev_lenT; (walk_at "ev"); (walk_at "sq"))
    | (apply ev_max2; (walk_at "ev"); (walk_at "ev"))
    | (apply ev_min2; (walk_at "ev"); (walk_at "ev"))
    | (apply ev_isi; (walk_at "ev"); (walk_at "ty"); first | exact kb_ii | exact kb_ib | exact kb_ss | exact kb_ll | exact kb_tt | exact kb_bb | exact kb_bi | exact kb_si | exact kb_is | exact kb_ni | exact kb_li | exact kb_ls | exact kb_ns | exact kb_ts)
    | ((with_reducible apply ev_notV); (walk_at "ev"))
    | ((with_reducible apply ev_andV); (walk_at "ev"); (intro _; walk_at "ev"))
    | ((with_reducible apply ev_orV); (walk_at "ev"); (intro _; walk_at "ev"))
    | ((with_reducible apply ev_chain); (walk_at "ev"); (walk_at "ev"); (walk_at "rv"); (intro _; refine' ⟨?_, ?_⟩; (walk_at "ev"); (walk_at "rv"))))
  | `(tactic| walk_at "ty") => `(tactic| (intro H9 e9; first
    | exact TyX.base (TyOf.int _)
    | exact TyX.base (TyOf.bl _)
    | exact TyX.base (TyOf.str _)
    | exact TyX.base TyOf.non
    | exact TyX.base (TyOf.lst (e9 _ _ (by assumption)))
    | exact TyX.base (TyOf.tup (e9 _ _ (by assumption)))))
  | `(tactic| walk_at "et") => `(tactic| first
    | assumption
    | ((with_reducible apply et_test); (walk_at "ev"))
    | ((with_reducible apply et_B); (walk_at "ev"))
    | ((with_reducible apply et_not); (walk_at "et"))
    | ((with_reducible apply et_and); (walk_at "et"); (intro _; walk_at "et"))
    | ((with_reducible apply et_or); (walk_at "et"); (intro _; walk_at "et"))
    | exact et_yes)
  | `(tactic| walk_at "ea") => `(tactic| first
    | ((with_reducible exact ea_nil))
    | ((with_reducible apply ea_cons); (walk_at "ev"); (walk_at "ea")))
  | `(tactic| walk_at "ds") => `(tactic| (try dsimp only at *))
section
variable {P : Program} {w : World} {K : PySem.W.Frag} {mg : Str → Option Value} {base : Heap}

abbrev s__law_near : Stmt := topS 17
theorem sc__law_near : FnScope ["_law_k", "_law_mixed", "_law_many"] ["_law_k", "_law_mixed", "_law_many"] (defScope s__law_near) := ⟨rfl, rfl, rfl, by decide +kernel, rfl, by decide +kernel, by decide +kernel⟩
theorem c__law_near (T : Txt mg) (D : DefAt K mg "_law_near" s__law_near) : Cal P w K mg base CX0 1 "_law_near" ["_law_k", "_law_mixed", "_law_many"] spNear := by
  refine cal_of (k := 0) D sc__law_near (fun _ _ _ _ _ _ us hl => match us, hl with | [_, _, _], _ => rfl) (fun vs H Q E h => ?_) (fun f cdv A outer s H vs Q E hr h => ?_)
  · obtain ⟨⟨k, m, many⟩, rfl, _⟩ := h
    rfl
  · obtain ⟨⟨k, m, many⟩, rfl, q⟩ := h
    walk_at "ds"
    refine ⟨_, (pss_cons (ps_if (pt_cmpR op_eq (pe_op op_modN (pv 1) pe_int) pe_int (nomark _)) (pss_one (ps_ret (pe_callB (call_max2 rfl) (by rfl) T.n_max (by decide +kernel) (pa_cons pe_int (pa_cons (pe_op op_sub (pv 0) (pe_op op_modN (pe_op op_fdivN (pv 1) pe_int) pe_int)) pa_nil))))) pss_nil)
    (pss_one (ps_ret (pe_callB (call_min2 rfl) (by rfl) T.n_min (by decide +kernel) (pa_cons (pv 2) (pa_cons (pe_op op_add (pe_op op_add (pv 0) pe_int) (pe_op op_modN (pe_op op_fdivN (pv 1) pe_int) pe_int)) pa_nil)))))), ?_⟩
    apply q_when
    · walk_at "et"
    · intro hb2 H1 e1
      have hc : m % 5 = 0 := V.int.inj (of_decide_eq_true hb2)
      apply s_ret
      · walk_at "ev"
      · intro H2 e2
        refine q _ H2 (e1.trans e2) ?_
        show V.int (if (k : Int) - m / 5 % 4 > 0 then (k : Int) - m / 5 % 4 else 0) = V.int (nearN k m many : Nat)
        unfold nearN
        rw [if_pos hc]
        congr 1
        split <;> omega
    · intro hb2 H1 e1
      have hc : ¬ m % 5 = 0 := fun z => of_decide_eq_false hb2 (by rw [z])
      have h0 : 0 ≤ m / 5 % 3 := Int.emod_nonneg _ (by decide)
      apply s_ret
      · walk_at "ev"
      · intro H2 e2
        refine q _ H2 (e1.trans e2) ?_
        show V.int (if (k : Int) + 1 + m / 5 % 3 < (many : Int) then (k : Int) + 1 + m / 5 % 3 else (many : Int)) = V.int (nearN k m many : Nat)
        unfold nearN
        rw [if_neg hc]
        congr 1
        split <;> omega

abbrev s__law_number_by : Stmt := topS 16
theorem sc__law_number_by : FnScope ["_law_cell"] ["_law_cell"] (defScope s__law_number_by) := ⟨rfl, rfl, rfl, by decide +kernel, rfl, by decide +kernel, by decide +kernel⟩
theorem c__law_number_by (T : Txt mg) (D : DefAt K mg "_law_number_by" s__law_number_by) : Cal P w K mg base CX0 1 "_law_number_by" ["_law_cell"] spNum := by
  refine cal_of (k := 0) D sc__law_number_by (fun _ _ _ _ _ _ us hl => match us, hl with | [_], _ => rfl) (fun vs H Q E h => ?_) (fun f cdv A outer s H vs Q E hr h => ?_)
  · obtain ⟨c, ⟨rfl, _⟩, _⟩ := h
    rfl
  · obtain ⟨c, ⟨rfl, hb⟩, q⟩ := h
    walk_at "ds"
    refine ⟨_, (pss_cons (ps_if (pt_cmpR op_eq (pe_op op_modN (pv 0) pe_int) pe_int (nomark _)) (pss_one (ps_ret (pe_op op_mulA (pe_op op_modN (pe_op op_mulA (pv 0) (pe_op op_add (pe_op op_pow pe_int pe_int) pe_int)) (pe_op op_pow pe_int pe_int)) (pe_op op_sub pe_int (pe_op op_mulA pe_int (pe_op op_modN (pe_op op_fdivN (pv 0) pe_int) pe_int)))))) pss_nil)
    (pss_one (ps_ret (pe_op op_sub (pe_op op_modN (pe_op op_fdivN (pv 0) pe_int) pe_int) pe_int)))), ?_⟩
    have m1 : IntMulOk c (10 ^ (59 : Int).toNat + 7) := mulok_bits (a := LB) (b := 300) hb (by decide +kernel) (by decide)
    have m2 : IntMulOk (c * (10 ^ (59 : Int).toNat + 7) % 10 ^ (60 : Int).toNat) (1 - 2 * (c / 9 % 2)) := by
      have h1 : 0 ≤ c / 9 % 2 := Int.emod_nonneg _ (by decide)
      have h2 : c / 9 % 2 < 2 := Int.emod_lt_of_pos _ (by decide)
      exact mulok_r (by omega) (by omega)
    have p1 : (0 : Int) < 10 ^ (60 : Int).toNat := by decide +kernel
    apply q_when
    · walk_at "et"
    · intro hb2 H1 e1
      have hc : c % 9 = 4 := V.int.inj (of_decide_eq_true hb2)
      refine' s_ret (v := .int (c * (10 ^ (59 : Int).toNat + 7) % 10 ^ (60 : Int).toNat * (1 - 2 * (c / 9 % 2)))) ?_ fun H2 e2 => q _ H2 (e1.trans e2) ?_
      · walk_at "ev"
      · show _ = V.int (numBy c)
        unfold numBy
        rw [if_pos hc]
        rfl
    · intro hb2 H1 e1
      have hc : ¬ c % 9 = 4 := fun z => of_decide_eq_false hb2 (by rw [z])
      refine' s_ret (v := .int (c / 9 % 9 - 4)) ?_ fun H2 e2 => q _ H2 (e1.trans e2) ?_
      · walk_at "ev"
      · show _ = V.int (numBy c)
        unfold numBy
        rw [if_neg hc]

abbrev s__law_row_by : Stmt := topS 18
theorem sc__law_row_by : FnScope ["_law_cell", "_law_k", "_law_many", "_law_mixed", "_law_yes", "_law_no"] ["_law_cell", "_law_k", "_law_many"] (defScope s__law_row_by) := ⟨rfl, rfl, rfl, by decide +kernel, rfl, by decide +kernel, by decide +kernel⟩
theorem c__law_row_by (T : Txt mg) (D : DefAt K mg "_law_row_by" s__law_row_by) (c__law_near : Cal P w K mg base CX0 1 "_law_near" ["_law_k", "_law_mixed", "_law_many"] spNear) (c__law_number_by : Cal P w K mg base CX0 1 "_law_number_by" ["_law_cell"] spNum) : Cal P w K mg base CX0 2 "_law_row_by" ["_law_cell", "_law_k", "_law_many"] spRow := by
  refine cal_of (k := 1) D sc__law_row_by (fun _ _ _ _ _ _ us hl => match us, hl with | [_, _, _], _ => rfl) (fun vs H Q E h => ?_) (fun f cdv A outer s H vs Q E hr h => ?_)
  · obtain ⟨⟨c, k, many⟩, ⟨rfl, _⟩, _⟩ := h
    rfl
  · obtain ⟨⟨c, k, many⟩, ⟨rfl, hb, hk, hm⟩, q⟩ := h
    walk_at "ds"
    refine ⟨_, (pss_cons (ps_set (i := 3) sc__law_row_by.nd rfl (by first | exact Or.inl rfl | exact Or.inr rfl) (pe_op op_modN (pe_op op_add (pe_op op_mulA (pv 0) pe_int) (pe_op op_mulA pe_int (pv 1))) pe_int))
    (pss_cons (ps_set (i := 4) sc__law_row_by.nd rfl (by first | exact Or.inl rfl | exact Or.inr rfl) (pe_op op_modN (pe_op op_fdivN (pv 3) pe_int) (pe_op op_add (pv 2) pe_int)))
    (pss_cons (ps_set (i := 5) sc__law_row_by.nd rfl (by first | exact Or.inl rfl | exact Or.inr rfl) (pe_op op_modN (pe_op op_fdivN (pe_op op_fdivN (pv 3) pe_int) (pe_op op_add (pv 2) pe_int)) (pe_op op_add (pv 2) pe_int)))
    (pss_cut (ps_if (pt_cmpR op_gt (pv 2) pe_int (nomark _)) (pss_cons (ps_set (i := 4) sc__law_row_by.nd rfl (by first | exact Or.inl rfl | exact Or.inr rfl) (pe_cal c__law_near (hr.mono (by decide)) (by rfl) pass0 (pa_cons (pv 1) (pa_cons (pe_op op_fdivN (pv 3) pe_int) (pa_cons (pv 2) pa_nil)))))
    (pss_one (ps_set (i := 5) sc__law_row_by.nd rfl (by first | exact Or.inl rfl | exact Or.inr rfl) (pe_cal c__law_near (hr.mono (by decide)) (by rfl) pass0 (pa_cons (pv 1) (pa_cons (pe_op op_fdivN (pv 3) pe_int) (pa_cons (pv 2) pa_nil))))))) pss_nil)
    (pss_cons (ps_if (pt_cmpR op_eq (pe_op op_modN (pv 3) pe_int) pe_int (nomark _)) (pss_one (ps_ret (pe_tup (pa_cons pe_str (pa_cons (pe_op op_modN (pe_op op_fdivN (pv 3) pe_int) pe_int) (pa_cons (pe_cal c__law_number_by (hr.mono (by decide)) (by rfl) pass0 (pa_cons (pe_op op_fdivN (pv 0) pe_int) pa_nil)) (pa_cons (pv 4) pa_nil))))))) pss_nil)
    (pss_one (ps_ret (pe_tup (pa_cons pe_str (pa_cons (pe_op op_modN (pe_op op_fdivN (pv 3) pe_int) pe_int) (pa_cons (pv 4) (pa_cons (pv 5) pa_nil)))))))))))), ?_⟩
    have h0 : 0 ≤ mixBy c k := mix_nonneg c k
    have hm1 : (0 : Int) < (many : Int) + 1 := by omega
    have mk : IntMulOk 7919 (k : Int) := mulok_l (by decide) (by decide)
    -- mixed, yes, no
    refine q_asg (v := .int (mixBy c k)) (ev_is (v := .int ((c * 48271 + 7919 * (k : Int)) % 1000003)) (by walk_at "ev") rfl) fun H1 e1 => ?_
    refine q_asg (v := .int (mixBy c k / 12 % ((many : Int) + 1))) (by walk_at "ev") fun H2 e2 => ?_
    have hd : ((many : Int) + 1).natAbs < 1073741824 := by omega
    refine q_asg (v := .int (mixBy c k / 12 / ((many : Int) + 1) % ((many : Int) + 1))) (by walk_at "ev") fun H3 e3 => ?_
    -- if many > 6
    refine q_cut (M := fun σ' H' => Ex H H' ∧ σ' = [some (.int c), some (.int (k : Int)), some (.int (many : Int)), some (.int (mixBy c k)), some (.int ((if many > 6 then nearN k (mixBy c k / 12) many else (mixBy c k / 12 % ((many : Int) + 1)).toNat : Nat) : Int)),
      some (.int ((if many > 6 then nearN k (mixBy c k / 240) many else (mixBy c k / 12 / ((many : Int) + 1) % ((many : Int) + 1)).toNat : Nat) : Int))]) ?_ ?_
    · apply s_when
      · walk_at "et"
      · intro hb2 H4 e4
        have h6 : many > 6 := by
          have := of_decide_eq_true hb2
          omega
        refine q_asg (ev_callV (k, mixBy c k / 12, many) (by walk_at "ea") (fun _ _ => rfl)) fun H5 e5 => ?_
        refine s_asg (ev_callV (k, mixBy c k / 240, many) (by walk_at "ea") (fun _ _ => rfl)) fun H6 e6 => ?_
        refine ⟨((((e1.trans e2).trans e3).trans e4).trans e5).trans e6, ?_⟩
        rw [if_pos h6, if_pos h6]
        rfl
      · intro hb2 H4 e4
        have h6 : ¬ many > 6 := by
          have := of_decide_eq_false hb2
          omega
        refine ⟨((e1.trans e2).trans e3).trans e4, ?_⟩
        have t1 : ((mixBy c k / 12 % ((many : Int) + 1)).toNat : Int) = mixBy c k / 12 % ((many : Int) + 1) := Int.toNat_of_nonneg (Int.emod_nonneg _ (by omega))
        have t2 : ((mixBy c k / 12 / ((many : Int) + 1) % ((many : Int) + 1)).toNat : Int) = mixBy c k / 12 / ((many : Int) + 1) % ((many : Int) + 1) := Int.toNat_of_nonneg (Int.emod_nonneg _ (by omega))
        rw [if_neg h6, if_neg h6, t1, t2]
        rfl
    · rintro σ' H4 ⟨e4, rfl⟩
      have b4 : ((mixBy c k / 3 % 4).toNat : Int) = mixBy c k / 3 % 4 := Int.toNat_of_nonneg (Int.emod_nonneg _ (by decide))
      apply q_when
      · walk_at "et"
      · intro hb2 H5 e5
        have hc : mixBy c k % 3 = 0 := V.int.inj (of_decide_eq_true hb2)
        refine s_retU (eu_tup (ea_cons ev_c (ea_cons (by walk_at "ev") (ea_cons (ev_callV (c / 3) (by walk_at "ea") (fun _ _ => ⟨rfl, Nat.le_trans (bits_div (by decide)) hb⟩)) (ea_cons (by walk_at "ev") ea_nil)))) (by show 4 ≤ 100000; decide)) fun p H6 hp e6 h6 => ?_
        refine q _ H6 ((e4.trans e5).trans e6) ⟨p, rfl, fresh_back (e4.trans e5) hp, ?_⟩
        rw [h6]
        unfold rowBy
        simp only [if_pos hc]
        show some (HO.tup _) = some (HO.tup _)
        simp only [URow.vs, b4]
      · intro hb2 H5 e5
        have hc : ¬ mixBy c k % 3 = 0 := fun z => of_decide_eq_false hb2 (by rw [z])
        refine s_retU (eu_tup (ea_cons ev_c (ea_cons (by walk_at "ev") (ea_cons (by walk_at "ev") (ea_cons (by walk_at "ev") ea_nil)))) (by show 4 ≤ 100000; decide)) fun p H6 hp e6 h6 => ?_
        refine q _ H6 ((e4.trans e5).trans e6) ⟨p, rfl, fresh_back (e4.trans e5) hp, ?_⟩
        rw [h6]
        unfold rowBy
        simp only [if_neg hc]
        show some (HO.tup _) = some (HO.tup _)
        simp only [URow.vs, b4]

abbrev s__law_cell_at : Stmt := topS 15
theorem sc__law_cell_at : FnScope ["_law_script", "_law_k"] ["_law_script", "_law_k"] (defScope s__law_cell_at) := ⟨rfl, rfl, rfl, by decide +kernel, rfl, by decide +kernel, by decide +kernel⟩
theorem c__law_cell_at (T : Txt mg) (D : DefAt K mg "_law_cell_at" s__law_cell_at) : Cal P w K mg base CX0 1 "_law_cell_at" ["_law_script", "_law_k"] (spCellU K) := by
  refine cal_of (k := 0) D sc__law_cell_at (fun _ _ _ _ _ _ us hl => match us, hl with | [_, _], _ => rfl) (fun vs H Q E h => ?_) (fun f cdv A outer s H vs Q E hr h => ?_)
  · obtain ⟨⟨a, ns, k⟩, ⟨rfl, _⟩, _⟩ := h
    rfl
  · obtain ⟨⟨a, ns, k⟩, ⟨rfl, hS⟩, q⟩ := h
    walk_at "ds"
    refine ⟨_, (pss_cons (ps_if (pt_cmpR op_lt (pv 1) (pe_callB (k_len_seq (K := K) rfl) (by rfl) T.n_len PySem.boot_len (pa_cons (pv 0) pa_nil)) (nomark _)) (pss_one (ps_ret (pe_ix (k_ix_list (K := K) rfl) (pv 0) (pv 1) (fun _ _ => rfl)))) pss_nil)
    (pss_one (ps_ret pe_int))), ?_⟩
    apply q_when
    · walk_at "et"
    · intro hb H1 e1
      have hk : k < ns.length := by
        have := of_decide_eq_true hb
        rw [List.length_map] at this
        omega
      have ha : atI (ns.map V.int) ((k : Nat) : Int) = some (.int ns[k]) := atI_nat (by rw [List.getElem?_map, List.getElem?_eq_getElem hk]; rfl)
      have hS1 := ex_l e1 hS
      refine s_ret (v := .int ns[k]) (by walk_at "ev") fun H2 e2 => q _ H2 (e1.trans e2) ?_
      show V.int ns[k] = V.int (ns.getD k 0)
      rw [List.getD_eq_getElem?_getD, List.getElem?_eq_getElem hk]
      rfl
    · intro hb H1 e1
      have hk : ¬ k < ns.length := by
        have := of_decide_eq_false hb
        rw [List.length_map] at this
        omega
      refine s_ret (v := .int 0) (by walk_at "ev") fun H2 e2 => q _ H2 (e1.trans e2) ?_
      show V.int 0 = V.int (ns.getD k 0)
      rw [List.getD_eq_getElem?_getD, List.getElem?_eq_none (by omega)]
      rfl

abbrev s__law_rows_by : Stmt := topS 19
theorem sc__law_rows_by : FnScope ["_law_script", "_law_many", "_law_k"] ["_law_script"] (defScope s__law_rows_by) := ⟨rfl, rfl, rfl, by decide +kernel, rfl, by decide +kernel, by decide +kernel⟩
theorem c__law_rows_by (T : Txt mg) (D : DefAt K mg "_law_rows_by" s__law_rows_by) (c__law_row_by : Cal P w K mg base CX0 2 "_law_row_by" ["_law_cell", "_law_k", "_law_many"] spRow) (c__law_cell_at : Cal P w K mg base CX0 1 "_law_cell_at" ["_law_script", "_law_k"] (spCellU K)) : Cal P w K mg base CX0 3 "_law_rows_by" ["_law_script"] (spRows K) := by
  refine cal_of (k := 2) D sc__law_rows_by (fun _ _ _ _ _ _ us hl => match us, hl with | [_], _ => rfl) (fun vs H Q E h => ?_) (fun f cdv A outer s H vs Q E hr h => ?_)
  · obtain ⟨⟨a, ns⟩, ⟨rfl, _⟩, _⟩ := h
    rfl
  · obtain ⟨⟨a, ns⟩, ⟨rfl, hS, hb⟩, q⟩ := h
    walk_at "ds"
    refine ⟨_, (pss_cons (ps_set (i := 1) sc__law_rows_by.nd rfl (by first | exact Or.inl rfl | exact Or.inr rfl) (pe_op op_add pe_int (pe_op op_modN (pe_cal c__law_cell_at (hr.mono (by decide)) (by rfl) pass0 (pa_cons (pv 0) (pa_cons pe_int pa_nil))) pe_int)))
    (pss_cut (ps_if (pt_cmpR op_eq (pe_op op_modN (pe_cal c__law_cell_at (hr.mono (by decide)) (by rfl) pass0 (pa_cons (pv 0) (pa_cons pe_int pa_nil))) pe_int) pe_int (nomark _)) (pss_one (ps_set (i := 1) sc__law_rows_by.nd rfl (by first | exact Or.inl rfl | exact Or.inr rfl) (pe_op op_add pe_int (pe_op op_modN (pe_cal c__law_cell_at (hr.mono (by decide)) (by rfl) pass0 (pa_cons (pv 0) (pa_cons pe_int pa_nil))) pe_int)))) pss_nil)
    (pss_one (ps_ret (pe_lc (own := [("_law_k", 2)]) rfl sc__law_rows_by.nd (pi_range1 (by rfl) T.n_range (pa_cons (pv 1) pa_nil)) (blkOk_by (own := [("_law_k", 2)]) (N := ["_law_script", "_law_many", "_law_k"]) (sc := defScope s__law_rows_by) (by decide +kernel)) (fun _ _ _ _ _ => (pg_name (i := 2) sc__law_rows_by.nd rfl (by first | exact Or.inl rfl | exact Or.inr rfl))) (fun _ _ _ _ _ => pts_nil) (fun _ _ _ _ _ => (pe_cal c__law_row_by (hr.mono (by decide)) (by rfl) pass0 (pa_cons (pe_cal c__law_cell_at (hr.mono (by decide)) (by rfl) pass0 (pa_cons (pv 0) (pa_cons (pe_op op_add pe_int (pv 2)) pa_nil))) (pa_cons (pv 2) (pa_cons (pv 1) pa_nil)))))))))), ?_⟩
    have cell : ∀ (H' : Hp) (k : Nat) (σ : L2.St) (t1 t2 : TE), Ex H H' → Ev t1 σ H' (.ref a) → Ev t2 σ H' (.int (k : Int)) → Ev (tCall (spCellU K) [] E0 (tCons t1 (tCons t2 tNil))) σ H' (.int (cellAt ns k)) := fun H' k σ t1 t2 e h1 h2 =>
      ev_callV (a, ns, k) (ea_cons h1 (ea_cons h2 ea_nil)) (fun H1 e1 => ⟨rfl, ex_l (e.trans e1) hS⟩)
    have c6 : 0 ≤ cellAt ns 0 % 6 := Int.emod_nonneg _ (by decide)
    have c14 : 0 ≤ cellAt ns 0 % 14 := Int.emod_nonneg _ (by decide)
    have hm := manyBy_le ns
    refine q_asg (v := .int (1 + cellAt ns 0 % 6)) (ev_op (by walk_at "ev") (ev_op (cell H 0 _ _ _ (Ex.refl H) (by walk_at "ev") (ev_is (v := .int 0) (by walk_at "ev") rfl)) (by walk_at "ev") (by walk_at "rv")) (by walk_at "rv")) fun H1 e1 => ?_
    refine q_cut (M := fun σ' H' => Ex H H' ∧ σ' = [some (.ref a), some (.int (manyBy ns : Nat)), none]) ?_ ?_
    · apply s_when
      · exact et_test (ev_op (ev_op (cell H1 1 _ _ _ e1 (by walk_at "ev") (ev_is (v := .int 1) (by walk_at "ev") rfl)) (by walk_at "ev") (by walk_at "rv")) (by walk_at "ev") (by walk_at "rv"))
      · intro hb2 H2 e2
        have hc : cellAt ns 1 % 4 = 1 := V.int.inj (of_decide_eq_true hb2)
        refine s_asg (v := .int (7 + cellAt ns 0 % 14)) (ev_op (by walk_at "ev") (ev_op (cell H2 0 _ _ _ (e1.trans e2) (by walk_at "ev") (ev_is (v := .int 0) (by walk_at "ev") rfl)) (by walk_at "ev") (by walk_at "rv")) (by walk_at "rv")) fun H3 e3 => ?_
        refine ⟨(e1.trans e2).trans e3, ?_⟩
        have t : ((manyBy ns : Nat) : Int) = 7 + cellAt ns 0 % 14 := by
          unfold manyBy
          rw [if_pos hc]
          omega
        rw [t]
        rfl
      · intro hb2 H2 e2
        have hc : ¬ cellAt ns 1 % 4 = 1 := fun z => of_decide_eq_false hb2 (by rw [z])
        refine ⟨e1.trans e2, ?_⟩
        have t : ((manyBy ns : Nat) : Int) = 1 + cellAt ns 0 % 6 := by
          unfold manyBy
          rw [if_neg hc]
          omega
        rw [t]
        rfl
    · rintro σ' H2 ⟨e2, rfl⟩
      refine s_retR (lc_objR (n := (manyBy ns : Nat)) (RowsP (rowsBy ns)) (by walk_at "ea") (by omega) (fun x => rfl) fun i H3 e3 hi => ?_) fun v H3 e3 hv => ?_
      · have hi2 : i < manyBy ns := by omega
        have hc := cell H3 (8 + i) [some (.ref a), some (.int (manyBy ns : Nat)), some (.int (i : Int))] (tVar 0) (tOp (rI0 fun i j => .int (i + j)) (tC (.int 8)) (tVar 2)) (e2.trans e3) (by walk_at "ev") (ev_is (v := .int (8 + (i : Int))) (by walk_at "ev") (by simp))
        refine (ev_callA (cellAt ns (8 + i), i, manyBy ns) (ea_cons hc (ea_cons (by walk_at "ev") (ea_cons (by walk_at "ev") ea_nil))) (fun _ _ => ⟨rfl, bits_cell hb _, hi2, hm.2⟩) (fun H1 H2 H3 v e h => h.back H1 H2 H3 v e)).imp fun H4 y H5 _ _ hy => ?_
        obtain ⟨t, rfl, ht, ho⟩ := hy
        refine ⟨t, _, rfl, ht, ho, rowBy (cellAt ns (8 + i)) i (manyBy ns), ?_, rfl⟩
        unfold rowsBy
        rw [List.getElem?_map, List.getElem?_range hi2]
        rfl
      · have el : (rowsBy ns).length = ((manyBy ns : Nat) : Int).toNat := by
          rw [rowsBy_len]
          rfl
        refine q _ H3 (e2.trans e3) ?_
        rw [el]
        exact hv.back _ _ _ _ e2

abbrev s__law_ahead : Stmt := topS 22
theorem sc__law_ahead : FnScope ["_law_row"] ["_law_row"] (defScope s__law_ahead) := ⟨rfl, rfl, rfl, by decide +kernel, rfl, by decide +kernel, by decide +kernel⟩
theorem c__law_ahead (T : Txt mg) (D : DefAt K mg "_law_ahead" s__law_ahead) : Cal P w K mg base CX0 1 "_law_ahead" ["_law_row"] (spNexts K) := by
  refine cal_of (k := 0) D sc__law_ahead (fun _ _ _ _ _ _ us hl => match us, hl with | [_], _ => rfl) (fun vs H Q E h => ?_) (fun f cdv A outer s H vs Q E hr h => ?_)
  · obtain ⟨⟨t, r⟩, ⟨rfl, _⟩, _⟩ := h
    rfl
  · obtain ⟨⟨t, r⟩, ⟨rfl, hS⟩, q⟩ := h
    walk_at "ds"
    refine ⟨_, (pss_cons (ps_if (pt_cmpR op_eq (pe_ix (k_ix_tup (K := K) rfl) (pv 0) pe_int (fun _ _ => rfl)) pe_str (nomark _)) (pss_one (ps_ret (pe_lst (pa_cons (pe_ix (k_ix_tup (K := K) rfl) (pv 0) pe_int (fun _ _ => rfl)) (pa_cons (pe_ix (k_ix_tup (K := K) rfl) (pv 0) pe_int (fun _ _ => rfl)) pa_nil))))) pss_nil)
    (pss_one (ps_ret (pe_lst (pa_cons (pe_ix (k_ix_tup (K := K) rfl) (pv 0) pe_int (fun _ _ => rfl)) pa_nil))))), ?_⟩
    cases r with
    | add b n x =>
      have hS : SqT K H t [.str ("add" : Str), .int b, .int n, .int x] := hS
      refine q_when (b := false) (et_is (by walk_at "et") (by exact decide_eq_false fun z => add_ne_more (V.str.inj z).symm)) (fun hb => by cases hb) (fun _ H1 e1 => ?_)
      have hS1 := ex_t e1 hS
      refine s_retL (el_lst (vs := [.int (x : Int)]) (by walk_at "ea") (by show 1 ≤ 100000; decide)) fun p H2 hp e2 h2 => q _ H2 (e1.trans e2) ⟨p, rfl, fresh_back e1 hp, h2⟩
    | more b y x =>
      have hS : SqT K H t [.str ("more" : Str), .int b, .int y, .int x] := hS
      refine q_when (b := true) (et_is (by walk_at "et") (by exact decide_eq_true rfl)) (fun _ H1 e1 => ?_) (fun hb => by cases hb)
      have hS1 := ex_t e1 hS
      refine s_retL (el_lst (vs := [.int (y : Int), .int (x : Int)]) (by walk_at "ea") (by show 2 ≤ 100000; decide)) fun p H2 hp e2 h2 => q _ H2 (e1.trans e2) ⟨p, rfl, fresh_back e1 hp, h2⟩

abbrev s__law_rounds : Stmt := topS 23
theorem sc__law_rounds : FnScope ["_law_rows", "_law_start", "_law_without", "_law_known", "_law_turn", "_law_fresh", "_law_row", "_law_other"] ["_law_rows", "_law_start", "_law_without"] (defScope s__law_rounds) := ⟨rfl, rfl, rfl, by decide +kernel, rfl, by decide +kernel, by decide +kernel⟩
theorem c__law_rounds (T : Txt mg) (D : DefAt K mg "_law_rounds" s__law_rounds) (c__law_ahead : Cal P w K mg base CX0 1 "_law_ahead" ["_law_row"] (spNexts K)) : Cal P w K mg base CX0 2 "_law_rounds" ["_law_rows", "_law_start", "_law_without"] (spRounds K) := by
  refine cal_of (k := 1) D sc__law_rounds (fun _ _ _ _ _ _ us hl => match us, hl with | [_, _, _], _ => rfl) (fun vs H Q E h => ?_) (fun f cdv A outer s H vs Q E hr h => ?_)
  · obtain ⟨⟨a, rs, s, wa, wo⟩, ⟨rfl, _⟩, _⟩ := h
    rfl
  · obtain ⟨⟨a, rs, st, wa, wo⟩, ⟨rfl, hR, ho, hs, hW⟩, q⟩ := h
    walk_at "ds"
    refine ⟨_, (pss_cons (ps_set (i := 3) sc__law_rounds.nd rfl (by first | exact Or.inl rfl | exact Or.inr rfl) pe_dnewK)
    (pss_cut (ps_if (pt_cmpR (k_notIn_seq (K := K) rfl) (pv 1) (pv 2) (by first | exact nomark _ | rfl)) (pss_one (ps_dput (hu_of hr) (pv 3) (pv 1) pe_int rfl)) pss_nil)
    (pss_cons (ps_for PassesOwn.never rfl (pi_range1 (by rfl) T.n_range (pa_cons (pe_callB (k_len_seq (K := K) rfl) (by rfl) T.n_len PySem.boot_len (pa_cons (pv 0) pa_nil)) pa_nil)) (pg_name (i := 4) sc__law_rounds.nd rfl (by first | exact Or.inl rfl | exact Or.inr rfl)) (pss_cons (ps_set (i := 5) sc__law_rounds.nd rfl (by first | exact Or.inl rfl | exact Or.inr rfl) pe_dnewK)
    (pss_cons (ps_lock (ps_for PassesOwn.never rfl (pi_keys (pv 3)) (pg_name (i := 6) sc__law_rounds.nd rfl (by first | exact Or.inl rfl | exact Or.inr rfl)) (pss_one (ps_for PassesOwn.never rfl (pi_list (pe_cal c__law_ahead (hr.mono (by decide)) (by rfl) pass0 (pa_cons (pe_ix (k_ix_list (K := K) rfl) (pv 0) (pv 6) (fun _ _ => rfl)) pa_nil))) (pg_name (i := 7) sc__law_rounds.nd rfl (by first | exact Or.inl rfl | exact Or.inr rfl)) (pss_one (ps_if (PW.pt (pw_and (pt_cmpR op_lt (pv 7) (pe_callB (k_len_seq (K := K) rfl) (by rfl) T.n_len PySem.boot_len (pa_cons (pv 0) pa_nil)) (nomark _)) (pw_and (pt_cmp (pc_dnotin (hu_of hr) (pv 7) (pv 3))) (pw_and1 (pt_cmpR (k_notIn_seq (K := K) rfl) (pv 7) (pv 2) (by first | exact nomark _ | rfl)))))) (pss_one (ps_dput (hu_of hr) (pv 5) (pv 7) (pe_op op_add (pe_dget (hu_of hr) (pv 3) (pv 6) (fun _ _ => rfl)) pe_int) rfl)) pss_nil))))))
    (pss_one (ps_lock (ps_for PassesOwn.never rfl (pi_keys (pv 5)) (pg_name (i := 6) sc__law_rounds.nd rfl (by first | exact Or.inl rfl | exact Or.inr rfl)) (pss_one (ps_if (pt_cmp (pc_dnotin (hu_of hr) (pv 6) (pv 3))) (pss_one (ps_dput (hu_of hr) (pv 3) (pv 6) (pe_dget (hu_of hr) (pv 5) (pv 6) (fun _ _ => rfl)) rfl)) pss_nil))))))))
    (pss_one (ps_ret (pv 3)))))), ?_⟩
    have h20 := ho.2.1
    have hok : ∀ x, okN rs.length wo x = true → x < rs.length := fun x hx => (okN_iff.mp hx).1
    refine q_asgR ed_new fun v0 H1 e1 r1 => ?_
    obtain ⟨p, rfl, p0, hp1⟩ := r1
    have hW1 := ex_l e1 hW
    refine q_cut (M := fun σ2 H2 => Ex H H2 ∧ (∃ m, H2 p = some (.dK (dk natV m)) ∧ Ro (gx rs) (okN rs.length wo) st 0 m) ∧ σ2 = [some (.ref a), some (.int (st : Int)), some (.ref wa), some (.ref p), none, none, none, none]) ?_ ?_
    · refine s_when (b := !decide (st ∈ wo)) (et_is (et_test (by walk_at "ev")) (by rw [inV_nv])) ?_ ?_
      · intro hb H2 e2
        have hnw : st ∉ wo := by
          rw [Bool.not_eq_true', decide_eq_false_iff_not] at hb
          exact hb
        refine s_dput (a := p) (kvs := []) (k := Sum.inl (st : Int)) (v := .int 1) (by walk_at "ev") (by walk_at "ev") (ev_is (v := .int (st : Int)) (by walk_at "ev") rfl) (e2 _ _ hp1) (by show 0 < 100000; decide) fun H3 e3 => ?_
        refine ⟨Ex.mut ((e1.trans e2).trans e3) p0, ⟨[(st, 1)], upd_same, by simp, fun v => ?_, fun v k hv => ?_⟩, rfl⟩
        · show ((if st = v then some 1 else none) : Option Nat).isSome = true ↔ (v = st ∧ okN rs.length wo st = true)
          by_cases hv : st = v
          · subst hv
            rw [if_pos rfl]
            exact ⟨fun _ => ⟨rfl, okN_iff.mpr ⟨hs, hnw⟩⟩, fun _ => rfl⟩
          · rw [if_neg hv]
            exact ⟨fun z => (by cases z), fun z => absurd z.1.symm hv⟩
        · have hv : ((if st = v then some 1 else none) : Option Nat) = some k := hv
          by_cases hv2 : st = v
          · rw [if_pos hv2] at hv
            cases hv
            subst hv2
            exact ⟨0, rfl, ⟨rfl, okN_iff.mpr ⟨hs, hnw⟩⟩, fun j hj => absurd hj (Nat.not_lt_zero j)⟩
          · rw [if_neg hv2] at hv
            cases hv
      · intro hb H2 e2
        have hin : st ∈ wo := by
          rw [Bool.not_eq_false', decide_eq_true_iff] at hb
          exact hb
        refine ⟨e1.trans e2, ⟨[], e2 _ _ hp1, List.nodup_nil, fun v => ⟨fun z => (by cases z), fun z => absurd hin (okN_iff.mp z.2).2⟩, fun v k z => (by cases z)⟩, rfl⟩
    rintro σ2 H2 ⟨e02, ⟨m0, hp2, hRo0⟩, rfl⟩
    obtain ⟨vs, hvs, hvl, hvr⟩ := id hR
    have hvl : vs.length = rs.length := hvl
    have hvs2 := ex_l e02 hvs
    have mlen : ∀ (t : Nat) (m : List (Nat × Nat)), Ro (gx rs) (okN rs.length wo) st t m → m.length ≤ rs.length := fun t m hRo => by
      have := nodup_lt hRo.nd (n := rs.length) fun x hx => by
        have q1 : (look m x).isSome = true := by
          rw [look_isSome]
          exact decide_eq_true hx
        exact hok x ((hRo.keys x).mp q1).ok_
      rw [List.length_map] at this
      exact this
    -- the turns
    refine q_forR1 (n := (rs.length : Nat)) (ea_cons (ev_is (v := .int (vs.length : Nat)) (by walk_at "ev") (by rw [hvl])) ea_nil) (by omega) (fun i σ' H' => Ex H H' ∧ (∃ m, H' p = some (.dK (dk natV m)) ∧ Ro (gx rs) (okN rs.length wo) st i m) ∧ ∃ y1 y2 y3 y4, σ' = [some (.ref a), some (.int (st : Int)), some (.ref wa), some (.ref p), y1, y2, y3, y4])
      (fun H3 e3 => ⟨e02.trans e3, ⟨m0, e3 _ _ hp2, hRo0⟩, _, _, _, _, rfl⟩) ?_ ?_
    · rintro i σ' H' hi ⟨e, ⟨m, hp, hRo⟩, y1, y2, y3, y4, rfl⟩
      have hml := mlen i m hRo
      refine q_asgR ed_new fun v0 H3 e3 r3 => ?_
      obtain ⟨f, rfl, f0', hf3⟩ := r3
      have f0 : H f = none := fresh_back e f0'
      have nfp : f ≠ p := fun z => by
        subst z
        rw [hp] at f0'
        cases f0'
      have hp3 := e3 _ _ hp
      have e03 := e.trans e3
      -- for row in known
      refine q_forDict (a := p) (kvs := dk natV m) hp3 (he_var rfl) (fun od j σ4 H4 => Ex H H4 ∧ H4 p = some (.frz od (.dK (dk natV m))) ∧ (∃ fm, H4 f = some (.dK (dk natV fm)) ∧ RoF (gx rs) (okN rs.length wo) st i ((m.take j).map (·.1)) [] fm) ∧ ∃ y3 y4, σ4 = [some (.ref a), some (.int (st : Int)), some (.ref wa), some (.ref p), some (.int (i : Int)), some (.ref f), y3, y4])
        (fun od => ⟨Ex.mut e03 p0, upd_same, ⟨[], by rw [upd_ne nfp]; exact hf3, RoF.begin _ _ _ _⟩, _, _, rfl⟩) (fun od j σ4 H4 ⟨_, h, _⟩ => h) ?_ ?_
      · rintro od j k v σ4 H4 hj ⟨e4, hp4, ⟨fm, hf4, hRF⟩, z3, z4, rfl⟩
        obtain ⟨⟨row, d⟩, hmj, hkv⟩ : ∃ x, m[j]? = some x ∧ ((Sum.inl (x.1 : Int) : Key), natV x.2) = (k, v) := by
          unfold dk at hj
          rw [List.getElem?_map] at hj
          cases hh : m[j]? with
          | none =>
            rw [hh] at hj
            cases hj
          | some x =>
            rw [hh] at hj
            exact ⟨x, rfl, Option.some.inj hj⟩
        cases hkv
        have hlk : look m row = some d := look_of_mem hRo.nd (List.mem_of_getElem? hmj)
        have hrow : row < rs.length := hok _ ((hRo.keys row).mp (by rw [hlk]; rfl)).ok_
        show tFor _ _ _ _ [some (.ref a), some (.int (st : Int)), some (.ref wa), some (.ref p), some (.int (i : Int)), some (.ref f), some (.int (row : Nat)), z4] H4
        have hvs4 := ex_l e4 hvs
        have hk : row < vs.length := by omega
        obtain ⟨t, et, ht⟩ := hvr row _ _ (List.getElem?_eq_getElem hk) (List.getElem?_eq_getElem hrow)
        have at1 : atI vs ((row : Nat) : Int) = some (.ref t) := atI_nat (by rw [List.getElem?_eq_getElem hk, et])
        have hnx : gx rs row = rs[row].nx := gx_some (List.getElem?_eq_getElem hrow)
        have hcall : EvL (tCall (spNexts K) [] E0 (tCons (tOp (rIxL K) (tVar 0) (tVar 6)) tNil)) [some (.ref a), some (.int (st : Int)), some (.ref wa), some (.ref p), some (.int (i : Int)), some (.ref f), some (.int (row : Nat)), z4] H4 (nv (gx rs row)) := by
          rw [hnx]
          exact EvR.l (ev_callA (t, rs[row]) (ea_cons (by walk_at "ev") ea_nil) (fun H3 e3 => ⟨rfl, ex_t (e4.trans e3) ht⟩) (fun H1 H2 H3 v e h => h.back _ _ _ _ e))
        have htkm : m.take (j + 1) = m.take j ++ [(row, d)] := by
          rw [List.take_add_one, hmj]
          rfl
        refine s_forNL hcall (fun na jj σ5 H5 => Ex H H5 ∧ H5 p = some (.frz od (.dK (dk natV m))) ∧ H5 na = some (.lst (nv (gx rs row))) ∧ H na = none ∧ na ≠ f ∧ (∃ fm, H5 f = some (.dK (dk natV fm)) ∧ RoF (gx rs) (okN rs.length wo) st i ((m.take j).map (·.1)) ((gx rs row).take jj) fm) ∧ ∃ y4, σ5 = [some (.ref a), some (.int (st : Int)), some (.ref wa), some (.ref p), some (.int (i : Int)), some (.ref f), some (.int (row : Nat)), y4])
          (fun na H5 hna e5 h5 => ⟨e4.trans e5, e5 _ _ hp4, h5, fresh_back e4 hna, fun z => (by subst z; rw [hf4] at hna; cases hna), ⟨fm, e5 _ _ hf4, hRF⟩, _, rfl⟩) ?_ ?_ ?_
        · rintro na jj σ5 H5 _ ⟨_, _, h5, _⟩
          exact SqL.of h5
        · rintro na jj x σ5 H5 hjj ⟨e5, hp5, hna5, hna0, nnf, ⟨fm5, hf5, hRF5⟩, y4', rfl⟩
          have hj2 : jj < (gx rs row).length := by
            have := (List.getElem?_eq_some_iff.mp hjj).1
            rw [nv_len] at this
            exact this
          have hx : x = .int ((gx rs row)[jj] : Nat) := by
            rw [nv_get (List.getElem?_eq_getElem hj2)] at hjj
            exact (Option.some.inj hjj).symm
          subst hx
          have hmem : (gx rs row)[jj] ∈ gx rs row := List.getElem_mem hj2
          have htk : (gx rs row).take (jj + 1) = (gx rs row).take jj ++ [(gx rs row)[jj]] := by
            rw [List.take_add_one, List.getElem?_eq_getElem hj2]
            rfl
          rw [htk]
          generalize (gx rs row)[jj] = o at hmem
          show tIfS _ _ _ _ [some (.ref a), some (.int (st : Int)), some (.ref wa), some (.ref p), some (.int (i : Int)), some (.ref f), some (.int (row : Nat)), some (.int (o : Nat))] H5
          have hvs5 := ex_l e5 hvs
          have hW5 := ex_l e5 hW
          refine s_when (b := decide (o < rs.length) && (!(look m o).isSome && !decide (o ∈ wo))) ?_ ?_ ?_
          · refine et_is (et_and (et_test (ev_op (by walk_at "ev") (by walk_at "ev") (rv_I0b rfl))) fun _ => et_and (et_B (ev_dnotin (k := Sum.inl (o : Int)) (ev_is (v := .int (o : Int)) (by walk_at "ev") rfl) (by walk_at "ev") (Or.inr ⟨od, hp5⟩))) fun _ => et_test (by walk_at "ev")) ?_
            rw [valV_dk, Option.isSome_map, inV_nv, hvl]
            congr 1
            exact decide_eq_decide.mpr (by omega)
          · intro hb9 H6 e6
            rw [Bool.and_eq_true, Bool.and_eq_true, decide_eq_true_iff, Bool.not_eq_true', Bool.not_eq_true', decide_eq_false_iff_not] at hb9
            obtain ⟨ho1, ho2, ho3⟩ := hb9
            have hnone : look m o = none := by
              cases hh : look m o with
              | none => rfl
              | some y =>
                rw [hh] at ho2
                cases ho2
            have hV := hRF5.visit hRo hlk hmem ⟨okN_iff.mpr ⟨ho1, ho3⟩, hnone⟩
            have hfl : fm5.length < 100000 := by
              have := nodup_lt hRF5.nd (n := rs.length) fun x hx => by
                have q1 : (look fm5 x).isSome = true := by
                  rw [look_isSome]
                  exact decide_eq_true hx
                exact hok x ((hRF5.keys x).mp q1).2.1
              rw [List.length_map] at this
              omega
            refine s_dput (a := f) (kvs := dk natV fm5) (k := Sum.inl (o : Int)) (v := natV (d + 1)) ?_ (by walk_at "ev") (ev_is (v := .int (o : Int)) (by walk_at "ev") rfl) (e6 _ _ hf5) (by rw [dk_len]; exact hfl) fun H7 e7 => ?_
            · refine ev_is (v := .int ((d : Int) + 1)) (ev_op (x := .int (d : Int)) (y := .int 1) (ev_dget (k := Sum.inl (row : Int)) (kvs := dk natV m) (by walk_at "ev") (ev_is (v := .int (row : Int)) (by walk_at "ev") rfl) (Or.inr ⟨od, e6 _ _ hp5⟩) (by rw [valV_dk, hlk]; rfl)) (by walk_at "ev") (by walk_at "rv")) ?_
              show V.int ((d : Int) + 1) = V.int ((d + 1 : Nat) : Int)
              congr 1
            · rw [putK_dk]
              refine ⟨Ex.mut ((e5.trans e6).trans e7) f0, ?_, ?_, hna0, nnf, ⟨_, upd_same, hV⟩, _, rfl⟩
              · rw [upd_ne (Ne.symm nfp)]
                exact e7 _ _ (e6 _ _ hp5)
              · rw [upd_ne nnf]
                exact e7 _ _ (e6 _ _ hna5)
          · intro hb9 H6 e6
            refine ⟨e5.trans e6, e6 _ _ hp5, e6 _ _ hna5, hna0, nnf, ⟨fm5, e6 _ _ hf5, hRF5.skip hRo fun z => ?_⟩, _, rfl⟩
            obtain ⟨z3, z4⟩ := okN_iff.mp z.1
            rw [decide_eq_true z3, decide_eq_false z4, z.2] at hb9
            cases hb9
        · rintro na σ5 H5 ⟨e5, hp5, hna5, hna0, nnf, ⟨fm5, hf5, hRF5⟩, y4', rfl⟩
          rw [nv_len, List.take_length] at hRF5
          refine ⟨e5, hp5, ⟨fm5, hf5, ?_⟩, _, _, rfl⟩
          rw [htkm, List.map_append]
          exact hRF5.row
      · rintro od σ4 H4 ⟨e4, hp4, ⟨fm, hf4, hRF⟩, z3, z4, rfl⟩
        rw [dk_len, List.take_length] at hRF
        have e5 : Ex H (upd H4 p (.dK (dk natV m))) := Ex.mut e4 p0
        have hp5 : upd H4 p (.dK (dk natV m)) p = some (.dK (dk natV m)) := upd_same
        have hf5 : upd H4 p (.dK (dk natV m)) f = some (.dK (dk natV fm)) := by
          rw [upd_ne nfp]
          exact hf4
        generalize upd H4 p (.dK (dk natV m)) = H5 at e5 hp5 hf5 ⊢
        have hfkeys : ∀ v, v ∈ fm.map (·.1) → ¬ Rk (gx rs) (fun x => okN rs.length wo x = true) st i v ∧ v < rs.length := fun v hv => by
          have q1 : (look fm v).isSome = true := by
            rw [look_isSome]
            exact decide_eq_true hv
          have := (hRF.keys v).mp q1
          exact ⟨this.1, hok v this.2.1⟩
        -- for row in fresh
        refine s_forDict (a := f) (kvs := dk natV fm) hf5 (he_var rfl) (fun od j σ6 H6 => Ex H H6 ∧ H6 f = some (.frz od (.dK (dk natV fm))) ∧ (∃ mm, H6 p = some (.dK (dk natV mm)) ∧ RoM (gx rs) (okN rs.length wo) st i m fm j mm) ∧ ∃ y3 y4, σ6 = [some (.ref a), some (.int (st : Int)), some (.ref wa), some (.ref p), some (.int (i : Int)), some (.ref f), y3, y4])
          (fun od => ⟨Ex.mut e5 f0, upd_same, ⟨m, by rw [upd_ne (Ne.symm nfp)]; exact hp5, hRo.nd, fun v => by rw [List.take_zero, List.map_nil, if_neg (fun z => nomatch z)]⟩, _, _, rfl⟩) (fun od j σ4 H4 ⟨_, h, _⟩ => h) ?_ ?_
        · rintro od j k v σ6 H6 hj ⟨e6, hf6, ⟨mm, hp6, hM⟩, z3', z4', rfl⟩
          obtain ⟨⟨o, d⟩, hmj, hkv⟩ : ∃ x, fm[j]? = some x ∧ ((Sum.inl (x.1 : Int) : Key), natV x.2) = (k, v) := by
            unfold dk at hj
            rw [List.getElem?_map] at hj
            cases hh : fm[j]? with
            | none =>
              rw [hh] at hj
              cases hj
            | some x =>
              rw [hh] at hj
              exact ⟨x, rfl, Option.some.inj hj⟩
          cases hkv
          have hlk : look fm o = some d := look_of_mem hRF.nd (List.mem_of_getElem? hmj)
          have hd := hRF.val o d hlk
          subst hd
          have htkm : fm.take (j + 1) = fm.take j ++ [(o, i + 2)] := by
            rw [List.take_add_one, hmj]
            rfl
          have hotk : o ∉ (fm.take j).map (·.1) := fun z => by
            have hnd := hRF.nd
            have e1 : fm = fm.take (j + 1) ++ fm.drop (j + 1) := (List.take_append_drop _ _).symm
            rw [e1, htkm, List.map_append, List.map_append] at hnd
            have := (List.nodup_append.mp (List.nodup_append.mp hnd).1).2.2 o z o (List.mem_singleton.mpr rfl)
            exact this rfl
          have homm : look mm o = none := by
            rw [hM.lk, if_neg hotk]
            cases hh : look m o with
            | none => rfl
            | some y => exact absurd ((hRo.keys o).mp (by rw [hh]; rfl)) (hfkeys o (List.mem_map.mpr ⟨_, List.mem_of_getElem? hmj, rfl⟩)).1
          have hmml : mm.length < 100000 := by
            have := nodup_lt hM.nd (n := rs.length) fun x hx => by
              have q1 : (look mm x).isSome = true := by
                rw [look_isSome]
                exact decide_eq_true hx
              rw [hM.lk] at q1
              by_cases z : x ∈ (fm.take j).map (·.1)
              · refine (hfkeys x ?_).2
                obtain ⟨y, hy, rfl⟩ := List.mem_map.mp z
                exact List.mem_map.mpr ⟨y, List.mem_of_mem_take hy, rfl⟩
              · rw [if_neg z] at q1
                exact hok x ((hRo.keys x).mp q1).ok_
            rw [List.length_map] at this
            omega
          refine s_when (b := true) (et_is (et_B (ev_dnotin (k := Sum.inl (o : Int)) (ev_is (v := .int (o : Int)) (ev_var rfl) rfl) (by walk_at "ev") (Or.inl hp6))) (by rw [valV_dk, homm]; rfl)) (fun _ H7 e7 => ?_) (fun hb => by cases hb)
          refine s_dput (a := p) (kvs := dk natV mm) (k := Sum.inl (o : Int)) (v := natV (i + 2)) (ev_dget (k := Sum.inl (o : Int)) (kvs := dk natV fm) (by walk_at "ev") (ev_is (v := .int (o : Int)) (ev_var rfl) rfl) (Or.inr ⟨od, e7 _ _ hf6⟩) (by rw [valV_dk, hlk]; rfl)) (by walk_at "ev") (ev_is (v := .int (o : Int)) (ev_var rfl) rfl) (e7 _ _ hp6) (by rw [dk_len]; exact hmml) fun H8 e8 => ?_
          rw [putK_dk]
          refine ⟨Ex.mut ((e6.trans e7).trans e8) p0, ?_, ⟨_, upd_same, put_keys_nodup hM.nd, fun v => ?_⟩, _, _, rfl⟩
          · rw [upd_ne nfp]
            exact e8 _ _ (e7 _ _ hf6)
          · rw [look_put, hM.lk, htkm, List.map_append]
            have es : ([(o, i + 2)] : List (Nat × Nat)).map (·.1) = [o] := rfl
            rw [es]
            by_cases e : v = o
            · subst e
              rw [if_pos rfl, if_pos (List.mem_append_right _ (List.mem_singleton.mpr rfl))]
            · rw [if_neg e]
              by_cases z : v ∈ (fm.take j).map (·.1)
              · rw [if_pos z, if_pos (List.mem_append_left _ z)]
              · rw [if_neg z, if_neg (fun y => by
                  rcases List.mem_append.mp y with y | y
                  · exact z y
                  · exact e (List.mem_singleton.mp y))]
        · rintro od σ6 H6 ⟨e6, hf6, ⟨mm, hp6, hM⟩, z3', z4', rfl⟩
          rw [dk_len] at hM
          refine ⟨Ex.mut e6 f0, ⟨mm, by rw [upd_ne (Ne.symm nfp)]; exact hp6, hRo.next hRF hM⟩, _, _, _, _, rfl⟩
    · rintro σ' H' ⟨e, ⟨m, hp, hRo⟩, y1, y2, y3, y4, rfl⟩
      have hRo : Ro (gx rs) (okN rs.length wo) st rs.length m := hRo
      refine s_ret (v := .ref p) (by walk_at "ev") fun H9 e9 => q _ H9 (e.trans e9) ⟨p, m, rfl, p0, e9 _ _ hp, hRo.nd, fun v => ?_, hRo.val⟩
      rw [hRo.keys]
      constructor
      · intro z
        have := z.rs
        exact ⟨(okN_iff.mp this.1).2, this.2⟩
      · intro z
        exact Rs.rk_lt (fun v hv => (okN_iff.mp hv).1) (okN_iff.mpr ⟨hs, z.1⟩) z.2

abbrev s_is_whole : Stmt := topS 6
theorem sc_is_whole : FnScope ["thing"] ["thing"] (defScope s_is_whole) := ⟨rfl, rfl, rfl, by decide +kernel, rfl, by decide +kernel, by decide +kernel⟩
theorem c_is_whole (T : Txt mg) (D : DefAt K mg "is_whole" s_is_whole) : Cal P w K mg base CX0 1 "is_whole" ["thing"] spWhole := by
  refine cal_of (k := 0) D sc_is_whole (fun _ _ _ _ _ _ us hl => match us, hl with | [_], _ => rfl) (fun vs H Q E h => ?_) (fun f cdv A outer s H vs Q E hr h => ?_)
  · obtain ⟨i, rfl, _⟩ := h
    rfl
  · obtain ⟨i, rfl, q⟩ := h
    walk_at "ds"
    refine ⟨_, (pss_one (ps_ret (pe_and (pe_callB (k_isi (K := K) rfl) (by rfl) T.n_isinstance (by decide +kernel) (pa_cons (pv 0) (pa_cons (pe_bltn (v := .ty "int") (by rfl) T.n_int (by decide +kernel) rfl) pa_nil))) (pe_one (pe_not (pe_callB (k_isi (K := K) rfl) (by rfl) T.n_isinstance (by decide +kernel) (pa_cons (pv 0) (pa_cons (pe_bltn (v := .ty "bool") (by rfl) T.n_bool (by decide +kernel) rfl) pa_nil)))))))), ?_⟩
    apply s_ret
    · walk_at "ev"
    · intro H1 e1
      exact q _ H1 e1 rfl

abbrev s_good_row : Stmt := topS 7
theorem sc_good_row : FnScope ["row", "many"] ["row", "many"] (defScope s_good_row) := ⟨rfl, rfl, rfl, by decide +kernel, rfl, by decide +kernel, by decide +kernel⟩
theorem c_good_row (T : Txt mg) (D : DefAt K mg "good_row" s_good_row) (k_BOXES : ∃ t, mg "BOXES" = some (Value.int 4 t)) (c_is_whole : Cal P w K mg base CX0 1 "is_whole" ["thing"] spWhole) : Cal P w K mg base CX0 2 "good_row" ["row", "many"] (spGood K) := by
  refine cal_of (k := 1) D sc_good_row (fun _ _ _ _ _ _ us hl => match us, hl with | [_, _], _ => rfl) (fun vs H Q E h => ?_) (fun f cdv A outer s H vs Q E hr h => ?_)
  · obtain ⟨⟨t, r, m⟩, ⟨rfl, _⟩, _⟩ := h
    rfl
  · obtain ⟨⟨t, r, m⟩, ⟨rfl, hS, ho⟩, q⟩ := h
    walk_at "ds"
    refine ⟨_, (pss_cons (ps_if (PW.pt (pw_or (pt_cmpR op_ne (pe_callB (k_len_seq (K := K) rfl) (by rfl) T.n_len PySem.boot_len (pa_cons (pv 0) pa_nil)) pe_int (nomark _)) (pw_or (pt_not (pt_val (pe_callB (k_isi (K := K) rfl) (by rfl) T.n_isinstance (by decide +kernel) (pa_cons (pe_ix (k_ix_tup (K := K) rfl) (pv 0) pe_int (fun _ _ => rfl)) (pa_cons (pe_bltn (v := .ty "str") (by rfl) T.n_str (by decide +kernel) rfl) pa_nil))))) (pw_or1 (pt_cmpR (k_notIn_seq (K := K) rfl) (pe_ix (k_ix_tup (K := K) rfl) (pv 0) pe_int (fun _ _ => rfl)) (pe_tup (pa_cons pe_str (pa_cons pe_str pa_nil))) (by first | exact nomark _ | rfl)))))) (pss_one (ps_ret pe_bl)) pss_nil)
    (pss_cons (ps_if (PW.pt (pw_or (pt_not (pt_val (pe_cal c_is_whole (hr.mono (by decide)) (by rfl) pass0 (pa_cons (pe_ix (k_ix_tup (K := K) rfl) (pv 0) pe_int (fun _ _ => rfl)) pa_nil)))) (pw_or (pt_not (pt_val (pe_cal c_is_whole (hr.mono (by decide)) (by rfl) pass0 (pa_cons (pe_ix (k_ix_tup (K := K) rfl) (pv 0) pe_int (fun _ _ => rfl)) pa_nil)))) (pw_or1 (pt_not (pt_val (pe_cal c_is_whole (hr.mono (by decide)) (by rfl) pass0 (pa_cons (pe_ix (k_ix_tup (K := K) rfl) (pv 0) pe_int (fun _ _ => rfl)) pa_nil)))))))) (pss_one (ps_ret pe_bl)) pss_nil)
    (pss_cons (ps_if (PW.pt (pw_and (pt_cmpR op_eq (pe_ix (k_ix_tup (K := K) rfl) (pv 0) pe_int (fun _ _ => rfl)) pe_str (nomark _)) (pw_and1 (pt_not (pt_chain op_le op_le pe_int (pe_ix (k_ix_tup (K := K) rfl) (pv 0) pe_int (fun _ _ => rfl)) (pv 1)))))) (pss_one (ps_ret pe_bl)) pss_nil)
    (pss_one (ps_ret (pe_and (pe_chain op_le op_lt pe_int (pe_ix (k_ix_tup (K := K) rfl) (pv 0) pe_int (fun _ _ => rfl)) (pe_globI (by rfl) k_BOXES)) (pe_one (pe_chain op_le op_le pe_int (pe_ix (k_ix_tup (K := K) rfl) (pv 0) pe_int (fun _ _ => rfl)) (pv 1))))))))), ?_⟩
    have hS : SqT K H t [.str r.word, .int r.box, .int r.mid, .int r.last] := by
      rw [← r.vs_eq]
      exact hS
    have whole : ∀ (H' : Hp) (σ : L2.St) (t1 : TE) (i : Int), Ev t1 σ H' (.int i) → EvT (tNot (tB (tCall spWhole [] E0 (tCons t1 tNil)))) σ H' false := fun H' σ t1 i h1 =>
      et_is (et_not (et_B (ev_callV i (ea_cons h1 ea_nil) (fun _ _ => rfl)))) rfl
    refine q_when (b := false) ?_ (fun hb => by cases hb) fun _ H1 e1 => ?_
    · refine et_is (et_or (et_test (by walk_at "ev")) fun _ => et_or (b := false) (by walk_at "et") fun _ => et_test (ev_is (v := .bl (!inV (.str r.word) [.str ("add" : Str), .str ("more" : Str)])) (ev_niU (by walk_at "ev") (eu_tup (by walk_at "ea") (by show 2 ≤ 100000; decide)) rfl rfl) ?_)) ?_
      · show _ = V.bl false
        cases r <;> rfl
      · rfl
    have hS1 := ex_t e1 hS
    refine q_when (b := false) ?_ (fun hb => by cases hb) fun _ H2 e2 => ?_
    · exact et_is (et_or (whole _ _ _ _ (by walk_at "ev")) fun _ => et_or (whole _ _ _ _ (by walk_at "ev")) fun _ => whole _ _ _ _ (by walk_at "ev")) rfl
    have hS2 := ex_t e2 hS1
    refine q_when (b := false) ?_ (fun hb => by cases hb) fun _ H3 e3 => ?_
    · refine et_is (et_and (et_test (ev_op (ev_op (by walk_at "ev") (by walk_at "ev") (by walk_at "rv")) (by walk_at "ev") (by walk_at "rv"))) fun hw => et_not (et_test (ev_is (w := .bl true) (ev_chain (a := true) (b := true) (by walk_at "ev") (ev_op (by walk_at "ev") (by walk_at "ev") (by walk_at "rv")) (rv_I0b ?_) (fun _ => ⟨by walk_at "ev", rv_I0b ?_⟩)) rfl))) ?_
      · cases r with
        | add b n x => exact absurd (of_decide_eq_true hw) (by intro z; exact add_ne_more (V.str.inj z).symm)
        | more b y x => exact congrArg V.bl (decide_eq_true (by show (0 : Int) ≤ (y : Int); omega))
      · cases r with
        | add b n x => exact absurd (of_decide_eq_true hw) (by intro z; exact add_ne_more (V.str.inj z).symm)
        | more b y x => exact congrArg V.bl (decide_eq_true (by have := ho.2.1; show (y : Int) ≤ (m : Int); omega))
      · rw [Bool.not_true, Bool.and_false]
    have hS3 := ex_t e3 hS2
    have hb := URow.box_lt ho
    have hl := URow.last_le ho
    refine s_ret (v := .bl true) (ev_is (ev_andV (ev_chain (a := true) (b := true) (by walk_at "ev") (ev_op (by walk_at "ev") (by walk_at "ev") (by walk_at "rv")) (rv_I0b ?_) (fun _ => ⟨by walk_at "ev", rv_I0b ?_⟩))
      fun _ => ev_chain (a := true) (b := true) (by walk_at "ev") (ev_op (by walk_at "ev") (by walk_at "ev") (by walk_at "rv")) (rv_I0b ?_) (fun _ => ⟨by walk_at "ev", rv_I0b ?_⟩)) rfl) fun H4 e4 => q _ H4 (((e1.trans e2).trans e3).trans e4) rfl
    · exact congrArg V.bl (decide_eq_true (by omega))
    · exact congrArg V.bl (decide_eq_true (by omega))
    · exact congrArg V.bl (decide_eq_true (by omega))
    · exact congrArg V.bl (decide_eq_true (by omega))

abbrev s_need_rows : Stmt := topS 8
theorem sc_need_rows : FnScope ["rows", "row"] ["rows"] (defScope s_need_rows) := ⟨rfl, rfl, rfl, by decide +kernel, rfl, by decide +kernel, by decide +kernel⟩
theorem c_need_rows (T : Txt mg) (D : DefAt K mg "need_rows" s_need_rows) (k_MOST_ROWS : ∃ t, mg "MOST_ROWS" = some (Value.int 20 t)) (c_good_row : Cal P w K mg base CX0 2 "good_row" ["row", "many"] (spGood K)) : Cal P w K mg base CX0 3 "need_rows" ["rows"] (spNeed K) := by
  refine cal_of (k := 2) D sc_need_rows (fun _ _ _ _ _ _ us hl => match us, hl with | [_], _ => rfl) (fun vs H Q E h => ?_) (fun f cdv A outer s H vs Q E hr h => ?_)
  · obtain ⟨⟨a, rs⟩, ⟨rfl, _⟩, _⟩ := h
    rfl
  · obtain ⟨⟨a, rs⟩, ⟨rfl, hR, ho⟩, q⟩ := h
    walk_at "ds"
    refine ⟨_, (pss_cons (ps_if (pt_not (pt_chain op_le op_le pe_int (pe_callB (k_len_seq (K := K) rfl) (by rfl) T.n_len PySem.boot_len (pa_cons (pv 0) pa_nil)) (pe_globI (by rfl) k_MOST_ROWS))) (pss_one ps_never) pss_nil)
    (pss_one (ps_for PassesOwn.never rfl (pi_list (pv 0)) (pg_name (i := 1) sc_need_rows.nd rfl (by first | exact Or.inl rfl | exact Or.inr rfl)) (pss_one (ps_if (pt_not (pt_val (pe_cal c_good_row (hr.mono (by decide)) (by rfl) pass0 (pa_cons (pv 1) (pa_cons (pe_callB (k_len_seq (K := K) rfl) (by rfl) T.n_len PySem.boot_len (pa_cons (pv 0) pa_nil)) pa_nil))))) (pss_one ps_never) pss_nil))))), ?_⟩
    obtain ⟨vs, hS, hl, hg⟩ := id hR
    refine q_when (b := false) ?_ (fun hb => by cases hb) fun _ H1 e1 => ?_
    · refine et_is (et_not (et_test (ev_is (w := .bl true) (ev_chain (a := true) (b := true) (by walk_at "ev") (by walk_at "ev") (rv_I0b ?_) (fun _ => ⟨by walk_at "ev", rv_I0b ?_⟩)) rfl))) rfl
      · exact congrArg V.bl (decide_eq_true (by have := ho.1; omega))
      · exact congrArg V.bl (decide_eq_true (by have := ho.2.1; omega))
    have hS1 := ex_l e1 hS
    refine s_forLn (by walk_at "ev") hS1 (fun i σ' H' => Ex H H' ∧ ∃ y, σ' = [some (.ref a), y]) (fun H2 e2 => ⟨e1.trans e2, none, rfl⟩) (fun i σ' H' _ ⟨e, _⟩ => ex_l e hS) ?_ ?_
    · rintro i x σ' H' hi ⟨e, y, rfl⟩
      have hSe := ex_l e hS
      have hi2 : i < rs.length := by
        have := (List.getElem?_eq_some_iff.mp hi).1
        omega
      obtain ⟨t, rfl, ht⟩ := hg i x rs[i] hi (List.getElem?_eq_getElem hi2)
      refine s_when (b := false) ?_ (fun hb => by cases hb) fun _ H3 e3 => ⟨e.trans e3, _, rfl⟩
      refine et_is (et_not (et_B (ev_callV (t, rs[i], rs.length) (ea_cons (by walk_at "ev") (ea_cons (ev_is (v := .int (vs.length : Nat)) (by walk_at "ev") (by rw [hl])) ea_nil)) (fun H4 e4 => ⟨rfl, ex_t (e.trans e4) ht, ho.2.2 _ (List.getElem_mem hi2)⟩)))) rfl
    · rintro σ' H' ⟨e, y, rfl⟩
      exact q _ H' e rfl

abbrev s_nexts : Stmt := topS 9
theorem sc_nexts : FnScope ["row"] ["row"] (defScope s_nexts) := ⟨rfl, rfl, rfl, by decide +kernel, rfl, by decide +kernel, by decide +kernel⟩
theorem c_nexts (T : Txt mg) (D : DefAt K mg "nexts" s_nexts) : Cal P w K mg base CX0 1 "nexts" ["row"] (spNexts K) := by
  refine cal_of (k := 0) D sc_nexts (fun _ _ _ _ _ _ us hl => match us, hl with | [_], _ => rfl) (fun vs H Q E h => ?_) (fun f cdv A outer s H vs Q E hr h => ?_)
  · obtain ⟨⟨t, r⟩, ⟨rfl, _⟩, _⟩ := h
    rfl
  · obtain ⟨⟨t, r⟩, ⟨rfl, hS⟩, q⟩ := h
    walk_at "ds"
    refine ⟨_, (pss_cons (ps_if (pt_cmpR op_eq (pe_ix (k_ix_tup (K := K) rfl) (pv 0) pe_int (fun _ _ => rfl)) pe_str (nomark _)) (pss_one (ps_ret (pe_lst (pa_cons (pe_ix (k_ix_tup (K := K) rfl) (pv 0) pe_int (fun _ _ => rfl)) pa_nil)))) pss_nil)
    (pss_one (ps_ret (pe_lst (pa_cons (pe_ix (k_ix_tup (K := K) rfl) (pv 0) pe_int (fun _ _ => rfl)) (pa_cons (pe_ix (k_ix_tup (K := K) rfl) (pv 0) pe_int (fun _ _ => rfl)) pa_nil)))))), ?_⟩
    cases r with
    | add b n x =>
      have hS : SqT K H t [.str ("add" : Str), .int b, .int n, .int x] := hS
      refine q_when (b := true) (et_is (by walk_at "et") (by exact decide_eq_true rfl)) (fun _ H1 e1 => ?_) (fun hb => by cases hb)
      have hS1 := ex_t e1 hS
      refine s_retL (el_lst (vs := [.int (x : Int)]) (by walk_at "ea") (by show 1 ≤ 100000; decide)) fun p H2 hp e2 h2 => q _ H2 (e1.trans e2) ⟨p, rfl, fresh_back e1 hp, h2⟩
    | more b y x =>
      have hS : SqT K H t [.str ("more" : Str), .int b, .int y, .int x] := hS
      refine q_when (b := false) (et_is (by walk_at "et") (by exact decide_eq_false fun z => add_ne_more (V.str.inj z))) (fun hb => by cases hb) (fun _ H1 e1 => ?_)
      have hS1 := ex_t e1 hS
      refine s_retL (el_lst (vs := [.int (y : Int), .int (x : Int)]) (by walk_at "ea") (by show 2 ≤ 100000; decide)) fun p H2 hp e2 h2 => q _ H2 (e1.trans e2) ⟨p, rfl, fresh_back e1 hp, h2⟩

abbrev s_follow : Stmt := topS 11
theorem sc_follow : FnScope ["rows", "start", "without", "ahead", "waiting", "fresh", "row", "other"] ["rows", "start", "without"] (defScope s_follow) := ⟨rfl, rfl, rfl, by decide +kernel, rfl, by decide +kernel, by decide +kernel⟩
theorem c_follow (T : Txt mg) (D : DefAt K mg "follow" s_follow) (c_nexts : Cal P w K mg base CX0 1 "nexts" ["row"] (spNexts K)) : Cal P w K mg base CX0 2 "follow" ["rows", "start", "without"] (spFollow K) := by
  refine cal_of (k := 1) D sc_follow (fun _ _ _ _ _ _ us hl => match us, hl with | [_, _, _], _ => rfl) (fun vs H Q E h => ?_) (fun f cdv A outer s H vs Q E hr h => ?_)
  · obtain ⟨⟨a, rs, s, wa, wo⟩, ⟨rfl, _⟩, _⟩ := h
    rfl
  · obtain ⟨⟨a, rs, st, wa, wo⟩, ⟨rfl, hR, ho, hs, hW⟩, q⟩ := h
    walk_at "ds"
    refine ⟨_, (pss_cons (ps_set (i := 3) sc_follow.nd rfl (by first | exact Or.inl rfl | exact Or.inr rfl) pe_dnewK)
    (pss_cons (ps_if (pt_cmpR (k_in_seq (K := K) rfl) (pv 1) (pv 2) (by first | exact nomark _ | rfl)) (pss_one (ps_ret (pv 3))) pss_nil)
    (pss_cons (ps_dput (hu_of hr) (pv 3) (pv 1) pe_non rfl)
    (pss_cons (ps_set (i := 4) sc_follow.nd rfl (by first | exact Or.inl rfl | exact Or.inr rfl) (pe_lst (pa_cons (pv 1) pa_nil)))
    (pss_cons (ps_while PassesOwn.never (pt_cmpR op_gt (pe_callB (k_len_seq (K := K) rfl) (by rfl) T.n_len PySem.boot_len (pa_cons (pv 4) pa_nil)) pe_int (nomark _)) (pss_cons (ps_set (i := 5) sc_follow.nd rfl (by first | exact Or.inl rfl | exact Or.inr rfl) (pe_lst pa_nil))
    (pss_cons (ps_for PassesOwn.never rfl (pi_list (pv 4)) (pg_name (i := 6) sc_follow.nd rfl (by first | exact Or.inl rfl | exact Or.inr rfl)) (pss_one (ps_for PassesOwn.never rfl (pi_list (pe_cal c_nexts (hr.mono (by decide)) (by rfl) pass0 (pa_cons (pe_ix (k_ix_list (K := K) rfl) (pv 0) (pv 6) (fun _ _ => rfl)) pa_nil))) (pg_name (i := 7) sc_follow.nd rfl (by first | exact Or.inl rfl | exact Or.inr rfl)) (pss_one (ps_if (PW.pt (pw_and (pt_cmpR op_lt (pv 7) (pe_callB (k_len_seq (K := K) rfl) (by rfl) T.n_len PySem.boot_len (pa_cons (pv 0) pa_nil)) (nomark _)) (pw_and (pt_cmp (pc_dnotin (hu_of hr) (pv 7) (pv 3))) (pw_and1 (pt_cmpR (k_notIn_seq (K := K) rfl) (pv 7) (pv 2) (by first | exact nomark _ | rfl)))))) (pss_cons (ps_dput (hu_of hr) (pv 3) (pv 7) (pv 6) rfl)
    (pss_one (ps_expr (pe_bm PySem.F.plainAttrs_list PySem.F.slot_list_append PySem.F.type_list_append mt_append (pv 5) (pa_cons (pv 7) pa_nil))))) pss_nil)))))
    (pss_one (ps_set (i := 4) sc_follow.nd rfl (by first | exact Or.inl rfl | exact Or.inr rfl) (pv 5))))))
    (pss_one (ps_ret (pv 3)))))))), ?_⟩
    refine q_asgR ed_new fun v0 H1 e1 r1 => ?_
    obtain ⟨p, rfl, p0, hp1⟩ := r1
    have hW1 := ex_l e1 hW
    refine q_when (b := decide (st ∈ wo)) (et_is (et_test (by walk_at "ev")) (by rw [inV_nv])) ?_ ?_
    · intro hb H2 e2
      exact s_ret (v := .ref p) (by walk_at "ev") fun H3 e3 => q _ H3 ((e1.trans e2).trans e3) ⟨p, [], rfl, p0, e3 _ _ (e2 _ _ hp1), .inl ⟨of_decide_eq_true hb, rfl⟩⟩
    intro hb H2 e2
    have hnw : st ∉ wo := of_decide_eq_false hb
    refine q_dput (a := p) (kvs := []) (k := Sum.inl (st : Int)) (v := .non) (by walk_at "ev") (by walk_at "ev") (ev_is (v := .int (st : Int)) (by walk_at "ev") rfl) (e2 _ _ hp1) (by show 0 < 100000; decide) fun H3 e3 => ?_
    have e04 : Ex H (upd H3 p (.dK (putK [] (Sum.inl (st : Int)) .non))) := Ex.mut ((e1.trans e2).trans e3) p0
    have hp4 : upd H3 p (.dK (putK [] (Sum.inl (st : Int)) .non)) p = some (.dK (dk parV [(st, none)])) := upd_same
    generalize upd H3 p (.dK (putK [] (Sum.inl (st : Int)) .non)) = H4 at e04 hp4 ⊢
    refine q_asgL (el_lst (vs := [.int (st : Int)]) (by walk_at "ea") (by show 1 ≤ 100000; decide)) fun w0 H5 hw0 e5 h5 => ?_
    have hok : ∀ x, okN rs.length wo x = true → x < rs.length := fun x hx => (okN_iff.mp hx).1
    -- the layers
    refine q_whileW (fun m σ' H' => ∃ (k : Nat) (mm : List (Nat × Option Nat)) (wt : List Nat) (wq : Addr) (y1 y2 y3 : Option V), Ex H H' ∧ H' p = some (.dK (dk parV mm)) ∧ H' wq = some (.lst (nv wt)) ∧ Bf (okN rs.length wo) (gx rs) st k mm wt ∧
        m = 2 * (rs.length - mm.length) + wt.length ∧ σ' = [some (.ref a), some (.int (st : Int)), some (.ref wa), some (.ref p), some (.ref wq), y1, y2, y3]) _ ⟨0, [(st, none)], [st], w0, none, none, none, e04.trans e5, e5 _ _ hp4, h5, ⟨by simp, fun v => ?_, fun v => ?_, fun v qq hq => ?_⟩, rfl, rfl⟩ ?_
    · show ((if st = v then some (none : Option Nat) else none) : Option (Option Nat)).isSome = true ↔ (v = st ∧ okN rs.length wo st = true)
      by_cases hv : st = v
      · subst hv
        rw [if_pos rfl]
        exact ⟨fun _ => ⟨rfl, okN_iff.mpr ⟨hs, hnw⟩⟩, fun _ => rfl⟩
      · rw [if_neg hv]
        exact ⟨fun z => (by cases z), fun z => absurd z.1.symm hv⟩
    · rw [List.mem_singleton]
      constructor
      · rintro rfl
        exact ⟨⟨rfl, okN_iff.mpr ⟨hs, hnw⟩⟩, fun j hj => absurd hj (Nat.not_lt_zero j)⟩
      · intro d
        exact d.1.1
    · have hq : (if st = v then some (none : Option Nat) else none) = some qq := hq
      by_cases hv : st = v
      · rw [if_pos hv] at hq
        cases hq
        exact hv.symm
      · rw [if_neg hv] at hq
        cases hq
    rintro m σ' H' ⟨k, mm, wt, wq, y1, y2, y3, e, hp, hwq, hB, rfl, rfl⟩
    have hwS : SqL K H' wq (nv wt) := SqL.of hwq
    have mlen : ∀ (k : Nat) (mm : List (Nat × Option Nat)) (wt : List Nat), Bf (okN rs.length wo) (gx rs) st k mm wt → mm.length ≤ rs.length := fun k mm wt hB => by
      have := nodup_lt hB.nd (n := rs.length) fun x hx => by
        have q1 : (look mm x).isSome = true := by
          rw [look_isSome]
          exact decide_eq_true hx
        exact hok x ((hB.keys x).mp q1).ok_
      rw [List.length_map] at this
      exact this
    refine ⟨decide (0 < wt.length), et_is (et_test (ev_op (by walk_at "ev") (by walk_at "ev") (rv_I0b rfl))) (by rw [nv_len]; exact decide_eq_decide.mpr (by omega)), ?_, ?_⟩
    · intro hb5 H6 e6
      have hwt : 0 < wt.length := of_decide_eq_true hb5
      have hpos : ∃ r0, r0 ∈ wt := by
        cases wt with
        | nil => exact absurd hwt (Nat.lt_irrefl 0)
        | cons r0 t => exact ⟨r0, List.mem_cons_self⟩
      refine q_asgL (el_lst (vs := []) (by walk_at "ea") (by show 0 ≤ 100000; decide)) fun fq H7 hfq e7 h7 => ?_
      have e07 := (e.trans e6).trans e7
      have hp7 := e7 _ _ (e6 _ _ hp)
      have hw7 := e7 _ _ (e6 _ _ hwq)
      have fq0 : H fq = none := fresh_back (e.trans e6) hfq
      have npf : fq ≠ p := fun z => by
        subst z
        rw [e6 _ _ hp] at hfq
        cases hfq
      have nwf : wq ≠ fq := fun z => by
        subst z
        rw [e6 _ _ hwq] at hfq
        cases hfq
      have nwp : wq ≠ p := fun z => by
        subst z
        rw [hwq] at hp
        cases hp
      -- for row in waiting
      refine q_forLn (a := wq) (xs := nv wt) (by walk_at "ev") (SqL.of hw7) (fun i σ2 H2 => ∃ (m2 : List (Nat × Option Nat)) (f2 : List Nat) (y2 y3 : Option V) (r0 : Nat), Ex H H2 ∧ H2 wq = some (.lst (nv wt)) ∧ H2 p = some (.dK (dk parV m2)) ∧ H2 fq = some (.lst (nv f2)) ∧
          Bm (okN rs.length wo) (gx rs) st k (wt.take i) r0 [] m2 f2 ∧ mm.length + f2.length = m2.length ∧ σ2 = [some (.ref a), some (.int (st : Int)), some (.ref wa), some (.ref p), some (.ref wq), some (.ref fq), y2, y3]) (fun H8 e8 => ?_) ?_ ?_ ?_
      · exact ⟨mm, [], y2, y3, 0, e07.trans e8, e8 _ _ hw7, e8 _ _ hp7, e8 _ _ h7, hB.begin, rfl, rfl⟩
      · rintro i σ2 H2 _ ⟨m2, f2, z2, z3, r0, _, h2, _⟩
        exact SqL.of h2
      · rintro i x σ2 H2 hi ⟨m2, f2, z2, z3, r0, e2', hw2, hp2, hf2, hM, hlen, rfl⟩
        have hi2 : i < wt.length := by
          have := (List.getElem?_eq_some_iff.mp hi).1
          rw [nv_len] at this
          exact this
        have hx : x = .int (wt[i] : Nat) := by
          rw [nv_get (List.getElem?_eq_getElem hi2)] at hi
          exact (Option.some.inj hi).symm
        subst hx
        have hd : Dist (gx rs) (fun x => okN rs.length wo x = true) st k wt[i] := (hB.lay _).mp (List.getElem_mem hi2)
        have hrl : wt[i] < rs.length := hok _ hd.1.ok_
        generalize hrow : wt[i] = row at hd hrl ⊢
        obtain ⟨vs, hvs, hvl, hvr⟩ := hR.mono e2'
        have hk : row < vs.length := by
          have := hvl
          omega
        obtain ⟨t, et, ht⟩ := hvr row _ _ (List.getElem?_eq_getElem hk) (List.getElem?_eq_getElem hrl)
        have at1 : atI vs ((row : Nat) : Int) = some (.ref t) := atI_nat (by rw [List.getElem?_eq_getElem hk, et])
        have hnx : gx rs row = rs[row].nx := gx_some (List.getElem?_eq_getElem hrl)
        have hcall : EvL (tCall (spNexts K) [] E0 (tCons (tOp (rIxL K) (tVar 0) (tVar 6)) tNil)) [some (.ref a), some (.int (st : Int)), some (.ref wa), some (.ref p), some (.ref wq), some (.ref fq), some (.int (row : Nat)), z3] H2 (nv (gx rs row)) := by
          rw [hnx]
          exact EvR.l (ev_callA (t, rs[row]) (ea_cons (by walk_at "ev") ea_nil) (fun H3 e3 => ⟨rfl, ex_t e3 ht⟩) (fun H1 H2 H3 v e h => h.back _ _ _ _ e))
        -- for other in nexts(..)
        refine s_forNL hcall (fun na j σ3 H3 => ∃ (m3 : List (Nat × Option Nat)) (f3 : List Nat) (y3 : Option V), Ex H H3 ∧ H3 na = some (.lst (nv (gx rs row))) ∧ H na = none ∧ na ≠ fq ∧ na ≠ p ∧ H3 wq = some (.lst (nv wt)) ∧ H3 p = some (.dK (dk parV m3)) ∧ H3 fq = some (.lst (nv f3)) ∧
          Bm (okN rs.length wo) (gx rs) st k (wt.take i) row ((gx rs row).take j) m3 f3 ∧ mm.length + f3.length = m3.length ∧ σ3 = [some (.ref a), some (.int (st : Int)), some (.ref wa), some (.ref p), some (.ref wq), some (.ref fq), some (.int (row : Nat)), y3]) (fun na H3 hna e3 h3 => ?_) ?_ ?_ ?_
        · refine ⟨m2, f2, z3, e2'.trans e3, h3, fresh_back e2' hna, fun z => ?_, fun z => ?_, e3 _ _ hw2, e3 _ _ hp2, e3 _ _ hf2, ⟨hM.nd, hM.keys, hM.fresh, hM.par⟩, hlen, rfl⟩
          · subst z
            rw [hf2] at hna
            cases hna
          · subst z
            rw [hp2] at hna
            cases hna
        · rintro na j σ3 H3 _ ⟨m3, f3, y3, _, h3, _⟩
          exact SqL.of h3
        · rintro na j x σ3 H3 hj ⟨m3, f3, y3, e3, hna3, hna0, nnf, nnp, hw3, hp3, hf3, hM3, hlen3, rfl⟩
          have hj2 : j < (gx rs row).length := by
            have := (List.getElem?_eq_some_iff.mp hj).1
            rw [nv_len] at this
            exact this
          have hx : x = .int ((gx rs row)[j] : Nat) := by
            rw [nv_get (List.getElem?_eq_getElem hj2)] at hj
            exact (Option.some.inj hj).symm
          subst hx
          have hmem : (gx rs row)[j] ∈ gx rs row := List.getElem_mem hj2
          have htk : (gx rs row).take (j + 1) = (gx rs row).take j ++ [(gx rs row)[j]] := by
            rw [List.take_add_one, List.getElem?_eq_getElem hj2]
            rfl
          have hV := hM3.visit hd hmem
          rw [← htk] at hV
          generalize (gx rs row)[j] = o at hmem hV
          show tIfS _ _ _ _ [some (.ref a), some (.int (st : Int)), some (.ref wa), some (.ref p), some (.ref wq), some (.ref fq), some (.int (row : Nat)), some (.int (o : Nat))] H3
          have hR3 := hR.mono e3
          obtain ⟨vs3, hvs3, hvl3, _⟩ := id hR3
          have hW3 := ex_l e3 hW
          refine s_when (b := decide (o < rs.length) && (!(look m3 o).isSome && !decide (o ∈ wo))) ?_ ?_ ?_
          · refine et_is (et_and (et_test (ev_op (by walk_at "ev") (by walk_at "ev") (rv_I0b rfl))) fun _ => et_and (et_B (ev_dnotin (k := Sum.inl (o : Int)) (ev_is (v := .int (o : Int)) (by walk_at "ev") rfl) (by walk_at "ev") (Or.inl hp3))) fun _ => et_test (by walk_at "ev")) ?_
            rw [valV_dk, Option.isSome_map, inV_nv, hvl3]
            congr 1
            exact decide_eq_decide.mpr (by show ((o : Nat) : Int) < ((rs.length : Nat) : Int) ↔ o < rs.length; omega)
          · intro hb9 H9 e9
            rw [Bool.and_eq_true, Bool.and_eq_true, decide_eq_true_iff, Bool.not_eq_true', Bool.not_eq_true', decide_eq_false_iff_not] at hb9
            obtain ⟨ho1, ho2, ho3⟩ := hb9
            have hlk : look m3 o = none := by
              cases hh : look m3 o with
              | none => rfl
              | some y =>
                rw [hh] at ho2
                cases ho2
            have hvis : visit (okN rs.length wo) row (m3, f3) o = (put m3 o (some row), f3 ++ [o]) := if_pos ⟨okN_iff.mpr ⟨ho1, ho3⟩, hlk⟩
            rw [hvis] at hV
            have hmb : m3.length < 100000 := by
              have h1 : ((put m3 o (some row)).map (·.1)).Nodup := hV.nd
              have h2 := nodup_lt (n := rs.length) h1 fun x hx => by
                have q1 : (look (put m3 o (some row)) x).isSome = true := by
                  rw [look_isSome]
                  exact decide_eq_true hx
                rcases (hV.keys x).mp q1 with z | z
                · exact hok x z.ok_
                · exact hok x z.1
              rw [put_new hlk, List.length_map, List.length_append, List.length_singleton] at h2
              have := ho.2.1
              omega
            refine q_dput (a := p) (kvs := dk parV m3) (k := Sum.inl (o : Int)) (v := .int (row : Int)) (by walk_at "ev") (by walk_at "ev") (ev_is (v := .int (o : Int)) (by walk_at "ev") rfl) (e9 _ _ hp3) (by rw [dk_len]; exact hmb) fun H10 e10 => ?_
            have e11 : Ex H (upd H10 p (.dK (putK (dk parV m3) (Sum.inl (o : Int)) (.int (row : Int))))) := Ex.mut ((e3.trans e9).trans e10) p0
            have k1 : ∀ b u, b ≠ p → H3 b = some u → upd H10 p (.dK (putK (dk parV m3) (Sum.inl (o : Int)) (.int (row : Int)))) b = some u := fun b u hb hu => by
              rw [upd_ne hb]
              exact e10 _ _ (e9 _ _ hu)
            have hp11 : upd H10 p (.dK (putK (dk parV m3) (Sum.inl (o : Int)) (.int (row : Int)))) p = some (.dK (dk parV (put m3 o (some row)))) := by
              rw [upd_same, ← putK_dk]
              rfl
            generalize upd H10 p (.dK (putK (dk parV m3) (Sum.inl (o : Int)) (.int (row : Int)))) = H11 at e11 k1 hp11 ⊢
            have hf11 := k1 fq _ npf hf3
            have hw11 := k1 wq _ nwp hw3
            have hna11 := k1 na _ nnp hna3
            have hfb : f3.length < 100000 := by
              have : m3.length = mm.length + f3.length := hlen3.symm
              omega
            refine s_app (l := fq) (xs := nv f3) (v := .int (o : Int)) hf11 (by walk_at "ev") (by walk_at "ev") (by rw [nv_len]; exact hfb) fun H12 e12 => ?_
            refine ⟨put m3 o (some row), f3 ++ [o], _, Ex.mut (e11.trans e12) fq0, ?_, hna0, nnf, nnp, ?_, ?_, ?_, hV, ?_, rfl⟩
            · rw [upd_ne nnf]
              exact e12 _ _ hna11
            · rw [upd_ne nwf]
              exact e12 _ _ hw11
            · rw [upd_ne (Ne.symm npf)]
              exact e12 _ _ hp11
            · rw [upd_same, nv_app]
            · rw [put_new hlk, List.length_append, List.length_append, List.length_singleton, List.length_singleton]
              omega
          · intro hb9 H9 e9
            have hvis : visit (okN rs.length wo) row (m3, f3) o = (m3, f3) := if_neg fun z => by
              obtain ⟨z1, z2⟩ := z
              obtain ⟨z3, z4⟩ := okN_iff.mp z1
              rw [z2, decide_eq_true z3, decide_eq_false z4] at hb9
              cases hb9
            rw [hvis] at hV
            exact ⟨m3, f3, _, e3.trans e9, e9 _ _ hna3, hna0, nnf, nnp, e9 _ _ hw3, e9 _ _ hp3, e9 _ _ hf3, hV, hlen3, rfl⟩
        · rintro na σ3 H3 ⟨m3, f3, y3, e3, hna3, hna0, nnf, nnp, hw3, hp3, hf3, hM3, hlen3, rfl⟩
          rw [nv_len, List.take_length] at hM3
          have htk : wt.take (i + 1) = wt.take i ++ [row] := by
            rw [List.take_add_one, List.getElem?_eq_getElem hi2, hrow]
            rfl
          exact ⟨m3, f3, _, y3, 0, e3, hw3, hp3, hf3, by rw [htk]; exact hM3.row, hlen3, rfl⟩
      · rintro σ2 H2 ⟨m2, f2, z2, z3, r0, e2', hw2, hp2, hf2, hM, hlen, rfl⟩
        rw [nv_len, List.take_length] at hM
        have hBn := Bm.out hB hM
        refine s_asg (v := .ref fq) (by walk_at "ev") fun H3 e3 => ?_
        have l1 := mlen _ _ _ hB
        have l2 := mlen _ _ _ hBn
        refine ⟨2 * (rs.length - m2.length) + f2.length, ?_, k + 1, m2, f2, fq, some (.ref fq), z2, z3, e2'.trans e3, e3 _ _ hp2, e3 _ _ hf2, hBn, rfl, rfl⟩
        omega
    · intro hb5 H6 e6
      have hwt : wt = [] := by
        cases wt with
        | nil => rfl
        | cons r0 t => exact absurd hb5 (by simp)
      subst hwt
      refine s_ret (v := .ref p) (by walk_at "ev") fun H7 e7 => q _ H7 ((e.trans e6).trans e7) ⟨p, mm, rfl, p0, e7 _ _ (e6 _ _ hp), .inr ⟨hnw, k, hB⟩⟩

abbrev s_way : Stmt := topS 12
theorem sc_way : FnScope ["rows", "start", "goal", "without", "ahead", "found", "at", "k"] ["rows", "start", "goal", "without"] (defScope s_way) := ⟨rfl, rfl, rfl, by decide +kernel, rfl, by decide +kernel, by decide +kernel⟩
theorem c_way (T : Txt mg) (D : DefAt K mg "way" s_way) (c_need_rows : Cal P w K mg base CX0 3 "need_rows" ["rows"] (spNeed K)) (c_follow : Cal P w K mg base CX0 2 "follow" ["rows", "start", "without"] (spFollow K)) : Cal P w K mg base CX0 4 "way" ["rows", "start", "goal", "without"] (spWay K) := by
  refine cal_of (k := 3) D sc_way (fun _ _ _ _ _ _ us hl => match us, hl with | [_, _, _, _], _ => rfl) (fun vs H Q E h => ?_) (fun f cdv A outer s H vs Q E hr h => ?_)
  · obtain ⟨⟨a, rs, s, g, wa, wo⟩, ⟨rfl, _⟩, _⟩ := h
    rfl
  · obtain ⟨⟨a, rs, st, g, wa, wo⟩, ⟨rfl, hR, ho, hs, hg, hW⟩, q⟩ := h
    walk_at "ds"
    refine ⟨_, (pss_cons (ps_expr (pe_cal c_need_rows (hr.mono (by decide)) (by rfl) pass0 (pa_cons (pv 0) pa_nil)))
    (pss_cons (ps_set (i := 4) sc_way.nd rfl (by first | exact Or.inl rfl | exact Or.inr rfl) (pe_cal c_follow (hr.mono (by decide)) (by rfl) pass0 (pa_cons (pv 0) (pa_cons (pv 1) (pa_cons (pv 3) pa_nil)))))
    (pss_cons (ps_if (pt_cmp (pc_dnotin (hu_of hr) (pv 2) (pv 4))) (pss_one (ps_ret pe_non)) pss_nil)
    (pss_cons (ps_set (i := 5) sc_way.nd rfl (by first | exact Or.inl rfl | exact Or.inr rfl) (pe_lst pa_nil))
    (pss_cons (ps_set (i := 6) sc_way.nd rfl (by first | exact Or.inl rfl | exact Or.inr rfl) (pv 2))
    (pss_cons (ps_while PassesOwn.never (pt_cmpR op_notN (pv 6) pe_non (nomark _)) (pss_cons (ps_expr (pe_bm PySem.F.plainAttrs_list PySem.F.slot_list_append PySem.F.type_list_append mt_append (pv 5) (pa_cons (pv 6) pa_nil)))
    (pss_one (ps_set (i := 6) sc_way.nd rfl (by first | exact Or.inl rfl | exact Or.inr rfl) (pe_dget (hu_of hr) (pv 4) (pv 6) (fun _ _ => rfl))))))
    (pss_one (ps_ret (pe_lc (own := [("k", 7)]) rfl sc_way.nd (pi_range1 (by rfl) T.n_range (pa_cons (pe_callB (k_len_seq (K := K) rfl) (by rfl) T.n_len PySem.boot_len (pa_cons (pv 5) pa_nil)) pa_nil)) (blkOk_by (own := [("k", 7)]) (N := ["rows", "start", "goal", "without", "ahead", "found", "at", "k"]) (sc := defScope s_way) (by decide +kernel)) (fun _ _ _ _ _ => (pg_name (i := 7) sc_way.nd rfl (by first | exact Or.inl rfl | exact Or.inr rfl))) (fun _ _ _ _ _ => pts_nil) (fun _ _ _ _ _ => (pe_ix (k_ix_list (K := K) rfl) (pv 5) (pe_op op_sub (pe_op op_sub (pe_callB (k_len_seq (K := K) rfl) (by rfl) T.n_len PySem.boot_len (pa_cons (pv 5) pa_nil)) pe_int) (pv 7)) (fun _ _ => rfl)))))))))))), ?_⟩
    refine q_drop (ev_callV (a, rs) (by walk_at "ea") (fun H1 e1 => ⟨rfl, hR.mono e1, ho⟩)) fun H1 e1 => ?_
    refine q_asgR (ev_callA ⟨a, rs, st, wa, wo⟩ (by walk_at "ea") (fun H2 e2 => ⟨rfl, hR.mono (e1.trans e2), ho, hs, ex_l (e1.trans e2) hW⟩) (fun H1 H2 H3 v e h => h.back _ _ _ _ e)) fun v2 H2 e2 r2 => ?_
    obtain ⟨p, m, rfl, p0, hp, hF⟩ := r2
    have hF : FollowP rs st wo m := hF
    have e02 := e1.trans e2
    have hkey := hF.keys hs
    refine q_when (b := !(look m g).isSome) (et_is (et_B (ev_dnotin (k := Sum.inl (g : Int)) (ev_is (v := .int (g : Int)) (by walk_at "ev") rfl) (by walk_at "ev") (Or.inl hp))) (by rw [valV_dk, Option.isSome_map])) ?_ ?_
    · intro hb H3 e3
      rw [Bool.not_eq_true'] at hb
      refine s_ret (v := .non) (by walk_at "ev") fun H4 e4 => q _ H4 ((e02.trans e3).trans e4) (.inl ⟨fun z => ?_, rfl⟩)
      rw [(hkey g).mpr z] at hb
      cases hb
    intro hb H3 e3
    rw [Bool.not_eq_false'] at hb
    obtain ⟨hnw, hrg⟩ := (hkey g).mp hb
    obtain ⟨kk, hB⟩ : ∃ k, Bf (okN rs.length wo) (gx rs) st k m [] := by
      rcases hF with ⟨z, _⟩ | ⟨_, z⟩
      · exact absurd z hnw
      · exact z
    obtain ⟨N, _, hN⟩ := ((hB.keys g).mp hb).dist
    have hNlt : N < rs.length := hN.lt fun v hv => (okN_iff.mp hv).1
    have h20 := ho.2.1
    have hp3 := e3 _ _ hp
    refine q_asgL (el_lst (vs := []) (by walk_at "ea") (by show 0 ≤ 100000; decide)) fun f H4 hf0 e4 h4 => ?_
    have f0 : H f = none := fresh_back (e02.trans e3) hf0
    have nfp : f ≠ p := fun z => by
      subst z
      rw [hp3] at hf0
      cases hf0
    refine q_asg (v := .int (g : Int)) (by walk_at "ev") fun H5 e5 => ?_
    have e05 := ((e02.trans e3).trans e4).trans e5
    -- the loop
    refine q_whileW (fun n σ' H' => ∃ (ws : List Nat) (at_ : Option Nat), Ex H H' ∧ H' p = some (.dK (dk parV m)) ∧ H' f = some (.lst (nv ws)) ∧ n = N + 2 - ws.length - endN at_ ∧ ws.length ≤ N + 1 ∧
        (∀ i x, ws[i]? = some x → Dist (gx rs) (fun x => okN rs.length wo x = true) st (N - i) x) ∧ (∀ i x y, ws[i]? = some x → ws[i + 1]? = some y → x ∈ gx rs y) ∧ (∀ x, ws[0]? = some x → x = g) ∧
        (match at_ with | none => ws.length = N + 1 ∧ ws[N]? = some st | some u => ws.length ≤ N ∧ Dist (gx rs) (fun x => okN rs.length wo x = true) st (N - ws.length) u ∧ (∀ x, ws.getLast? = some x → x ∈ gx rs u) ∧ (ws = [] → u = g)) ∧
        σ' = [some (.ref a), some (.int (st : Int)), some (.int (g : Int)), some (.ref wa), some (.ref p), some (.ref f), some (parV at_), none]) _
      ⟨[], some g, e05, e5 _ _ (e4 _ _ hp3), e5 _ _ h4, rfl, Nat.zero_le _, fun i x z => (by simp at z), fun i x y z => (by simp at z), fun x z => (by simp at z), ⟨Nat.zero_le _, hN, fun x z => (by simp at z), fun _ => rfl⟩, rfl⟩ ?_
    rintro n σ' H' ⟨ws, at_, e, hp', hf', hn, hwl, hd, hc, hh, hat, rfl⟩
    refine ⟨at_.isSome, et_is (et_test (ev_op (x := parV at_) (y := .non) (by walk_at "ev") (by walk_at "ev") (rv_val (z := .bl (!decide (parV at_ = .non))) fun H6 e6 Q k => ⟨rfl, k⟩))) (by cases at_ <;> rfl), ?_, ?_⟩
    · intro hb6 H6 e6
      obtain ⟨u, rfl⟩ := Option.isSome_iff_exists.mp hb6
      obtain ⟨hw2, hdu, hlast, hfst⟩ := hat
      have hn : n = N + 2 - ws.length := hn
      have hu : (look m u).isSome = true := (hB.keys u).mpr (by
        have h1 := hdu.1
        obtain ⟨k1, _, d1⟩ := ((hB.keys g).mp hb).dist
        have := d1.inj hN
        refine h1.mono ?_
        have : Rk (gx rs) (fun x => okN rs.length wo x = true) st kk g := (hB.keys g).mp hb
        obtain ⟨j, hj, dj⟩ := this.dist
        have := dj.inj hN
        omega)
      obtain ⟨nx, hnx⟩ := Option.isSome_iff_exists.mp hu
      refine q_app (l := f) (xs := nv ws) (v := .int (u : Int)) (e6 _ _ hf') (by walk_at "ev") (by walk_at "ev") (by rw [nv_len]; omega) fun H7 e7 => ?_
      have e8 : Ex H (upd H7 f (.lst (nv ws ++ [.int (u : Int)]))) := Ex.mut ((e.trans e6).trans e7) f0
      have hp8 : upd H7 f (.lst (nv ws ++ [.int (u : Int)])) p = some (.dK (dk parV m)) := by
        rw [upd_ne (Ne.symm nfp)]
        exact e7 _ _ (e6 _ _ hp')
      have hf8 : upd H7 f (.lst (nv ws ++ [.int (u : Int)])) f = some (.lst (nv (ws ++ [u]))) := by
        rw [upd_same, nv_app]
      generalize upd H7 f (.lst (nv ws ++ [.int (u : Int)])) = H8 at e8 hp8 hf8 ⊢
      refine s_asg (v := parV nx) (ev_dget (k := Sum.inl (u : Int)) (kvs := dk parV m) (by walk_at "ev") (ev_is (v := .int (u : Int)) (by walk_at "ev") rfl) (Or.inl hp8) (by rw [valV_dk, hnx]; rfl)) fun H9 e9 => ?_
      have hd' : ∀ i x, (ws ++ [u])[i]? = some x → Dist (gx rs) (fun x => okN rs.length wo x = true) st (N - i) x := fun i x z => by
        by_cases hi : i < ws.length
        · rw [List.getElem?_append_left hi] at z
          exact hd i x z
        · rw [List.getElem?_append_right (by omega)] at z
          have h0 : i - ws.length = 0 := by
            have := (List.getElem?_eq_some_iff.mp z).1
            rw [List.length_singleton] at this
            omega
          rw [h0] at z
          have : u = x := Option.some.inj z
          subst this
          have : i = ws.length := by omega
          rw [this]
          exact hdu
      have hc' : ∀ i x y, (ws ++ [u])[i]? = some x → (ws ++ [u])[i + 1]? = some y → x ∈ gx rs y := fun i x y z1 z2 => by
        by_cases hi : i + 1 < ws.length
        · rw [List.getElem?_append_left (by omega)] at z1
          rw [List.getElem?_append_left hi] at z2
          exact hc i x y z1 z2
        · have hl2 := (List.getElem?_eq_some_iff.mp z2).1
          rw [List.length_append, List.length_singleton] at hl2
          have hi2 : i + 1 = ws.length := by omega
          rw [hi2, List.getElem?_append_right (Nat.le_refl _), Nat.sub_self] at z2
          have : u = y := Option.some.inj z2
          subst this
          rw [List.getElem?_append_left (by omega)] at z1
          refine hlast x ?_
          rw [List.getLast?_eq_getElem?]
          have : ws.length - 1 = i := by omega
          rw [this]
          exact z1
      have hh' : ∀ x, (ws ++ [u])[0]? = some x → x = g := fun x z => by
        cases ws with
        | nil =>
          have : u = x := Option.some.inj z
          rw [← this]
          exact hfst rfl
        | cons w0 wr => exact hh x z
      have hpar := hB.par u nx hnx
      refine ⟨N + 2 - (ws.length + 1) - endN nx, ?_, ws ++ [u], nx, e8.trans e9, e9 _ _ hp8, e9 _ _ hf8, by rw [List.length_append, List.length_singleton], by rw [List.length_append, List.length_singleton]; omega, hd', hc', hh', ?_, rfl⟩
      · cases nx <;> simp only [endN] <;> omega
      · cases nx with
        | none =>
          have hus : u = st := hpar
          subst hus
          have h00 : Dist (gx rs) (fun x => okN rs.length wo x = true) u 0 u := ⟨⟨rfl, okN_iff.mpr ⟨hs, hnw⟩⟩, fun j hj => absurd hj (Nat.not_lt_zero j)⟩
          have := hdu.inj h00
          have hl : ws.length = N := by omega
          refine ⟨by rw [List.length_append, List.length_singleton]; omega, ?_⟩
          rw [← hl, List.getElem?_append_right (Nat.le_refl _), Nat.sub_self]
          rfl
        | some u' =>
          obtain ⟨j, d1, d2, hmem⟩ := hpar
          have := hdu.inj d2
          refine ⟨by rw [List.length_append, List.length_singleton]; omega, ?_, fun x z => ?_, fun z => ?_⟩
          · rw [List.length_append, List.length_singleton]
            have hj : N - (ws.length + 1) = j := by omega
            rw [hj]
            exact d1
          · rw [List.getLast?_concat] at z
            cases z
            exact hmem
          · simp at z
    · intro hb6 H6 e6
      cases at_ with
      | some u => cases hb6
      | none =>
        obtain ⟨hwn, hst⟩ := hat
        have hf6 := e6 _ _ hf'
        have hfs : SqL K H6 f (nv ws) := SqL.of hf6
        refine s_retL (el_lcR1 (n := (ws.length : Nat)) (fun _ => true) (fun i => .int ((ws.getD (ws.length - 1 - i) 0 : Nat) : Int)) (ea_cons (ev_is (v := .int ((nv ws).length : Nat)) (by walk_at "ev") (by rw [nv_len])) ea_nil) (by omega) (fun x => rfl) (fun i H7 e7 hi => et_yes) fun i H7 e7 hi _ => ?_) fun l H7 hl0 e7 hl7 => ?_
        · have hi2 : i < ws.length := by omega
          have hk : ws.length - 1 - i < ws.length := by omega
          have hfs7 := ex_l e7 hfs
          refine ev_op (x := .ref f) (y := .int ((ws.length - 1 - i : Nat) : Int)) (ev_var rfl) (ev_is (v := .int (((nv ws).length : Int) - 1 - (i : Int))) (by walk_at "ev") ?_) (rv_ixL hfs7 (atI_nat ?_))
          · rw [nv_len]
            congr 1
            omega
          · rw [getD_get hk]
            exact nv_get (List.getElem?_eq_getElem hk)
        · have hl7 : H7 l = some (.lst (nv ws.reverse)) := by
            rw [hl7]
            congr 2
            unfold given
            rw [List.filter_eq_self.mpr (fun _ _ => rfl)]
            refine List.ext_getElem? fun i => ?_
            show _ = (nv ws.reverse)[i]?
            rw [List.getElem?_map, List.getElem?_map]
            show Option.map _ (List.range (((ws.length : Nat) : Int).toNat))[i]? = _
            have et : ((ws.length : Nat) : Int).toNat = ws.length := rfl
            rw [et]
            by_cases hi : i < ws.length
            · rw [List.getElem?_range hi, List.getElem?_reverse hi, getD_get' (by omega)]
              rfl
            · rw [List.getElem?_eq_none (by rw [List.length_range]; omega), List.getElem?_eq_none (by rw [List.length_reverse]; omega)]
              rfl
          have hnd : ws.reverse.Nodup := by
            have hn0 : ws.Pairwise (· ≠ ·) := List.pairwise_iff_getElem.mpr fun i j hi hj hij z => by
              have d1 := hd i _ (List.getElem?_eq_getElem hi)
              have d2 := hd j _ (List.getElem?_eq_getElem hj)
              rw [z] at d1
              have := d1.inj d2
              omega
            exact List.pairwise_reverse.mpr (hn0.imp fun h => Ne.symm h)
          refine q _ H7 ((e.trans e6).trans e7) (.inr ⟨ws.reverse, N, ⟨?_, ?_, fun x hx => ?_, fun i x y h1 h2 => ?_⟩, hN, by rw [List.length_reverse, hwn], hnd, l, rfl, fresh_back (e.trans e6) hl0, hl7⟩)
          · rw [List.head?_reverse, List.getLast?_eq_getElem?, hwn]
            exact hst
          · rw [List.getLast?_reverse, List.head?_eq_getElem?]
            have h0 : 0 < ws.length := by omega
            rw [List.getElem?_eq_getElem h0, hh _ (List.getElem?_eq_getElem h0)]
          · rw [List.mem_reverse] at hx
            obtain ⟨i, hi⟩ := List.mem_iff_getElem?.mp hx
            exact okN_iff.mp (hd i x hi).1.ok_
          · have hi2 : i + 1 < ws.length := by
              have := (List.getElem?_eq_some_iff.mp h2).1
              rw [List.length_reverse] at this
              exact this
            rw [List.getElem?_reverse (by omega)] at h1
            rw [List.getElem?_reverse hi2] at h2
            have e1 : ws.length - 1 - i = (ws.length - 1 - (i + 1)) + 1 := by omega
            rw [e1] at h1
            exact hc _ y x h2 h1

abbrev s__law_is_way : Stmt := topS 24
theorem sc__law_is_way : FnScope ["_law_found", "_law_rows", "_law_start", "_law_goal", "_law_without", "_law_size", "_law_k"] ["_law_found", "_law_rows", "_law_start", "_law_goal", "_law_without", "_law_size"] (defScope s__law_is_way) := ⟨rfl, rfl, rfl, by decide +kernel, rfl, by decide +kernel, by decide +kernel⟩
theorem c__law_is_way (T : Txt mg) (D : DefAt K mg "_law_is_way" s__law_is_way) (c__law_ahead : Cal P w K mg base CX0 1 "_law_ahead" ["_law_row"] (spNexts K)) : Cal P w K mg base CX0 2 "_law_is_way" ["_law_found", "_law_rows", "_law_start", "_law_goal", "_law_without", "_law_size"] (spIsWay3 K) := by
  refine cal_of (k := 1) D sc__law_is_way (fun _ _ _ _ _ _ us hl => match us, hl with | [_, _, _, _, _, _], _ => rfl) (fun vs H Q E h => ?_) (fun f cdv A outer s H vs Q E hr h => ?_)
  · obtain ⟨⟨f, l, a, rs, s, g, wa, wo, n⟩, ⟨rfl, _⟩, _⟩ := h
    rfl
  · obtain ⟨⟨f, l, a, rs, st, g, wa, wo, n⟩, ⟨rfl, hF, hR, ho, hW, hl, hn0, hn, hw⟩, q⟩ := h
    walk_at "ds"
    refine ⟨_, (pss_cons (ps_if (PW.pt (pw_or (pt_not (pt_val (pe_callB (k_isi (K := K) rfl) (by rfl) T.n_isinstance (by decide +kernel) (pa_cons (pv 0) (pa_cons (pe_bltn (v := .ty "list") (by rfl) T.n_list (by decide +kernel) rfl) pa_nil))))) (pw_or1 (pt_cmpR op_ne (pe_callB (k_len_seq (K := K) rfl) (by rfl) T.n_len PySem.boot_len (pa_cons (pv 0) pa_nil)) (pv 5) (nomark _))))) (pss_one (ps_ret pe_bl)) pss_nil)
    (pss_cons (ps_for PassesOwn.never rfl (pi_range1 (by rfl) T.n_range (pa_cons (pv 5) pa_nil)) (pg_name (i := 6) sc__law_is_way.nd rfl (by first | exact Or.inl rfl | exact Or.inr rfl)) (pss_cons (ps_if (PW.pt (pw_or (pt_not (pt_val (pe_callB (k_isi (K := K) rfl) (by rfl) T.n_isinstance (by decide +kernel) (pa_cons (pe_ix (k_ix_list (K := K) rfl) (pv 0) (pv 6) (fun _ _ => rfl)) (pa_cons (pe_bltn (v := .ty "int") (by rfl) T.n_int (by decide +kernel) rfl) pa_nil))))) (pw_or (pt_val (pe_callB (k_isi (K := K) rfl) (by rfl) T.n_isinstance (by decide +kernel) (pa_cons (pe_ix (k_ix_list (K := K) rfl) (pv 0) (pv 6) (fun _ _ => rfl)) (pa_cons (pe_bltn (v := .ty "bool") (by rfl) T.n_bool (by decide +kernel) rfl) pa_nil)))) (pw_or1 (pt_cmpR (k_in_seq (K := K) rfl) (pe_ix (k_ix_list (K := K) rfl) (pv 0) (pv 6) (fun _ _ => rfl)) (pv 4) (by first | exact nomark _ | rfl)))))) (pss_one (ps_ret pe_bl)) pss_nil)
    (pss_cons (ps_if (PW.pt (pw_or (pt_cmpR op_lt (pe_ix (k_ix_list (K := K) rfl) (pv 0) (pv 6) (fun _ _ => rfl)) pe_int (nomark _)) (pw_or1 (pt_cmpR op_ge (pe_ix (k_ix_list (K := K) rfl) (pv 0) (pv 6) (fun _ _ => rfl)) (pe_callB (k_len_seq (K := K) rfl) (by rfl) T.n_len PySem.boot_len (pa_cons (pv 1) pa_nil)) (nomark _))))) (pss_one (ps_ret pe_bl)) pss_nil)
    (pss_one (ps_if (PW.pt (pw_and (pt_cmpR op_gt (pv 6) pe_int (nomark _)) (pw_and1 (pt_cmpR (k_notIn_seq (K := K) rfl) (pe_ix (k_ix_list (K := K) rfl) (pv 0) (pv 6) (fun _ _ => rfl)) (pe_cal c__law_ahead (hr.mono (by decide)) (by rfl) pass0 (pa_cons (pe_ix (k_ix_list (K := K) rfl) (pv 1) (pe_ix (k_ix_list (K := K) rfl) (pv 0) (pe_op op_sub (pv 6) pe_int) (fun _ _ => rfl)) (fun _ _ => rfl)) pa_nil)) (by first | exact nomark _ | rfl))))) (pss_one (ps_ret pe_bl)) pss_nil)))))
    (pss_one (ps_ret (pe_and (pe_cmpR op_eq (pe_ix (k_ix_list (K := K) rfl) (pv 0) pe_int (fun _ _ => rfl)) (pv 2) (nomark _)) (pe_one (pe_cmpR op_eq (pe_ix (k_ix_list (K := K) rfl) (pv 0) (pe_op op_sub (pv 5) pe_int) (fun _ _ => rfl)) (pv 3) (nomark _)))))))), ?_⟩
    obtain ⟨w1, w2, w3, w4⟩ := hw
    have hFS : SqL K H f (nv l) := SqL.of hF
    obtain ⟨vs, hvs, hvl, hvr⟩ := id hR
    have hvl : vs.length = rs.length := hvl
    refine q_when (b := false) (et_is (et_or (a := false) (b := false) (et_is (et_not (et_B (b := true) (by walk_at "ev"))) rfl) fun _ => et_is (et_test (by walk_at "ev")) (by rw [nv_len, hl, decide_eq_true rfl]; rfl)) rfl) (fun hb => by cases hb) fun _ H1 e1 => ?_
    refine q_forR1 (n := (n : Nat)) (by walk_at "ea") (by omega) (fun i σ' H' => Ex H H' ∧ ∃ y, σ' = [some (.ref f), some (.ref a), some (.int (st : Int)), some (.int (g : Int)), some (.ref wa), some (.int (n : Int)), y]) (fun H2 e2 => ⟨e1.trans e2, _, rfl⟩) ?_ ?_
    · rintro i σ' H' hi ⟨e, y, rfl⟩
      have hil : i < l.length := by omega
      have hx := w3 _ (List.getElem_mem hil)
      have get : ∀ (H2 : Hp), Ex H H2 → Ev (tOp (rIxL K) (tVar 0) (tVar 6)) [some (.ref f), some (.ref a), some (.int (st : Int)), some (.int (g : Int)), some (.ref wa), some (.int (n : Int)), some (.int ((i : Nat) : Int))] H2 (.int (l[i] : Nat)) := fun H2 e2 =>
        ev_op (x := .ref f) (y := .int (i : Int)) (ev_var rfl) (ev_var rfl) (rv_ixL (ex_l e2 hFS) (atI_nat (nv_get (List.getElem?_eq_getElem hil))))
      show tSeq _ _ _ [some (.ref f), some (.ref a), some (.int (st : Int)), some (.int (g : Int)), some (.ref wa), some (.int (n : Int)), some (.int ((i : Nat) : Int))] H'
      refine q_when (b := false) (et_is (et_or (a := false) (b := false) (et_is (et_not (et_B (b := true) (ev_isi (get _ e) (fun _ _ => TyX.base (TyOf.int _)) kb_ii))) rfl) fun _ => et_or (a := false) (b := false) (et_B (ev_isi (get _ e) (fun _ _ => TyX.base (TyOf.int _)) kb_ib)) fun _ => et_test (ev_is (ev_op (get _ e) (ev_var rfl) (rv_isL (ex_l e hW) rfl (nv_flat _))) (by rw [inV_nv, decide_eq_false hx.2]))) rfl) (fun hb => by cases hb) fun _ H2 e2 => ?_
      have eH2 := e.trans e2
      refine q_when (b := false) (et_is (et_or (a := false) (b := false) (et_test (ev_op (get _ eH2) ev_c (rv_I0b (congrArg V.bl (decide_eq_false (by omega)))))) fun _ => et_test (ev_op (y := .int (vs.length : Nat)) (get _ eH2) (ev_len (ev_var rfl) (ex_l eH2 hvs)) (rv_I0b (congrArg V.bl (decide_eq_false (by omega)))))) rfl) (fun hb => by cases hb) fun _ H3 e3 => ?_
      have eH3 := eH2.trans e3
      refine s_when (b := false) ?_ (fun hb => by cases hb) fun _ H4 e4 => ⟨eH3.trans e4, _, rfl⟩
      refine et_is (et_and (a := decide (0 < i)) (b := false) (et_test (ev_op (ev_var rfl) ev_c (rv_I0b (congrArg V.bl (decide_eq_decide.mpr (by omega)))))) fun hpos => ?_) (by rw [Bool.and_false])
      have hpos : 0 < i := of_decide_eq_true hpos
      have hi1 : i - 1 < l.length := by omega
      have hx1 := w3 _ (List.getElem_mem hi1)
      have hk : l[i - 1] < vs.length := by omega
      obtain ⟨t, et, ht⟩ := hvr _ _ _ (List.getElem?_eq_getElem hk) (List.getElem?_eq_getElem hx1.1)
      have e1i : i - 1 + 1 = i := by omega
      have hmem := w4 (i - 1) l[i - 1] l[i] (List.getElem?_eq_getElem hi1) (by rw [e1i, List.getElem?_eq_getElem hil])
      rw [gx_some (List.getElem?_eq_getElem hx1.1)] at hmem
      have hcall : EvL (tCall (spNexts K) [] E0 (tCons (tOp (rIxL K) (tVar 1) (tOp (rIxL K) (tVar 0) (tOp (rI0 fun i j => .int (i - j)) (tVar 6) (tC (.int 1))))) tNil)) [some (.ref f), some (.ref a), some (.int (st : Int)), some (.int (g : Int)), some (.ref wa), some (.int (n : Int)), some (.int ((i : Nat) : Int))] H3 (nv rs[l[i - 1]].nx) := by
        refine EvR.l (ev_callA (t, rs[l[i - 1]]) (ea_cons (x := .ref t) (ev_op (x := .ref a) (y := .int (l[i - 1] : Nat)) (ev_var rfl) (ev_op (x := .ref f) (y := .int ((i - 1 : Nat) : Int)) (ev_var rfl) (ev_is (v := .int ((i : Int) - 1)) (ev_op (ev_var rfl) ev_c rv_I0) (by congr 1; omega)) (rv_ixL (ex_l eH3 hFS) (atI_nat (nv_get (List.getElem?_eq_getElem hi1))))) (rv_ixL (ex_l eH3 hvs) (atI_nat (by rw [List.getElem?_eq_getElem hk, et])))) ea_nil) (fun H5 e5 => ⟨rfl, ex_t (eH3.trans e5) ht⟩) (fun H1 H2 H3 v e h => h.back _ _ _ _ e))
      exact et_test (ev_is (ev_opL (get _ eH3) hcall fun p H5 h5 e5 => rv_niL (sq_of h5) rfl (nv_flat _)) (by rw [inV_nv, decide_eq_true hmem]; rfl))
    · rintro σ' H' ⟨e, y, rfl⟩
      have h0 : l[0]? = some st := by
        rw [← List.head?_eq_getElem?]
        exact w1
      have hL : l[n - 1]? = some g := by
        rw [← hl, ← List.getLast?_eq_getElem?]
        exact w2
      refine s_ret (v := .bl (decide (V.int (st : Int) = V.int (st : Int)) && decide (V.int (g : Int) = V.int (g : Int)))) (ev_andV (ev_op (x := .int (st : Int)) (y := .int (st : Int)) (ev_op (x := .ref f) (y := .int ((0 : Nat) : Int)) (ev_var rfl) (ev_is ev_c rfl) (rv_ixL (ex_l e hFS) (atI_nat (nv_get h0)))) (ev_var rfl) (rv_eq rfl))
        fun _ => ev_op (x := .int (g : Int)) (y := .int (g : Int)) (ev_op (x := .ref f) (y := .int ((n - 1 : Nat) : Int)) (ev_var rfl) (ev_is (v := .int ((n : Int) - 1)) (ev_op (ev_var rfl) ev_c rv_I0) (by congr 1; omega)) (rv_ixL (ex_l e hFS) (atI_nat (nv_get hL)))) (ev_var rfl) (rv_eq rfl)) fun H2 e2 => q _ H2 (e.trans e2) ?_
      rw [decide_eq_true rfl, decide_eq_true rfl]
      rfl

abbrev s__law_ints : Stmt := topS 21
theorem sc__law_ints : FnScope ["_law_found", "_law_due", "_law_k"] ["_law_found", "_law_due"] (defScope s__law_ints) := ⟨rfl, rfl, rfl, by decide +kernel, rfl, by decide +kernel, by decide +kernel⟩
theorem c__law_ints (T : Txt mg) (D : DefAt K mg "_law_ints" s__law_ints) : Cal P w K mg base CX0 1 "_law_ints" ["_law_found", "_law_due"] (spInts K) := by
  refine cal_of (k := 0) D sc__law_ints (fun _ _ _ _ _ _ us hl => match us, hl with | [_, _], _ => rfl) (fun vs H Q E h => ?_) (fun f cdv A outer s H vs Q E hr h => ?_)
  · obtain ⟨⟨a, b, xs, ys⟩, ⟨rfl, _⟩, _⟩ := h
    rfl
  · obtain ⟨⟨a, b, xs, ys⟩, ⟨rfl, hA, hB, hz⟩, q⟩ := h
    walk_at "ds"
    refine ⟨_, (pss_cons (ps_if (PW.pt (pw_or (pt_not (pt_val (pe_callB (k_isi (K := K) rfl) (by rfl) T.n_isinstance (by decide +kernel) (pa_cons (pv 0) (pa_cons (pe_bltn (v := .ty "list") (by rfl) T.n_list (by decide +kernel) rfl) pa_nil))))) (pw_or1 (pt_cmpR op_ne (pe_callB (k_len_seq (K := K) rfl) (by rfl) T.n_len PySem.boot_len (pa_cons (pv 0) pa_nil)) (pe_callB (k_len_seq (K := K) rfl) (by rfl) T.n_len PySem.boot_len (pa_cons (pv 1) pa_nil)) (nomark _))))) (pss_one (ps_ret pe_bl)) pss_nil)
    (pss_cons (ps_for PassesOwn.never rfl (pi_range1 (by rfl) T.n_range (pa_cons (pe_callB (k_len_seq (K := K) rfl) (by rfl) T.n_len PySem.boot_len (pa_cons (pv 1) pa_nil)) pa_nil)) (pg_name (i := 2) sc__law_ints.nd rfl (by first | exact Or.inl rfl | exact Or.inr rfl)) (pss_one (ps_if (PW.pt (pw_or (pt_not (pt_val (pe_callB (k_isi (K := K) rfl) (by rfl) T.n_isinstance (by decide +kernel) (pa_cons (pe_ix (k_ix_list (K := K) rfl) (pv 0) (pv 2) (fun _ _ => rfl)) (pa_cons (pe_bltn (v := .ty "int") (by rfl) T.n_int (by decide +kernel) rfl) pa_nil))))) (pw_or (pt_val (pe_callB (k_isi (K := K) rfl) (by rfl) T.n_isinstance (by decide +kernel) (pa_cons (pe_ix (k_ix_list (K := K) rfl) (pv 0) (pv 2) (fun _ _ => rfl)) (pa_cons (pe_bltn (v := .ty "bool") (by rfl) T.n_bool (by decide +kernel) rfl) pa_nil)))) (pw_or1 (pt_cmpR op_ne (pe_ix (k_ix_list (K := K) rfl) (pv 0) (pv 2) (fun _ _ => rfl)) (pe_ix (k_ix_list (K := K) rfl) (pv 1) (pv 2) (fun _ _ => rfl)) (nomark _)))))) (pss_one (ps_ret pe_bl)) pss_nil)))
    (pss_one (ps_ret pe_bl)))), ?_⟩
    have hSA : SqL K H a (xs.map V.int) := SqL.of hA
    apply q_when
    · exact et_or (b := !decide (xs.length = ys.length)) (by walk_at "et") fun _ => et_test (ev_is (v := .bl (!decide (V.int ((xs.map V.int).length : Nat) = V.int ((ys.map V.int).length : Nat)))) (by walk_at "ev") (by
        rw [List.length_map, List.length_map]
        congr 2
        exact decide_eq_decide.mpr ⟨fun z => by have := V.int.inj z; omega, fun z => by rw [z]⟩))
    · intro hb H1 e1
      have hne : ¬ xs.length = ys.length := by
        rw [Bool.not_true, Bool.false_or, Bool.not_eq_true', decide_eq_false_iff_not] at hb
        exact hb
      refine s_ret (v := .bl false) (by walk_at "ev") fun H2 e2 => q _ H2 (e1.trans e2) ?_
      rw [decide_eq_false (fun z => hne (by rw [z]))]
    · intro hb H1 e1
      have hl : xs.length = ys.length := by
        rw [Bool.not_true, Bool.false_or, Bool.not_eq_false', decide_eq_true_iff] at hb
        exact hb
      have hB1 := ex_l e1 hB
      have hA1 := e1 a _ hA
      have hSA1 : SqL K H1 a (xs.map V.int) := SqL.of hA1
      refine q_forR1 (n := ((ys.map V.int).length : Nat)) (by walk_at "ea") ⟨by omega, by rw [List.length_map]; omega⟩ (fun i σ' H' => Ex H1 H' ∧ (∀ j, j < i → xs[j]? = ys[j]?) ∧ ∃ y, σ' = [some (.ref a), some (.ref b), y]) (fun H2 e2 => ⟨e2, fun j hj => absurd hj (Nat.not_lt_zero j), none, rfl⟩) ?_ ?_
      · rintro i σ' H' hi ⟨e, hp, y, rfl⟩
        rw [List.length_map] at hi
        have hiy : i < ys.length := by omega
        have hix : i < xs.length := by omega
        have hBe := ex_l e hB1
        have hAe := ex_l e hSA1
        have gx : atI (xs.map V.int) ((i : Nat) : Int) = some (.int xs[i]) := atI_nat (by rw [List.getElem?_map, List.getElem?_eq_getElem hix]; rfl)
        have gy : atI (ys.map V.int) ((i : Nat) : Int) = some (.int ys[i]) := atI_nat (by rw [List.getElem?_map, List.getElem?_eq_getElem hiy]; rfl)
        have evx : Ev (tOp (rIxL K) (tVar 0) (tVar 2)) [some (.ref a), some (.ref b), some (.int ((i : Nat) : Int))] H' (.int xs[i]) := by walk_at "ev"
        have evy : Ev (tOp (rIxL K) (tVar 1) (tVar 2)) [some (.ref a), some (.ref b), some (.int ((i : Nat) : Int))] H' (.int ys[i]) := by walk_at "ev"
        refine s_when (b := !decide (xs[i] = ys[i])) (et_is (et_or (b := !decide (xs[i] = ys[i])) (et_not (et_B (ev_isi evx (by walk_at "ty") kb_ii))) fun _ => et_or (b := !decide (xs[i] = ys[i])) (et_B (ev_isi evx (by walk_at "ty") kb_ib)) fun _ => et_test (ev_is (ev_op evx evy (rv_ne rfl)) ?_)) ?_) ?_ ?_
        · congr 2
          exact decide_eq_decide.mpr ⟨fun z => V.int.inj z, fun z => by rw [z]⟩
        · rfl
        · intro hb H2 e2
          rw [Bool.not_eq_true', decide_eq_false_iff_not] at hb
          refine s_ret (v := .bl false) (by walk_at "ev") fun H3 e3 => q _ H3 ((e1.trans e).trans (e2.trans e3)) ?_
          rw [decide_eq_false (fun z => hb (by subst z; rfl))]
        · intro hb H2 e2
          rw [Bool.not_eq_false', decide_eq_true_iff] at hb
          refine ⟨e.trans e2, fun j hj => ?_, _, rfl⟩
          by_cases hji : j < i
          · exact hp j hji
          · have : j = i := by omega
            subst this
            rw [List.getElem?_eq_getElem hix, List.getElem?_eq_getElem hiy, hb]
      · rintro σ' H' ⟨e, hp, y, rfl⟩
        refine s_ret (v := .bl true) (by walk_at "ev") fun H3 e3 => q _ H3 ((e1.trans e).trans e3) ?_
        rw [decide_eq_true]
        refine List.ext_getElem? fun j => ?_
        by_cases hj : j < ys.length
        · exact hp j (by
            show j < ((((ys.map V.int).length : Nat) : Int)).toNat
            rw [List.length_map]
            omega)
        · rw [List.getElem?_eq_none (by omega), List.getElem?_eq_none (by omega)]

abbrev s_reached : Stmt := topS 13
theorem sc_reached : FnScope ["rows"] ["rows"] (defScope s_reached) := ⟨rfl, rfl, rfl, by decide +kernel, rfl, by decide +kernel, by decide +kernel⟩
theorem c_reached (T : Txt mg) (D : DefAt K mg "reached" s_reached) (c_need_rows : Cal P w K mg base CX0 3 "need_rows" ["rows"] (spNeed K)) (c_follow : Cal P w K mg base CX0 2 "follow" ["rows", "start", "without"] (spFollow K)) : Cal P w K mg base CX0 4 "reached" ["rows"] (spReached K) := by
  refine cal_of (k := 3) D sc_reached (fun _ _ _ _ _ _ us hl => match us, hl with | [_], _ => rfl) (fun vs H Q E h => ?_) (fun f cdv A outer s H vs Q E hr h => ?_)
  · obtain ⟨⟨a, rs⟩, ⟨rfl, _⟩, _⟩ := h
    rfl
  · obtain ⟨⟨a, rs⟩, ⟨rfl, hR, ho⟩, q⟩ := h
    walk_at "ds"
    refine ⟨_, (pss_cons (ps_expr (pe_cal c_need_rows (hr.mono (by decide)) (by rfl) pass0 (pa_cons (pv 0) pa_nil)))
    (pss_one (ps_ret (pe_callB (k_sortedI (K := K) rfl) (by rfl) T.n_sorted (by decide +kernel) (pa_cons (pe_callTy (call_list_dK rfl) (by rfl) T.n_list (by decide +kernel) (pa_cons (pe_cal c_follow (hr.mono (by decide)) (by rfl) pass0 (pa_cons (pv 0) (pa_cons pe_int (pa_cons (pe_lst pa_nil) pa_nil)))) pa_nil)) pa_nil))))), ?_⟩
    refine q_drop (ev_callV (a, rs) (by walk_at "ea") (fun H1 e1 => ⟨rfl, hR.mono e1, ho⟩)) fun H1 e1 => ?_
    have h0 : 0 < rs.length := by
      have := ho.1
      omega
    have hs : EvR (tCB (rSortedI K) (tCons (tCB rListD (tCons (tCall (spFollow K) [] E0 (tCons (tVar 0) (tCons (tC (.int 0)) (tCons (tLst tNil) tNil)))) tNil)) tNil)) [some (.ref a)] H1 (fun H1 x H2 => ∃ l, ReachedL rs l ∧ LstNew (nv l) H1 x H2) := by
      intro H2 e2 Q k
      refine ⟨.ref a, rfl, Nat.zero_le _, fun p hp => ?_⟩
      refine ⟨⟨a, rs, 0, p, []⟩, ⟨rfl, hR.mono ((e1.trans e2).trans (Ex.new hp)), ho, h0, SqL.of upd_same⟩, fun x H4 e4 r => ?_⟩
      obtain ⟨d, m, rfl, hd0, hd, hF⟩ := r
      have hd0 : upd H2 p (.lst []) d = none := hd0
      have hF : FollowP rs 0 [] m := hF
      have e24 : Ex H2 H4 := (Ex.new hp).trans e4
      have hl := el_listD (te := tC (.ref d)) (σ := [some (.ref a)]) (H := H4) ev_c hd
      rw [dk_keys] at hl
      refine er_sortedN (K := K) hl hF.nd H4 (Ex.refl H4) _ fun y H5 e5 hy => k y H5 (e24.trans e5) ?_
      obtain ⟨l, h1, h2, h3⟩ := hy
      refine ⟨l, ⟨h1, fun v => ?_⟩, h3.back _ _ _ _ e24⟩
      rw [h2]
      have := hF.keys h0 v
      rw [look_isSome, decide_eq_true_iff] at this
      rw [this]
      exact ⟨fun z => z.2, fun z => ⟨by simp, z⟩⟩
    refine s_retR hs fun v H2 e2 hv => ?_
    obtain ⟨l, hl, hn⟩ := hv
    exact q _ H2 (e1.trans e2) ⟨l, hl, hn.back _ _ _ _ e1⟩

abbrev s_law : Stmt := topS 25
theorem sc_law : FnScope ["_law_script", "_law_rows", "_law_many", "_law_start", "_law_goal", "_law_without", "_law_handed", "_law_known", "_law_found", "_law_k"] ["_law_script"] (defScope s_law) := ⟨rfl, rfl, rfl, by decide +kernel, rfl, by decide +kernel, by decide +kernel⟩
theorem c_law (T : Txt mg) {f : Addr} {fd : FuncData} (F : Fun K "law" "law" s_law f fd) (c__law_rows_by : Cal P w K mg base CX0 3 "_law_rows_by" ["_law_script"] (spRows K)) (c__law_rounds : Cal P w K mg base CX0 2 "_law_rounds" ["_law_rows", "_law_start", "_law_without"] (spRounds K)) (c_way : Cal P w K mg base CX0 4 "way" ["rows", "start", "goal", "without"] (spWay K)) (c__law_is_way : Cal P w K mg base CX0 2 "_law_is_way" ["_law_found", "_law_rows", "_law_start", "_law_goal", "_law_without", "_law_size"] (spIsWay3 K)) (c__law_cell_at : Cal P w K mg base CX0 1 "_law_cell_at" ["_law_script", "_law_k"] (spCellU K)) (c__law_ints : Cal P w K mg base CX0 1 "_law_ints" ["_law_found", "_law_due"] (spInts K)) (c_reached : Cal P w K mg base CX0 4 "reached" ["rows"] (spReached K)) : FnOk P w K mg base CX0 5 f fd ["_law_script"] (spLaw K) := by
  refine F.ok (k := 4) sc_law (fun vs H Q E h => ?_) (fun cdv A outer s H vs Q E hr h => ?_)
  · obtain ⟨a, ns, rfl, _⟩ := h
    rfl
  · obtain ⟨a, ns, rfl, hS, hl, hb, q⟩ := h
    walk_at "ds"
    refine ⟨_, (pss_cons (ps_set (i := 1) sc_law.nd rfl (by first | exact Or.inl rfl | exact Or.inr rfl) (pe_cal c__law_rows_by (hr.mono (by decide)) (by rfl) pass0 (pa_cons (pv 0) pa_nil)))
    (pss_cons (ps_set (i := 2) sc_law.nd rfl (by first | exact Or.inl rfl | exact Or.inr rfl) (pe_callB (k_len_seq (K := K) rfl) (by rfl) T.n_len PySem.boot_len (pa_cons (pv 1) pa_nil)))
    (pss_cons (ps_set (i := 3) sc_law.nd rfl (by first | exact Or.inl rfl | exact Or.inr rfl) (pe_op op_modN (pe_cal c__law_cell_at (hr.mono (by decide)) (by rfl) pass0 (pa_cons (pv 0) (pa_cons pe_int pa_nil))) (pv 2)))
    (pss_cons (ps_set (i := 4) sc_law.nd rfl (by first | exact Or.inl rfl | exact Or.inr rfl) (pe_op op_modN (pe_cal c__law_cell_at (hr.mono (by decide)) (by rfl) pass0 (pa_cons (pv 0) (pa_cons pe_int pa_nil))) (pv 2)))
    (pss_cons (ps_setLc (i := 5) (own := [("_law_k", 9)]) rfl sc_law.nd rfl rfl (sw_true rfl rfl rfl (by decide +kernel)) (pi_range1 (by rfl) T.n_range (pa_cons (pe_op op_modN (pe_cal c__law_cell_at (hr.mono (by decide)) (by rfl) pass0 (pa_cons (pv 0) (pa_cons pe_int pa_nil))) pe_int) pa_nil)) (blkOk_by (own := [("_law_k", 9)]) (N := ["_law_script", "_law_rows", "_law_many", "_law_start", "_law_goal", "_law_without", "_law_handed", "_law_known", "_law_found", "_law_k"]) (sc := defScope s_law) (by decide +kernel)) (fun _ _ _ _ _ => (pg_name (i := 9) sc_law.nd rfl (by first | exact Or.inl rfl | exact Or.inr rfl))) (fun _ _ _ _ _ => pts_nil) (fun _ _ _ _ _ => (pe_op op_modN (pe_cal c__law_cell_at (hr.mono (by decide)) (by rfl) pass0 (pa_cons (pv 0) (pa_cons (pe_op op_add pe_int (pv 9)) pa_nil))) (pv 2))))
    (pss_cons (ps_set (i := 6) sc_law.nd rfl (by first | exact Or.inl rfl | exact Or.inr rfl) (pe_lst (pa_cons (pe_callTy (k_list_of (K := K) rfl) (by rfl) T.n_list (by decide +kernel) (pa_cons (pv 1) pa_nil)) (pa_cons (pe_callTy (k_list_of (K := K) rfl) (by rfl) T.n_list (by decide +kernel) (pa_cons (pv 5) pa_nil)) pa_nil))))
    (pss_cons (ps_if (pt_not (pt_val (pe_cal c__law_ints (hr.mono (by decide)) (by rfl) pass0 (pa_cons (pe_cal c_reached (hr.mono (by decide)) (by rfl) pass0 (pa_cons (pe_ix (k_ix_list (K := K) rfl) (pv 6) pe_int (fun _ _ => rfl)) pa_nil)) (pa_cons (pe_callB (k_sortedI (K := K) rfl) (by rfl) T.n_sorted (by decide +kernel) (pa_cons (pe_callTy (call_list_dK rfl) (by rfl) T.n_list (by decide +kernel) (pa_cons (pe_cal c__law_rounds (hr.mono (by decide)) (by rfl) pass0 (pa_cons (pv 1) (pa_cons pe_int (pa_cons (pe_lst pa_nil) pa_nil)))) pa_nil)) pa_nil)) pa_nil))))) (pss_one (ps_ret pe_bl)) pss_nil)
    (pss_cons (ps_set (i := 7) sc_law.nd rfl (by first | exact Or.inl rfl | exact Or.inr rfl) (pe_cal c__law_rounds (hr.mono (by decide)) (by rfl) pass0 (pa_cons (pv 1) (pa_cons (pv 3) (pa_cons (pv 5) pa_nil)))))
    (pss_cons (ps_set (i := 8) sc_law.nd rfl (by first | exact Or.inl rfl | exact Or.inr rfl) (pe_cal c_way (hr.mono (by decide)) (by rfl) pass0 (pa_cons (pe_ix (k_ix_list (K := K) rfl) (pv 6) pe_int (fun _ _ => rfl)) (pa_cons (pv 3) (pa_cons (pv 4) (pa_cons (pe_ix (k_ix_list (K := K) rfl) (pv 6) pe_int (fun _ _ => rfl)) pa_nil))))))
    (pss_cons (ps_if (PW.pt (pw_or (pt_cmpR (k_neD (K := K) rfl hr.units) (pe_ix (k_ix_list (K := K) rfl) (pv 6) pe_int (fun _ _ => rfl)) (pv 1) (nomark _)) (pw_or1 (pt_cmpR (k_neD (K := K) rfl hr.units) (pe_ix (k_ix_list (K := K) rfl) (pv 6) pe_int (fun _ _ => rfl)) (pv 5) (nomark _))))) (pss_one (ps_ret pe_bl)) pss_nil)
    (pss_cons (ps_if (pt_cmp (pc_dnotin (hu_of hr) (pv 4) (pv 7))) (pss_one (ps_ret (pe_cmpR op_isN (pv 8) pe_non (nomark _)))) pss_nil)
    (pss_one (ps_ret (pe_cal c__law_is_way (hr.mono (by decide)) (by rfl) pass0 (pa_cons (pv 8) (pa_cons (pv 1) (pa_cons (pv 3) (pa_cons (pv 4) (pa_cons (pv 5) (pa_cons (pe_dget (hu_of hr) (pv 7) (pv 4) (fun _ _ => rfl)) pa_nil)))))))))))))))))))), ?_⟩
    have hbits : Bits ns := hb
    have ho := rowsBy_ok ns
    have cell : ∀ (H' : Hp) (k : Nat) (σ : L2.St) (t1 t2 : TE), Ex H H' → Ev t1 σ H' (.ref a) → Ev t2 σ H' (.int (k : Int)) → Ev (tCall (spCellU K) [] E0 (tCons t1 (tCons t2 tNil))) σ H' (.int (cellAt ns k)) := fun H' k σ t1 t2 e h1 h2 =>
      ev_callV (a, ns, k) (ea_cons h1 (ea_cons h2 ea_nil)) (fun H1 e1 => ⟨rfl, ex_l (e.trans e1) hS⟩)
    refine q_asgR (ev_callA (a, ns) (by walk_at "ea") (fun H1 e1 => ⟨rfl, ex_l e1 hS, hbits⟩) (fun H1 H2 H3 v e h => h.back _ _ _ _ e)) fun v1 H1 e1 r1 => ?_
    obtain ⟨ra, rfl, _, hR, _⟩ := LstObj.rows r1
    obtain ⟨rs, hrs⟩ : ∃ rs, rs = rowsBy ns := ⟨_, rfl⟩
    have hR : RowsAt K H1 ra rs := by
      rw [hrs]
      exact hR
    rw [← hrs] at ho
    clear r1
    obtain ⟨vs, hvs, hvl, hvr⟩ := id hR
    have h1 := ho.1
    have h20 := ho.2.1
    have hpos : (0 : Int) < (rs.length : Int) := by omega
    have idx : ∀ z : Int, ∃ j : Nat, j < rs.length ∧ z % (rs.length : Int) = (j : Int) := fun z => by
      have g1 : 0 ≤ z % (rs.length : Int) := Int.emod_nonneg _ (by omega)
      have g2 : z % (rs.length : Int) < (rs.length : Int) := Int.emod_lt_of_pos _ hpos
      exact ⟨(z % (rs.length : Int)).toNat, by omega, by omega⟩
    refine q_asg (v := .int (rs.length : Nat)) (ev_is (v := .int (vs.length : Nat)) (by walk_at "ev") (by rw [hvl])) fun H2 e2 => ?_
    obtain ⟨st, hst, est⟩ := idx (cellAt ns 2)
    obtain ⟨g, hg, eg⟩ := idx (cellAt ns 3)
    refine q_asg (v := .int (st : Nat)) (ev_is (v := .int (cellAt ns 2 % (rs.length : Int))) (ev_op (cell H2 2 _ _ _ (e1.trans e2) (ev_var rfl) (ev_is ev_c rfl)) (ev_var rfl) (rv_modN hpos)) (by rw [est])) fun H3 e3 => ?_
    refine q_asg (v := .int (g : Nat)) (ev_is (v := .int (cellAt ns 3 % (rs.length : Int))) (ev_op (cell H3 3 _ _ _ ((e1.trans e2).trans e3) (ev_var rfl) (ev_is ev_c rfl)) (ev_var rfl) (rv_modN hpos)) (by rw [eg])) fun H4 e4 => ?_
    have e04 := ((e1.trans e2).trans e3).trans e4
    -- without
    have w0 : 0 ≤ cellAt ns 4 % 4 := Int.emod_nonneg _ (by decide)
    have w4 : cellAt ns 4 % 4 < 4 := Int.emod_lt_of_pos _ (by decide)
    obtain ⟨wo, hwo⟩ : ∃ wo : List Nat, wo = (List.range (cellAt ns 4 % 4).toNat).map fun k => (cellAt ns (5 + k) % (rs.length : Int)).toNat := ⟨_, rfl⟩
    have hwl : wo.length ≤ 4 := by
      rw [hwo, List.length_map, List.length_range]
      omega
    refine q_asgL (xs := nv wo) ?_ fun wa H5 hwa e5 h5 => ?_
    · have := el_lcR1 (σ := [some (.ref a), some (.ref ra), some (.int (rs.length : Nat)), some (.int (st : Nat)), some (.int (g : Nat)), none, none, none, none, none]) (H := H4) (j := 9) (vs := [9]) (t := tYes) (te := tOp (rI (fun _ j => j ≠ 0) fun i j => .int (i.fmod j)) (tCall (spCellU K) [] E0 (tCons (tVar 0) (tCons (tOp (rI0 fun i j => .int (i + j)) (tC (.int 5)) (tVar 9)) tNil))) (tVar 2)) (ta := tCons (tOp (rI (fun _ j => j ≠ 0) fun i j => .int (i.fmod j)) (tCall (spCellU K) [] E0 (tCons (tVar 0) (tCons (tC (.int 4)) tNil))) (tC (.int 4))) tNil)
        (n := cellAt ns 4 % 4) (fun _ => true) (fun k => .int (((cellAt ns (5 + k) % (rs.length : Int)).toNat : Nat) : Int)) (ea_cons (ev_op (cell H4 4 _ _ _ e04 (ev_var rfl) (ev_is ev_c rfl)) ev_c (rv_modN (by decide))) ea_nil) (by omega) (fun x => rfl) (fun i H5 e5 hi => et_yes) (fun i H5 e5 hi _ => ev_is (ev_op (cell H5 (5 + i) _ _ _ (e04.trans e5) (ev_var rfl) (ev_is (v := .int (5 + (i : Int))) (ev_op ev_c (ev_var rfl) rv_I0) (by simp))) (ev_var rfl) (rv_modN hpos)) ?_)
      · have eq : given (cellAt ns 4 % 4).toNat (fun _ => true) (fun k => V.int (((cellAt ns (5 + k) % (rs.length : Int)).toNat : Nat) : Int)) = nv wo := by
          unfold given nv
          rw [List.filter_eq_self.mpr (fun _ _ => rfl), hwo, List.map_map]
          rfl
        rw [eq] at this
        exact this
      · congr 1
        have g1 : 0 ≤ cellAt ns (5 + i) % (rs.length : Int) := Int.emod_nonneg _ (by omega)
        omega
    have e05 := e04.trans e5
    have hR5 := hR.mono (((e2.trans e3).trans e4).trans e5)
    have hvs5 := ex_l (((e2.trans e3).trans e4).trans e5) hvs
    have hW5 : SqL K H5 wa (nv wo) := SqL.of h5
    -- handed
    refine q_asgR (er_lst (R := fun ws H' => ∃ ra2 wa2, ws = [.ref ra2, .ref wa2] ∧ RowsAt K H' ra2 rs ∧ SqL K H' wa2 (nv wo)) (ear_cons (el_listS (by walk_at "ev") hvs5).toR fun H6 x H7 e6 e7 hx => ?_) (fun ws H' ⟨ra2, ba2, ew, _⟩ => by rw [ew]; show 2 ≤ 100000; decide)) fun v3 H6 e6 r6 => ?_
    · obtain ⟨ra2, rfl, _, h7⟩ := hx
      have hW7 := ex_l (e6.trans e7) hW5
      refine ear_cons (el_listS (by walk_at "ev") hW7).toR fun H8 x H9 e8 e9 hx => ?_
      obtain ⟨wa2, rfl, _, h9⟩ := hx
      intro H10 e10 Q k
      exact k [] H10 (Ex.refl H10) ⟨ra2, wa2, rfl, ⟨vs, SqL.of (e10 _ _ ((e8.trans e9) _ _ h7)), hvl, fun k v r q1 q2 => (hvr k v r q1 q2).mono ((((e2.trans e3).trans (e4.trans e5)).trans (e6.trans e7)).trans ((e8.trans e9).trans e10))⟩, SqL.of (e10 _ _ h9)⟩
    obtain ⟨ha, ws, Hx, rfl, ha0, ex1, ⟨ra2, wa2, rfl, hRx, hWx⟩, _, ex2, hH⟩ := r6
    have hR2 := hRx.mono ex2
    have hW2 := ex_l ex2 hWx
    have hHs : SqL K H6 ha [.ref ra2, .ref wa2] := SqL.of hH
    have hR6 := hR5.mono e6
    have hW6 := ex_l e6 hW5
    have g0 : ∀ (H' : Hp) (σ : L2.St) (t : TE), Ex H6 H' → Ev t σ H' (.ref ha) → Ev (tOp (rIxL K) t (tC (.int 0))) σ H' (.ref ra2) := fun H' σ t e h => ev_op h ev_c (rv_ixL (ex_l e hHs) (atI_nat (j := 0) rfl))
    have g1 : ∀ (H' : Hp) (σ : L2.St) (t : TE), Ex H6 H' → Ev t σ H' (.ref ha) → Ev (tOp (rIxL K) t (tC (.int 1))) σ H' (.ref wa2) := fun H' σ t e h => ev_op h ev_c (rv_ixL (ex_l e hHs) (atI_nat (j := 1) rfl))
    -- reached
    have hz0 : 0 < rs.length := by omega
    refine q_when (b := false) (et_is (et_not (et_B (b := true) ?_)) rfl) (fun hb => by cases hb) fun _ H7 e7 => ?_
    · intro H7 e7 Q k
      refine ev_callA (ra2, rs) (ea_cons (x := .ref ra2) (g0 _ _ _ e7 (ev_var rfl)) ea_nil) (fun H8 e8 => ⟨rfl, hR2.mono (e7.trans e8), ho⟩) (fun H1 H2 H3 v e ⟨l, q1, q2⟩ => ⟨l, q1, q2.back _ _ _ _ e⟩) H7 (Ex.refl H7) _ fun x H8 e8 hx => ?_
      obtain ⟨l, hl1, la, rfl, _, hla⟩ := hx
      have hl1 : ReachedL rs l := hl1
      have hR8 := hR6.mono (e7.trans e8)
      -- sorted(list(_law_rounds(rows, 0, [])))
      refine ⟨.ref ra, rfl, Nat.zero_le _, fun p hp => ?_⟩
      refine ⟨⟨ra, rs, 0, p, []⟩, ⟨rfl, hR8.mono (Ex.new hp), ho, hz0, SqL.of upd_same⟩, fun x H9 e9 r => ?_⟩
      obtain ⟨d, m, rfl, _, hd, hm⟩ := r
      have hm : RoundsP rs 0 [] m := hm
      have hdl := el_listD (te := tC (.ref d)) (σ := ([] : L2.St)) (H := H9) ev_c hd
      rw [dk_keys] at hdl
      refine er_sortedN (K := K) hdl hm.1 H9 (Ex.refl H9) _ fun y H10 e10 hy => ?_
      obtain ⟨l2, q1, q2, l2a, rfl, _, q3⟩ := hy
      have el : l2 = l := by
        refine rising_eq q1 hl1.1 fun v => ?_
        rw [q2, hl1.2]
        have := hm.2.1 v
        rw [look_isSome, decide_eq_true_iff] at this
        rw [this]
        exact ⟨fun z => z.2, fun z => ⟨by simp, z⟩⟩
      subst el
      have ell : l2.length ≤ 20 := by
        have := nodup_lt (l := l2) (n := rs.length) (q1.imp fun h => Nat.ne_of_lt h) fun x hx => by
          rcases (hl1.2 x).mp hx with rfl | r
          · exact hz0
          · exact (okN_iff.mp r.ok_).1
        omega
      refine ⟨(la, l2a, l2.map fun n => ((n : Nat) : Int), l2.map fun n => ((n : Nat) : Int)), ⟨rfl, ?_, SqL.of ?_, ?_⟩, fun v H11 e11 hv => ?_⟩
      · rw [List.map_map]
        exact (((Ex.new hp).trans e9).trans e10) _ _ hla
      · rw [List.map_map]
        exact q3
      · show (List.map (fun n => ((n : Nat) : Int)) l2).length ≤ 40000
        rw [List.length_map]
        omega
      · subst hv
        have w := k H11 ((e8.trans ((Ex.new hp).trans e9)).trans (e10.trans e11))
        rw [← decide_eq_true (p := l2.map (fun n => ((n : Nat) : Int)) = l2.map (fun n => ((n : Nat) : Int))) rfl] at w
        exact w
    have e67 := e7
    -- known
    refine q_asgR (ev_callA ⟨ra, rs, st, wa, wo⟩ (by walk_at "ea") (fun H8 e8 => ⟨rfl, hR6.mono (e7.trans e8), ho, hst, ex_l (e7.trans e8) hW6⟩) (fun H1 H2 H3 v e h => h.back _ _ _ _ e)) fun v8 H8 e8 r8 => ?_
    obtain ⟨kd, km, rfl, _, hkd, hkm⟩ := r8
    have hkm : RoundsP rs st wo km := hkm
    -- found
    refine q_asgR (ev_callA ⟨ra2, rs, st, g, wa2, wo⟩ (ea_cons (g0 _ _ _ (e7.trans e8) (ev_var rfl)) (ea_cons (ev_var rfl) (ea_cons (ev_var rfl) (ea_cons (g1 _ _ _ (e7.trans e8) (ev_var rfl)) ea_nil)))) (fun H9 e9 => ⟨rfl, hR2.mono ((e7.trans e8).trans e9), ho, hst, hg, ex_l ((e7.trans e8).trans e9) hW2⟩) (fun H1 H2 H3 v e h => h.back _ _ _ _ e)) fun v9 H9 e9 r9 => ?_
    have r9 : WayP rs st g wo H8 v9 H9 := r9
    have e69 := (e7.trans e8).trans e9
    refine q_when (b := false) (et_is (et_or (a := false) (b := false) (et_test (ev_neRows (g0 _ _ _ e69 (ev_var rfl)) (ev_var rfl) (hR2.mono e69) (hR6.mono e69))) fun _ => et_test (ev_neInts (xs := wo.map fun n => ((n : Nat) : Int)) (g1 _ _ _ e69 (ev_var rfl)) (ev_var rfl) (by rw [List.map_map]; exact ex_l e69 hW2) (by rw [List.map_map]; exact ex_l e69 hW6))) rfl) (fun hb => by cases hb) fun _ H10 e10 => ?_
    have hkd10 := (e9.trans e10) _ _ hkd
    have hkey := hkm.2.1 g
    refine q_when (b := !(look km g).isSome) (et_is (et_B (ev_dnotin (k := Sum.inl (g : Int)) (ev_is (v := .int (g : Int)) (ev_var rfl) rfl) (ev_var rfl) (Or.inl hkd10))) (by rw [valV_dk, Option.isSome_map])) ?_ ?_
    · intro hb H11 e11
      rw [Bool.not_eq_true'] at hb
      rcases r9 with ⟨_, rfl⟩ | ⟨l, k, z1, z2, _⟩
      · exact s_ret (v := .bl (decide (V.non = V.non))) (ev_op (x := .non) (y := .non) (ev_var rfl) ev_c (rv_val fun H12 e12 Q k => ⟨rfl, k⟩)) fun H12 e12 => by
          have := q H12
          rw [← decide_eq_true (p := V.non = V.non) rfl] at this
          exact this
      · exfalso
        have hr := z2.1.rs
        rw [hkey.mpr ⟨(okN_iff.mp hr.1).2, hr.2⟩] at hb
        cases hb
    · intro hb H11 e11
      rw [Bool.not_eq_false'] at hb
      rcases r9 with ⟨z, _⟩ | ⟨l, k, z1, z2, z3, z5, la, rfl, _, hla⟩
      · exact absurd (hkey.mp hb) z
      · obtain ⟨j, hj⟩ := Option.isSome_iff_exists.mp hb
        obtain ⟨i, rfl, d⟩ := hkm.2.2 g j hj
        have hik := d.inj z2
        subst hik
        have hlt := z2.lt (n := rs.length) fun v hv => (okN_iff.mp hv).1
        have e611 := (e69.trans e10).trans e11
        refine s_ret (ev_callV ⟨la, l, ra, rs, st, g, wa, wo, i + 1⟩ (ea_cons (ev_var rfl) (ea_cons (ev_var rfl) (ea_cons (ev_var rfl) (ea_cons (ev_var rfl) (ea_cons (ev_var rfl) (ea_cons (x := .int ((i + 1 : Nat) : Int)) (ev_dget (k := Sum.inl (g : Int)) (kvs := dk natV km) (ev_var rfl) (ev_is (v := .int (g : Int)) (ev_var rfl) rfl) (Or.inl (e11 _ _ hkd10)) (by rw [valV_dk, hj]; rfl)) ea_nil)))))) (fun H12 e12 => ⟨rfl, (e10.trans (e11.trans e12)) _ _ hla, hR6.mono (e611.trans e12), ho, ex_l (e611.trans e12) hW6, z3, Nat.succ_pos i, (by show i + 1 ≤ 100; omega), z1⟩)) fun H12 e12 => q H12

end
theorem all_mk {l : PySem.W.OpenLaw} {w : World} {K : PySem.W.Frag} {h : Heap} {mg : Str → Option Value} {fa : Addr} (X : K.In h) (G : h.Ns mainGlobals mg) (hfa : mg "law" = some (.ref fa))
    {f__law_near : Addr} {od__law_near an__law_near : Option Addr} {sl__law_near : Array (Option Value)} {oc__law_near kV__law_near dc__law_near pm__law_near cd__law_near ct__law_near : Value}
    (a__law_near : PySem.W.nsIn K mainGlobals "_law_near" = some (some (.ref f__law_near)))
    (l__law_near : K.lookup f__law_near = some ⟨oc__law_near, od__law_near, .func (PySem.W.fnOf "_law_near" "_law_near" (defArgs s__law_near) (defBody s__law_near) (defScope s__law_near) .none kV__law_near dc__law_near pm__law_near an__law_near cd__law_near ct__law_near), sl__law_near⟩)
    (e__law_near : PySem.W.codeIn K cd__law_near "_law_near" = true) (p__law_near : PySem.W.keepIn K (.ref f__law_near) = true)
    {f__law_number_by : Addr} {od__law_number_by an__law_number_by : Option Addr} {sl__law_number_by : Array (Option Value)} {oc__law_number_by kV__law_number_by dc__law_number_by pm__law_number_by cd__law_number_by ct__law_number_by : Value}
    (a__law_number_by : PySem.W.nsIn K mainGlobals "_law_number_by" = some (some (.ref f__law_number_by)))
    (l__law_number_by : K.lookup f__law_number_by = some ⟨oc__law_number_by, od__law_number_by, .func (PySem.W.fnOf "_law_number_by" "_law_number_by" (defArgs s__law_number_by) (defBody s__law_number_by) (defScope s__law_number_by) .none kV__law_number_by dc__law_number_by pm__law_number_by an__law_number_by cd__law_number_by ct__law_number_by), sl__law_number_by⟩)
    (e__law_number_by : PySem.W.codeIn K cd__law_number_by "_law_number_by" = true) (p__law_number_by : PySem.W.keepIn K (.ref f__law_number_by) = true)
    {f__law_row_by : Addr} {od__law_row_by an__law_row_by : Option Addr} {sl__law_row_by : Array (Option Value)} {oc__law_row_by kV__law_row_by dc__law_row_by pm__law_row_by cd__law_row_by ct__law_row_by : Value}
    (a__law_row_by : PySem.W.nsIn K mainGlobals "_law_row_by" = some (some (.ref f__law_row_by)))
    (l__law_row_by : K.lookup f__law_row_by = some ⟨oc__law_row_by, od__law_row_by, .func (PySem.W.fnOf "_law_row_by" "_law_row_by" (defArgs s__law_row_by) (defBody s__law_row_by) (defScope s__law_row_by) .none kV__law_row_by dc__law_row_by pm__law_row_by an__law_row_by cd__law_row_by ct__law_row_by), sl__law_row_by⟩)
    (e__law_row_by : PySem.W.codeIn K cd__law_row_by "_law_row_by" = true) (p__law_row_by : PySem.W.keepIn K (.ref f__law_row_by) = true)
    {f__law_cell_at : Addr} {od__law_cell_at an__law_cell_at : Option Addr} {sl__law_cell_at : Array (Option Value)} {oc__law_cell_at kV__law_cell_at dc__law_cell_at pm__law_cell_at cd__law_cell_at ct__law_cell_at : Value}
    (a__law_cell_at : PySem.W.nsIn K mainGlobals "_law_cell_at" = some (some (.ref f__law_cell_at)))
    (l__law_cell_at : K.lookup f__law_cell_at = some ⟨oc__law_cell_at, od__law_cell_at, .func (PySem.W.fnOf "_law_cell_at" "_law_cell_at" (defArgs s__law_cell_at) (defBody s__law_cell_at) (defScope s__law_cell_at) .none kV__law_cell_at dc__law_cell_at pm__law_cell_at an__law_cell_at cd__law_cell_at ct__law_cell_at), sl__law_cell_at⟩)
    (e__law_cell_at : PySem.W.codeIn K cd__law_cell_at "_law_cell_at" = true) (p__law_cell_at : PySem.W.keepIn K (.ref f__law_cell_at) = true)
    {f__law_rows_by : Addr} {od__law_rows_by an__law_rows_by : Option Addr} {sl__law_rows_by : Array (Option Value)} {oc__law_rows_by kV__law_rows_by dc__law_rows_by pm__law_rows_by cd__law_rows_by ct__law_rows_by : Value}
    (a__law_rows_by : PySem.W.nsIn K mainGlobals "_law_rows_by" = some (some (.ref f__law_rows_by)))
    (l__law_rows_by : K.lookup f__law_rows_by = some ⟨oc__law_rows_by, od__law_rows_by, .func (PySem.W.fnOf "_law_rows_by" "_law_rows_by" (defArgs s__law_rows_by) (defBody s__law_rows_by) (defScope s__law_rows_by) .none kV__law_rows_by dc__law_rows_by pm__law_rows_by an__law_rows_by cd__law_rows_by ct__law_rows_by), sl__law_rows_by⟩)
    (e__law_rows_by : PySem.W.codeIn K cd__law_rows_by "_law_rows_by" = true) (p__law_rows_by : PySem.W.keepIn K (.ref f__law_rows_by) = true)
    {f__law_ahead : Addr} {od__law_ahead an__law_ahead : Option Addr} {sl__law_ahead : Array (Option Value)} {oc__law_ahead kV__law_ahead dc__law_ahead pm__law_ahead cd__law_ahead ct__law_ahead : Value}
    (a__law_ahead : PySem.W.nsIn K mainGlobals "_law_ahead" = some (some (.ref f__law_ahead)))
    (l__law_ahead : K.lookup f__law_ahead = some ⟨oc__law_ahead, od__law_ahead, .func (PySem.W.fnOf "_law_ahead" "_law_ahead" (defArgs s__law_ahead) (defBody s__law_ahead) (defScope s__law_ahead) .none kV__law_ahead dc__law_ahead pm__law_ahead an__law_ahead cd__law_ahead ct__law_ahead), sl__law_ahead⟩)
    (e__law_ahead : PySem.W.codeIn K cd__law_ahead "_law_ahead" = true) (p__law_ahead : PySem.W.keepIn K (.ref f__law_ahead) = true)
    {f__law_rounds : Addr} {od__law_rounds an__law_rounds : Option Addr} {sl__law_rounds : Array (Option Value)} {oc__law_rounds kV__law_rounds dc__law_rounds pm__law_rounds cd__law_rounds ct__law_rounds : Value}
    (a__law_rounds : PySem.W.nsIn K mainGlobals "_law_rounds" = some (some (.ref f__law_rounds)))
    (l__law_rounds : K.lookup f__law_rounds = some ⟨oc__law_rounds, od__law_rounds, .func (PySem.W.fnOf "_law_rounds" "_law_rounds" (defArgs s__law_rounds) (defBody s__law_rounds) (defScope s__law_rounds) .none kV__law_rounds dc__law_rounds pm__law_rounds an__law_rounds cd__law_rounds ct__law_rounds), sl__law_rounds⟩)
    (e__law_rounds : PySem.W.codeIn K cd__law_rounds "_law_rounds" = true) (p__law_rounds : PySem.W.keepIn K (.ref f__law_rounds) = true)
    {f_is_whole : Addr} {od_is_whole an_is_whole : Option Addr} {sl_is_whole : Array (Option Value)} {oc_is_whole kV_is_whole dc_is_whole pm_is_whole cd_is_whole ct_is_whole : Value}
    (a_is_whole : PySem.W.nsIn K mainGlobals "is_whole" = some (some (.ref f_is_whole)))
    (l_is_whole : K.lookup f_is_whole = some ⟨oc_is_whole, od_is_whole, .func (PySem.W.fnOf "is_whole" "is_whole" (defArgs s_is_whole) (defBody s_is_whole) (defScope s_is_whole) .none kV_is_whole dc_is_whole pm_is_whole an_is_whole cd_is_whole ct_is_whole), sl_is_whole⟩)
    (e_is_whole : PySem.W.codeIn K cd_is_whole "is_whole" = true) (p_is_whole : PySem.W.keepIn K (.ref f_is_whole) = true)
    {f_good_row : Addr} {od_good_row an_good_row : Option Addr} {sl_good_row : Array (Option Value)} {oc_good_row kV_good_row dc_good_row pm_good_row cd_good_row ct_good_row : Value}
    (a_good_row : PySem.W.nsIn K mainGlobals "good_row" = some (some (.ref f_good_row)))
    (l_good_row : K.lookup f_good_row = some ⟨oc_good_row, od_good_row, .func (PySem.W.fnOf "good_row" "good_row" (defArgs s_good_row) (defBody s_good_row) (defScope s_good_row) .none kV_good_row dc_good_row pm_good_row an_good_row cd_good_row ct_good_row), sl_good_row⟩)
    (e_good_row : PySem.W.codeIn K cd_good_row "good_row" = true) (p_good_row : PySem.W.keepIn K (.ref f_good_row) = true)
    {f_need_rows : Addr} {od_need_rows an_need_rows : Option Addr} {sl_need_rows : Array (Option Value)} {oc_need_rows kV_need_rows dc_need_rows pm_need_rows cd_need_rows ct_need_rows : Value}
    (a_need_rows : PySem.W.nsIn K mainGlobals "need_rows" = some (some (.ref f_need_rows)))
    (l_need_rows : K.lookup f_need_rows = some ⟨oc_need_rows, od_need_rows, .func (PySem.W.fnOf "need_rows" "need_rows" (defArgs s_need_rows) (defBody s_need_rows) (defScope s_need_rows) .none kV_need_rows dc_need_rows pm_need_rows an_need_rows cd_need_rows ct_need_rows), sl_need_rows⟩)
    (e_need_rows : PySem.W.codeIn K cd_need_rows "need_rows" = true) (p_need_rows : PySem.W.keepIn K (.ref f_need_rows) = true)
    {f_nexts : Addr} {od_nexts an_nexts : Option Addr} {sl_nexts : Array (Option Value)} {oc_nexts kV_nexts dc_nexts pm_nexts cd_nexts ct_nexts : Value}
    (a_nexts : PySem.W.nsIn K mainGlobals "nexts" = some (some (.ref f_nexts)))
    (l_nexts : K.lookup f_nexts = some ⟨oc_nexts, od_nexts, .func (PySem.W.fnOf "nexts" "nexts" (defArgs s_nexts) (defBody s_nexts) (defScope s_nexts) .none kV_nexts dc_nexts pm_nexts an_nexts cd_nexts ct_nexts), sl_nexts⟩)
    (e_nexts : PySem.W.codeIn K cd_nexts "nexts" = true) (p_nexts : PySem.W.keepIn K (.ref f_nexts) = true)
    {f_follow : Addr} {od_follow an_follow : Option Addr} {sl_follow : Array (Option Value)} {oc_follow kV_follow dc_follow pm_follow cd_follow ct_follow : Value}
    (a_follow : PySem.W.nsIn K mainGlobals "follow" = some (some (.ref f_follow)))
    (l_follow : K.lookup f_follow = some ⟨oc_follow, od_follow, .func (PySem.W.fnOf "follow" "follow" (defArgs s_follow) (defBody s_follow) (defScope s_follow) .none kV_follow dc_follow pm_follow an_follow cd_follow ct_follow), sl_follow⟩)
    (e_follow : PySem.W.codeIn K cd_follow "follow" = true) (p_follow : PySem.W.keepIn K (.ref f_follow) = true)
    {f_way : Addr} {od_way an_way : Option Addr} {sl_way : Array (Option Value)} {oc_way kV_way dc_way pm_way cd_way ct_way : Value}
    (a_way : PySem.W.nsIn K mainGlobals "way" = some (some (.ref f_way)))
    (l_way : K.lookup f_way = some ⟨oc_way, od_way, .func (PySem.W.fnOf "way" "way" (defArgs s_way) (defBody s_way) (defScope s_way) .none kV_way dc_way pm_way an_way cd_way ct_way), sl_way⟩)
    (e_way : PySem.W.codeIn K cd_way "way" = true) (p_way : PySem.W.keepIn K (.ref f_way) = true)
    {f__law_is_way : Addr} {od__law_is_way an__law_is_way : Option Addr} {sl__law_is_way : Array (Option Value)} {oc__law_is_way kV__law_is_way dc__law_is_way pm__law_is_way cd__law_is_way ct__law_is_way : Value}
    (a__law_is_way : PySem.W.nsIn K mainGlobals "_law_is_way" = some (some (.ref f__law_is_way)))
    (l__law_is_way : K.lookup f__law_is_way = some ⟨oc__law_is_way, od__law_is_way, .func (PySem.W.fnOf "_law_is_way" "_law_is_way" (defArgs s__law_is_way) (defBody s__law_is_way) (defScope s__law_is_way) .none kV__law_is_way dc__law_is_way pm__law_is_way an__law_is_way cd__law_is_way ct__law_is_way), sl__law_is_way⟩)
    (e__law_is_way : PySem.W.codeIn K cd__law_is_way "_law_is_way" = true) (p__law_is_way : PySem.W.keepIn K (.ref f__law_is_way) = true)
    {f__law_ints : Addr} {od__law_ints an__law_ints : Option Addr} {sl__law_ints : Array (Option Value)} {oc__law_ints kV__law_ints dc__law_ints pm__law_ints cd__law_ints ct__law_ints : Value}
    (a__law_ints : PySem.W.nsIn K mainGlobals "_law_ints" = some (some (.ref f__law_ints)))
    (l__law_ints : K.lookup f__law_ints = some ⟨oc__law_ints, od__law_ints, .func (PySem.W.fnOf "_law_ints" "_law_ints" (defArgs s__law_ints) (defBody s__law_ints) (defScope s__law_ints) .none kV__law_ints dc__law_ints pm__law_ints an__law_ints cd__law_ints ct__law_ints), sl__law_ints⟩)
    (e__law_ints : PySem.W.codeIn K cd__law_ints "_law_ints" = true) (p__law_ints : PySem.W.keepIn K (.ref f__law_ints) = true)
    {f_reached : Addr} {od_reached an_reached : Option Addr} {sl_reached : Array (Option Value)} {oc_reached kV_reached dc_reached pm_reached cd_reached ct_reached : Value}
    (a_reached : PySem.W.nsIn K mainGlobals "reached" = some (some (.ref f_reached)))
    (l_reached : K.lookup f_reached = some ⟨oc_reached, od_reached, .func (PySem.W.fnOf "reached" "reached" (defArgs s_reached) (defBody s_reached) (defScope s_reached) .none kV_reached dc_reached pm_reached an_reached cd_reached ct_reached), sl_reached⟩)
    (e_reached : PySem.W.codeIn K cd_reached "reached" = true) (p_reached : PySem.W.keepIn K (.ref f_reached) = true)
    {f_law : Addr} {od_law an_law : Option Addr} {sl_law : Array (Option Value)} {oc_law kV_law dc_law pm_law cd_law ct_law : Value}
    (a_law : PySem.W.nsIn K mainGlobals "law" = some (some (.ref f_law)))
    (l_law : K.lookup f_law = some ⟨oc_law, od_law, .func (PySem.W.fnOf "law" "law" (defArgs s_law) (defBody s_law) (defScope s_law) .none kV_law dc_law pm_law an_law cd_law ct_law), sl_law⟩)
    (e_law : PySem.W.codeIn K cd_law "law" = true) (p_law : PySem.W.keepIn K (.ref f_law) = true)
    (n_len : PySem.W.nsIn K mainGlobals "len" = some none)
    (n_isinstance : PySem.W.nsIn K mainGlobals "isinstance" = some none)
    (n_int : PySem.W.nsIn K mainGlobals "int" = some none)
    (n_bool : PySem.W.nsIn K mainGlobals "bool" = some none)
    (n_str : PySem.W.nsIn K mainGlobals "str" = some none)
    (n_tuple : PySem.W.nsIn K mainGlobals "tuple" = some none)
    (n_list : PySem.W.nsIn K mainGlobals "list" = some none)
    (n_range : PySem.W.nsIn K mainGlobals "range" = some none)
    (n_sorted : PySem.W.nsIn K mainGlobals "sorted" = some none)
    (n_max : PySem.W.nsIn K mainGlobals "max" = some none)
    (n_min : PySem.W.nsIn K mainGlobals "min" = some none)
    (n_any : PySem.W.nsIn K mainGlobals "any" = some none)
    (n_all : PySem.W.nsIn K mainGlobals "all" = some none)
    (n_enumerate : PySem.W.nsIn K mainGlobals "enumerate" = some none)
    {t_BOXES : Tok} (q_BOXES : PySem.W.nsIn K mainGlobals "BOXES" = some (some (Value.int 4 t_BOXES)))
    {t_MOST_ROWS : Tok} (q_MOST_ROWS : PySem.W.nsIn K mainGlobals "MOST_ROWS" = some (some (Value.int 20 t_MOST_ROWS)))
    : ∃ fd : FuncData, (∀ (s : Shared) (v : Value), BindsTo s fd ⟨[v], []⟩ [("_law_script", v)]) ∧ ∀ base : Heap, K.In base → base.Ns mainGlobals mg → FnOk l.prog w K mg base CX0 5 fa fd ["_law_script"] (spLaw K) := by
  have T : Txt mg := ⟨PySem.W.mg_none_of X G n_len, PySem.W.mg_none_of X G n_isinstance, PySem.W.mg_none_of X G n_int, PySem.W.mg_none_of X G n_bool, PySem.W.mg_none_of X G n_str, PySem.W.mg_none_of X G n_tuple, PySem.W.mg_none_of X G n_list, PySem.W.mg_none_of X G n_range, PySem.W.mg_none_of X G n_sorted, PySem.W.mg_none_of X G n_max, PySem.W.mg_none_of X G n_min, PySem.W.mg_none_of X G n_any, PySem.W.mg_none_of X G n_all, PySem.W.mg_none_of X G n_enumerate⟩
  have k_BOXES : ∃ t, mg "BOXES" = some (Value.int 4 t) := ⟨_, PySem.W.mg_of X G q_BOXES⟩
  have k_MOST_ROWS : ∃ t, mg "MOST_ROWS" = some (Value.int 20 t) := ⟨_, PySem.W.mg_of X G q_MOST_ROWS⟩
  have D__law_near : DefAt K mg "_law_near" s__law_near := ⟨_, _, fun_mk (st := s__law_near) l__law_near e__law_near p__law_near, PySem.W.mg_of X G a__law_near⟩
  have D__law_number_by : DefAt K mg "_law_number_by" s__law_number_by := ⟨_, _, fun_mk (st := s__law_number_by) l__law_number_by e__law_number_by p__law_number_by, PySem.W.mg_of X G a__law_number_by⟩
  have D__law_row_by : DefAt K mg "_law_row_by" s__law_row_by := ⟨_, _, fun_mk (st := s__law_row_by) l__law_row_by e__law_row_by p__law_row_by, PySem.W.mg_of X G a__law_row_by⟩
  have D__law_cell_at : DefAt K mg "_law_cell_at" s__law_cell_at := ⟨_, _, fun_mk (st := s__law_cell_at) l__law_cell_at e__law_cell_at p__law_cell_at, PySem.W.mg_of X G a__law_cell_at⟩
  have D__law_rows_by : DefAt K mg "_law_rows_by" s__law_rows_by := ⟨_, _, fun_mk (st := s__law_rows_by) l__law_rows_by e__law_rows_by p__law_rows_by, PySem.W.mg_of X G a__law_rows_by⟩
  have D__law_ahead : DefAt K mg "_law_ahead" s__law_ahead := ⟨_, _, fun_mk (st := s__law_ahead) l__law_ahead e__law_ahead p__law_ahead, PySem.W.mg_of X G a__law_ahead⟩
  have D__law_rounds : DefAt K mg "_law_rounds" s__law_rounds := ⟨_, _, fun_mk (st := s__law_rounds) l__law_rounds e__law_rounds p__law_rounds, PySem.W.mg_of X G a__law_rounds⟩
  have D_is_whole : DefAt K mg "is_whole" s_is_whole := ⟨_, _, fun_mk (st := s_is_whole) l_is_whole e_is_whole p_is_whole, PySem.W.mg_of X G a_is_whole⟩
  have D_good_row : DefAt K mg "good_row" s_good_row := ⟨_, _, fun_mk (st := s_good_row) l_good_row e_good_row p_good_row, PySem.W.mg_of X G a_good_row⟩
  have D_need_rows : DefAt K mg "need_rows" s_need_rows := ⟨_, _, fun_mk (st := s_need_rows) l_need_rows e_need_rows p_need_rows, PySem.W.mg_of X G a_need_rows⟩
  have D_nexts : DefAt K mg "nexts" s_nexts := ⟨_, _, fun_mk (st := s_nexts) l_nexts e_nexts p_nexts, PySem.W.mg_of X G a_nexts⟩
  have D_follow : DefAt K mg "follow" s_follow := ⟨_, _, fun_mk (st := s_follow) l_follow e_follow p_follow, PySem.W.mg_of X G a_follow⟩
  have D_way : DefAt K mg "way" s_way := ⟨_, _, fun_mk (st := s_way) l_way e_way p_way, PySem.W.mg_of X G a_way⟩
  have D__law_is_way : DefAt K mg "_law_is_way" s__law_is_way := ⟨_, _, fun_mk (st := s__law_is_way) l__law_is_way e__law_is_way p__law_is_way, PySem.W.mg_of X G a__law_is_way⟩
  have D__law_ints : DefAt K mg "_law_ints" s__law_ints := ⟨_, _, fun_mk (st := s__law_ints) l__law_ints e__law_ints p__law_ints, PySem.W.mg_of X G a__law_ints⟩
  have D_reached : DefAt K mg "reached" s_reached := ⟨_, _, fun_mk (st := s_reached) l_reached e_reached p_reached, PySem.W.mg_of X G a_reached⟩
  have e := hfa.symm.trans (PySem.W.mg_of X G a_law)
  cases e
  refine ⟨PySem.W.fnOf "law" "law" (defArgs s_law) (defBody s_law) (defScope s_law) .none kV_law dc_law pm_law an_law cd_law ct_law, fun s v => .of_eq rfl, fun base _ _ => ?_⟩
  have c__law_near : Cal l.prog w K mg base CX0 1 "_law_near" ["_law_k", "_law_mixed", "_law_many"] spNear := W.c__law_near T D__law_near
  have c__law_number_by : Cal l.prog w K mg base CX0 1 "_law_number_by" ["_law_cell"] spNum := W.c__law_number_by T D__law_number_by
  have c__law_row_by : Cal l.prog w K mg base CX0 2 "_law_row_by" ["_law_cell", "_law_k", "_law_many"] spRow := W.c__law_row_by T D__law_row_by c__law_near c__law_number_by
  have c__law_cell_at : Cal l.prog w K mg base CX0 1 "_law_cell_at" ["_law_script", "_law_k"] (spCellU K) := W.c__law_cell_at T D__law_cell_at
  have c__law_rows_by : Cal l.prog w K mg base CX0 3 "_law_rows_by" ["_law_script"] (spRows K) := W.c__law_rows_by T D__law_rows_by c__law_row_by c__law_cell_at
  have c__law_ahead : Cal l.prog w K mg base CX0 1 "_law_ahead" ["_law_row"] (spNexts K) := W.c__law_ahead T D__law_ahead
  have c__law_rounds : Cal l.prog w K mg base CX0 2 "_law_rounds" ["_law_rows", "_law_start", "_law_without"] (spRounds K) := W.c__law_rounds T D__law_rounds c__law_ahead
  have c_is_whole : Cal l.prog w K mg base CX0 1 "is_whole" ["thing"] spWhole := W.c_is_whole T D_is_whole
  have c_good_row : Cal l.prog w K mg base CX0 2 "good_row" ["row", "many"] (spGood K) := W.c_good_row T D_good_row k_BOXES c_is_whole
  have c_need_rows : Cal l.prog w K mg base CX0 3 "need_rows" ["rows"] (spNeed K) := W.c_need_rows T D_need_rows k_MOST_ROWS c_good_row
  have c_nexts : Cal l.prog w K mg base CX0 1 "nexts" ["row"] (spNexts K) := W.c_nexts T D_nexts
  have c_follow : Cal l.prog w K mg base CX0 2 "follow" ["rows", "start", "without"] (spFollow K) := W.c_follow T D_follow c_nexts
  have c_way : Cal l.prog w K mg base CX0 4 "way" ["rows", "start", "goal", "without"] (spWay K) := W.c_way T D_way c_need_rows c_follow
  have c__law_is_way : Cal l.prog w K mg base CX0 2 "_law_is_way" ["_law_found", "_law_rows", "_law_start", "_law_goal", "_law_without", "_law_size"] (spIsWay3 K) := W.c__law_is_way T D__law_is_way c__law_ahead
  have c__law_ints : Cal l.prog w K mg base CX0 1 "_law_ints" ["_law_found", "_law_due"] (spInts K) := W.c__law_ints T D__law_ints
  have c_reached : Cal l.prog w K mg base CX0 4 "reached" ["rows"] (spReached K) := W.c_reached T D_reached c_need_rows c_follow
  exact W.c_law (P := l.prog) (w := w) (base := base) T (fun_mk (st := s_law) l_law e_law p_law) c__law_rows_by c__law_rounds c_way c__law_is_way c__law_cell_at c__law_ints c_reached
end W
open PySem PySem.W PyProof.Rows
set_option maxHeartbeats 0 in
theorem PySem.Challenge.cw_unravel_k03_shortest_ways_holds : PySem.Challenge.rw_unravel_k03_shortest_ways.Holds := by
  w_on; o_law; k_head; (case hw => w_witness2)
  k_fill
  refine L2.walk_ofB (l := PySem.Challenge.rw_unravel_k03_shortest_ways) (n := 63) (k := 5) (x := "_law_script") (CX := fun _ => L2.CX0) (sp := fun w => U.spLaw _) rfl (by decide) rfl ⟨rfl, by decide, by decide⟩ (fun w h Y => PySem.W.kIn_of Y) ?F (fun _ H a ns hl hb _ hS => U.spLaw_in hS hl hb) (fun _ _ _ _ _ h => h)
  case F =>
    intro w mg fa h KX G hmg
    refine' W.all_mk KX G hmg ?a__law_near ?l__law_near ?e__law_near ?p__law_near ?a__law_number_by ?l__law_number_by ?e__law_number_by ?p__law_number_by ?a__law_row_by ?l__law_row_by ?e__law_row_by ?p__law_row_by ?a__law_cell_at ?l__law_cell_at ?e__law_cell_at ?p__law_cell_at ?a__law_rows_by ?l__law_rows_by ?e__law_rows_by ?p__law_rows_by ?a__law_ahead ?l__law_ahead ?e__law_ahead ?p__law_ahead ?a__law_rounds ?l__law_rounds ?e__law_rounds ?p__law_rounds ?a_is_whole ?l_is_whole ?e_is_whole ?p_is_whole ?a_good_row ?l_good_row ?e_good_row ?p_good_row ?a_need_rows ?l_need_rows ?e_need_rows ?p_need_rows ?a_nexts ?l_nexts ?e_nexts ?p_nexts ?a_follow ?l_follow ?e_follow ?p_follow ?a_way ?l_way ?e_way ?p_way ?a__law_is_way ?l__law_is_way ?e__law_is_way ?p__law_is_way ?a__law_ints ?l__law_ints ?e__law_ints ?p__law_ints ?a_reached ?l_reached ?e_reached ?p_reached ?a_law ?l_law ?e_law ?p_law ?n_len ?n_isinstance ?n_int ?n_bool ?n_str ?n_tuple ?n_list ?n_range ?n_sorted ?n_max ?n_min ?n_any ?n_all ?n_enumerate ?q_BOXES ?q_MOST_ROWS
    (case a__law_near => k_is)
    (case l__law_near => k_is)
    (case e__law_near => k_is)
    (case p__law_near => k_is)
    (case a__law_number_by => k_is)
    (case l__law_number_by => k_is)
    (case e__law_number_by => k_is)
    (case p__law_number_by => k_is)
    (case a__law_row_by => k_is)
    (case l__law_row_by => k_is)
    (case e__law_row_by => k_is)
    (case p__law_row_by => k_is)
    (case a__law_cell_at => k_is)
    (case l__law_cell_at => k_is)
    (case e__law_cell_at => k_is)
    (case p__law_cell_at => k_is)
    (case a__law_rows_by => k_is)
    (case l__law_rows_by => k_is)
    (case e__law_rows_by => k_is)
    (case p__law_rows_by => k_is)
    (case a__law_ahead => k_is)
    (case l__law_ahead => k_is)
    (case e__law_ahead => k_is)
    (case p__law_ahead => k_is)
    (case a__law_rounds => k_is)
    (case l__law_rounds => k_is)
    (case e__law_rounds => k_is)
    (case p__law_rounds => k_is)
    (case a_is_whole => k_is)
    (case l_is_whole => k_is)
    (case e_is_whole => k_is)
    (case p_is_whole => k_is)
    (case a_good_row => k_is)
    (case l_good_row => k_is)
    (case e_good_row => k_is)
    (case p_good_row => k_is)
    (case a_need_rows => k_is)
    (case l_need_rows => k_is)
    (case e_need_rows => k_is)
    (case p_need_rows => k_is)
    (case a_nexts => k_is)
    (case l_nexts => k_is)
    (case e_nexts => k_is)
    (case p_nexts => k_is)
    (case a_follow => k_is)
    (case l_follow => k_is)
    (case e_follow => k_is)
    (case p_follow => k_is)
    (case a_way => k_is)
    (case l_way => k_is)
    (case e_way => k_is)
    (case p_way => k_is)
    (case a__law_is_way => k_is)
    (case l__law_is_way => k_is)
    (case e__law_is_way => k_is)
    (case p__law_is_way => k_is)
    (case a__law_ints => k_is)
    (case l__law_ints => k_is)
    (case e__law_ints => k_is)
    (case p__law_ints => k_is)
    (case a_reached => k_is)
    (case l_reached => k_is)
    (case e_reached => k_is)
    (case p_reached => k_is)
    (case a_law => k_is)
    (case l_law => k_is)
    (case e_law => k_is)
    (case p_law => k_is)
    (case n_len => k_is)
    (case n_isinstance => k_is)
    (case n_int => k_is)
    (case n_bool => k_is)
    (case n_str => k_is)
    (case n_tuple => k_is)
    (case n_list => k_is)
    (case n_range => k_is)
    (case n_sorted => k_is)
    (case n_max => k_is)
    (case n_min => k_is)
    (case n_any => k_is)
    (case n_all => k_is)
    (case n_enumerate => k_is)
    (case q_BOXES => k_is)
    (case q_MOST_ROWS => k_is)

