import PyProof.Rows.All
import Wide.All
import OpenK.AllK
import Wide.FinOn
import KE.KStateDown
import KE.KExcIs
import HandS.ForMost
import HandS.ForExc
import HandS.Defaults
import HandS.Wide
import HandS.IsInst
import HandS.ExcInit
import HandS.ExcIs
import HandS.ExcField
import HandS.ExcValue
import HandS.HeadHook1
import HandS.HeadHook2
import HandS.HeadHook3
import HandS.HeadHook4
import HandS.Head0
import HandS.Head1
import HandS.Head2
import HandS.HeadEnd
import PySem.Challenge.RW_slotkeep_k71_refusals_made
set_option Elab.async false
set_option linter.all false
set_option maxRecDepth 100000
set_option maxHeartbeats 4000000
/-! own rules: exceptions of the program's classes, held as values -/
namespace Sk
open PySem PySem.Spec PyProof.Rows L2
/-- number ** k, wide -/
def CPowW (i j : Int) : Prop := 0 ≤ j ∧ (Builtin.Int.intBits i : Int) * j ≤ 2 ^ 27
theorem op_powW {X : Cx} : OpR X (binaryOp .Pow) (rI CPowW fun i j => .int (i ^ j.toNat)) :=
  opI fun _ _ _ _ _ _ _ hc q => pow_int hc.1 hc.2 q
theorem powW_ok {i j : Int} {b : Nat} (hi : i.natAbs < 2 ^ b) (hj : 0 ≤ j) (h : (b : Int) * j ≤ 100000000) : CPowW i j := by
  refine ⟨hj, ?_⟩
  have e : Builtin.Int.intBits i ≤ b := by
    unfold Builtin.Int.intBits
    split
    · omega
    · rename_i h0
      have hz : i.natAbs ≠ 0 := by
        intro z
        apply h0
        simp; omega
      have := (Nat.log2_lt hz).mpr hi
      omega
  have : (Builtin.Int.intBits i : Int) * j ≤ (b : Int) * j := Int.mul_le_mul_of_nonneg_right (by omega) hj
  omega
/-- an exception at a: of the class C, its dict perhaps -/
inductive XoAt (H : Hp) (a C : Addr) : Prop where
  | bare (e : H a = some (exo a C none)) : XoAt H a C
  | full (d : Addr) (fs : List (Str × V)) (e : H a = some (exo a C (some d))) (g : H d = some (exd d fs)) : XoAt H a C
section
variable {X : Cx} {pins : List (Addr × Obj)} {σ : L2.St} {H : Hp} {s : Shared}
theorem xoAt_inst {a C : Addr} (I : Inv X pins σ H s) (h : XoAt H a C) : ∃ ox od, PySem.W.InstAt s.heap a ox C od := by
  cases h with
  | bare e =>
    obtain ⟨t, q⟩ := exo_at I.hok e
    exact ⟨_, none, q, rfl, rfl, True.intro⟩
  | full d fs e g =>
    obtain ⟨t, q⟩ := exo_at I.hok e
    obtain ⟨mA, hns, _⟩ := exd_at I.hok g
    obtain ⟨od, ho, _⟩ := lookIn_ns hns
    exact ⟨_, some od, q, rfl, rfl, ho⟩
end
def rIsO (K : PySem.W.Frag) : List V → Hp → VK → Prop := fun xs H Q => ∃ (a C : Addr) (c : V) (cv : Value) (b : Bool), xs = [.ref a, c] ∧ XoAt H a C ∧ ExcC K C ∧ ClsV c cv ∧ PySem.W.kitOne K (.ref C) cv = some b ∧ Q (.bl b) H
theorem call_isO {X : Cx} : CallR X (.builtin "isinstance") (rIsO X.K) := by
  intro pins s σ H xs us Q I r h
  obtain ⟨a, C, c, cv, b, rfl, ho, T, hc, e, q⟩ := h
  obtain ⟨u1, u2, rfl, r1, r2⟩ := vals2 r
  have e2 := hc.eq r2
  subst e2
  cases (show u1 = Value.ref a from r1)
  obtain ⟨ox, od, J⟩ := xoAt_inst I ho
  obtain ⟨cd, hcl, _⟩ := PySem.W.any_some T.hd
  exact PySem.W.kia_one (PySem.W.kitx_exc (by rw [hcl]; rfl) T.hg T.hk T.hs T.ha T.hn T.ht T.hm) I.kIn J e (fun z => nomatch z) fun tk => ⟨.bl b, H, I.tok tk, rfl, q⟩
/-- e.f of an exception that is held as a value -/
def tXo (K : PySem.W.Frag) (f : Str) (te : TE) : TE := fun σ H Q => te σ H fun x H1 => ∃ (a C d : Addr) (fs : List (Str × V)) (v : V), x = .ref a ∧ XfC K C ∧ PySem.W.findIn K (.ref C) f = some none ∧
  H1 a = some (exo a C (some d)) ∧ H1 d = some (exd d fs) ∧ fs.lookup f = some v ∧ Q v H1
theorem pe_xo {X : Cx} {e : Expr} {te : TE} {pos : Pos} {f : Str} (he : PE X e te) (hb : attributeBase e f X.env (eval e X.env) = eval e X.env := by rfl) : PE X (.Attribute e f pos) (tXo X.K f te) := by
  refine ⟨fun pins s σ H Q I h => ?_⟩
  refine attr_of hb (thn (he.run pins s σ H _ I h) fun u s1 hh => ?_)
  obtain ⟨x, H1, I1, rx, a, C, d, fs, v, ex, T, hno, ea, ed, l, q⟩ := hh
  subst ex
  obtain rfl : u = Value.ref a := rx
  obtain ⟨t, ho⟩ := exo_at I1.hok ea
  obtain ⟨mA, hns, hr⟩ := exd_at I1.hok ed
  obtain ⟨od, hod, hl⟩ := lookIn_ns hns
  obtain ⟨u, hu, ru⟩ := RelO.some_of (v := v) (o := mA f) (by rw [← l]; exact hr f)
  have J : PySem.W.InstAt s1.heap a _ C (some od) := ⟨ho, rfl, rfl, hod⟩
  exact HandSPX.exc_get I1.kIn J T.ga T.gg T.exC (PySem.W.findObj_own T.hdC hno rfl (by rw [hl, hu])) (handed_of ru) ⟨v, H1, I1.tok _, ru, q⟩
/-- C(), C without an __init__ of its own -/
theorem pe_xo0 {X : Cx} {C : Addr} {bmB : List Value} {B newId initId : String} {x : Str} {p pos : Pos} (F : ExcBaseFacts B newId initId bmB) (q : PySem.W.excIn X.K C bmB newId = true) (gC : X.mg x = some (.ref C)) (kC : PySem.W.keepIn X.K (.ref C) = true) (hg : Gl X x)
    (hdb : (x == ("__debug__" : Str)) = false := by decide) :
    PE X (.Call (.Name x p) [] [] pos) (fun _ H Q => ∀ a, H a = none → Q (.ref a) (upd H a (exo a C none))) := by
  refine ⟨fun pins s σ H Q I h => ?_⟩
  refine wpAny_Call_Name_kw (ld_glob I hg gC ?_ hdb)
  refine PySem.W.callWith_K0 I.kIn kC ?_
  obtain ⟨bm, N, nm, qn, bs, hdct, sn, sub, ab, col, dd, k0, k1, k2, k3, k5, mN, hC, hN, hni, T⟩ := exc_obj I.kIn q
  refine wpAny_call_exc_subT F T hC hN hni (fun h' a hm => ?_) (by show 0 ≤ sizeLine; omega)
  have hn : H a = none := I.hok.gone hm.new
  obtain ⟨t, ht, _, _⟩ := hm.there
  exact ⟨.ref a, upd H a (exo a C none), I.laidN hm.keeps hm.new hn (exo_ok ht), rfl, h a hn⟩
/-- C(e, ..), C with an __init__ of its own that keeps sp -/
def tXoM (C : Addr) (sp : Sp) (ta : TA) : TE := fun σ H Q => ta σ H fun vs H1 => vs.length ≤ 1000 ∧ ∀ a, H1 a = none → sp (.ref a :: vs) (upd H1 a (exo a C none)) (fun v H2 => v = .non ∧ Q (.ref a) H2) (fun _ _ _ => False)
theorem pe_xoM {X : Cx} {CX : CXT} {e : Expr} {es : List Expr} {ta : TA} {p pos : Pos} {x : Str} {C fI : Addr} {k : Nat} {fd : FuncData} {ps : List Str} {sp : Sp} (T : OexC X.K C) (iC : PySem.W.findIn X.K (.ref C) "__init__" = some (some (.ref fI))) (tI : PySem.W.typeIn X.K (.ref fI) = some (.type "function"))
    (F1 : FnOk X.prog X.w X.K X.mg X.base CX k fI fd ps sp) (hr : Room (k + 1) X.A) (hb : Binds X.K fd ps []) (hx : Passes CX X (fun _ _ _ => False)) (hg : Gl X x) (hm : X.mg x = some (.ref C)) (ha : PA X (e :: es) ta)
    (hdb : (x == ("__debug__" : Str)) = false := by decide) (he : starEach (e :: es) X.env = (false, eval e X.env) :: starEach es X.env := by rfl) (hpl : (backTo pos (starEach es X.env)).any (·.1) = false := by rfl) :
    PE X (.Call (.Name x p) (e :: es) [] pos) (tXoM C sp ta) := by
  refine ⟨fun pins s σ H Q I h => ?_⟩
  obtain ⟨nm, q, N, bs, bm, sn, sub, ab, col, dd, k0, k1, k2, k3, k5, hC, hbm⟩ := T.cls
  refine wpAny_Call_Name_kw (ld_glob I hg hm ?_ hdb)
  refine PySem.W.callWith_K (h₀ := X.base) I.ok.mod.kin T.kC (thn (ha.run pos pins s σ H _ I h) fun us s1 ⟨vs, H1, I1, r1, hz, q1⟩ => ⟨I1.kIn, ?_⟩) he hpl
  show wpAny _ _ (call (.ref C) us) _ _ _
  obtain ⟨hp, g, dr, tk, os⟩ := s1
  have hsz : hp.objs.size ≤ hp.objs.size + 1 := Nat.le_succ _
  have hn : H1 (hp.objs.size + 1) = none := I1.hok.fresh hsz
  have hq := q1 (hp.objs.size + 1) hn
  have kk : ∀ b o, hp.get? b = some o → ((hp.push (PySem.W.kdv_tup us)).push (PySem.HandSPX.excO C hp.objs.size)).get? b = some o :=
    fun b o e => Heap.get?_push_of_some _ (Heap.get?_push_of_some _ e)
  have hget : ((hp.push (PySem.W.kdv_tup us)).push (PySem.HandSPX.excO C hp.objs.size)).get? (hp.objs.size + 1) = some (PySem.HandSPX.excO C hp.objs.size) := by heap_get
  have I2 := I1.laid (t' := tk) (a := hp.objs.size + 1) (o := exo (hp.objs.size + 1) C none) (h' := (hp.push (PySem.W.kdv_tup us)).push (PySem.HandSPX.excO C hp.objs.size)) kk hsz (exo_ok hget)
  have r2 : Vals (V.ref (hp.objs.size + 1) :: vs) (Value.ref (hp.objs.size + 1) :: us) := .cons rfl r1
  have hl : (Value.ref (hp.objs.size + 1) :: us).length = ps.length := by
    have e := r2.length
    rw [F1.len _ _ _ _ hq] at e
    exact e.symm
  have hus : us.length ≤ sizeLine := by
    rw [← Paired.length r1, sizeLine_eq]
    omega
  have e0 : Value.ref (hp.objs.size + 1) :: us ++ [] = Value.ref (hp.objs.size + 1) :: us := by simp
  have hbb := hb (⟨(hp.push (PySem.W.kdv_tup us)).push (PySem.HandSPX.excO C hp.objs.size), g, dr, tk, os⟩ : Shared) (Value.ref (hp.objs.size + 1) :: us) I2.kIn (by rw [e0]; exact hl)
  rw [e0] at hbb
  refine wpAny_call (PySem.HandSPX.call_own F.excBase_ValueError (fun Y => PySem.HandSPX.refsVE_contains Y bm hbm) (I1.kIn _ _ hC) (PySem.W.looks_findIn I1.kIn iC) (fun self => PySem.W.bind_fn I1.kIn self tI) hus
    (codeAny_mono (F1.run _ X.stack _ _ ⟨Value.ref (hp.objs.size + 1) :: us, []⟩ (Value.ref (hp.objs.size + 1) :: us) _ _ (fun _ _ _ => False) (hr.make C us []) (I2.env0.make C us []) hbb r2 hq) fun r s' hq' => ?_))
  cases r with
  | error er => exact hx pins σ _ _ er s' I2 hq'
  | ok fl =>
    cases fl with
    | ret u =>
      obtain ⟨v, H2, os2, bare2, un2, hok2, rv, ev, q2⟩ := hq'
      subst ev
      obtain ⟨h2, g2, d2, t2, os'⟩ := s'
      refine ⟨rv, .ref (hp.objs.size + 1), H2, ?_, rfl, q2⟩
      exact I2.call' (ch := []) os2 un2 hok2 bare2 (fun b z => absurd z (by simp))
    | next => exact False.elim hq'
    | brk => exact False.elim hq'
    | cont => exact False.elim hq'
end Sk

set_option maxHeartbeats 4000000
/-! bundles of facts; the steps through a reading -/
namespace Sk
open PySem PySem.Spec PyProof.Rows L2
/-- the built-in names are free -/
structure Bas (mg : Str → Option Value) : Prop where
  all : ∀ x ∈ (["len", "range", "isinstance", "min", "max", "sorted", "dict", "list", "any", "all", "sum", "enumerate", "set", "zip", "int", "str", "bool", "tuple", "ValueError"] : List Str), mg x = none
theorem Bas.len {mg : Str → Option Value} (B : Bas mg) : mg "len" = none := B.all _ (by simp)
theorem Bas.range {mg : Str → Option Value} (B : Bas mg) : mg "range" = none := B.all _ (by simp)
theorem Bas.isi {mg : Str → Option Value} (B : Bas mg) : mg "isinstance" = none := B.all _ (by simp)
theorem Bas.min {mg : Str → Option Value} (B : Bas mg) : mg "min" = none := B.all _ (by simp)
theorem Bas.max {mg : Str → Option Value} (B : Bas mg) : mg "max" = none := B.all _ (by simp)
theorem Bas.int {mg : Str → Option Value} (B : Bas mg) : mg "int" = none := B.all _ (by simp)
theorem Bas.str {mg : Str → Option Value} (B : Bas mg) : mg "str" = none := B.all _ (by simp)
theorem Bas.bool {mg : Str → Option Value} (B : Bas mg) : mg "bool" = none := B.all _ (by simp)
theorem Bas.VE {mg : Str → Option Value} (B : Bas mg) : mg "ValueError" = none := B.all _ (by simp)
/-- a def of the top, called by its name -/
structure Cal (P : Program) (w : World) (K : PySem.W.Frag) (mg : Str → Option Value) (base : Heap) (CX : CXT) (k : Nat) (x : Str) (ps : List Str) (sp : Sp) : Prop where
  ex : ∃ f fd, FnOk P w K mg base CX k f fd ps sp ∧ mg x = some (.ref f) ∧ PySem.W.keepIn K (.ref f) = true ∧ Binds K fd ps []
def tCal (sp : Sp) (E : XK) (t : TA) : TE := fun σ H Q => t σ H fun vs H1 => sp vs H1 Q E
section
variable {X : Cx} {CX : CXT} {k : Nat} {x : Str} {ps : List Str} {sp : Sp} {E : XK} {p pos : Pos} {e : Expr} {es : List Expr} {t : TA}
theorem tCal_nil {sp : Sp} {E : XK} {t : TA} : tCall sp [] E t = tCal sp E t := by
  funext σ H Q
  show t σ H (fun vs H1 => sp (vs ++ []) H1 Q E) = t σ H (fun vs H1 => sp vs H1 Q E)
  simp only [List.append_nil]
theorem pe_cal (c : Cal X.prog X.w X.K X.mg X.base CX k x ps sp) (hr : Room k X.A) (hg : Gl X x) (hx : Passes CX X E) (ha : PA X (e :: es) t)
    (hdb : (x == ("__debug__" : Str)) = false := by decide) (he : starEach (e :: es) X.env = (false, eval e X.env) :: starEach es X.env := by rfl) (hpl : (backTo pos (starEach es X.env)).any (·.1) = false := by rfl) :
    PE X (.Call (.Name x p) (e :: es) [] pos) (tCal sp E t) := by
  obtain ⟨f, fd, F, hm, hk, hb⟩ := c.ex
  rw [← tCal_nil]
  exact pe_call F hr hg hm hk hb .nil hx ha hdb he hpl
theorem pe_cal0 (c : Cal X.prog X.w X.K X.mg X.base CX k x ps sp) (hr : Room k X.A) (hg : Gl X x) (hx : Passes CX X E)
    (hdb : (x == ("__debug__" : Str)) = false := by decide) : PE X (.Call (.Name x p) [] [] pos) (tCal sp E tNil) := by
  obtain ⟨f, fd, F, hm, hk, hb⟩ := c.ex
  rw [← tCal_nil]
  exact pe_call0 F hr hg hm hk hb .nil hx hdb
end
def rLenQ (K : PySem.W.Frag) : List V → Hp → VK → Prop := fun xs H Q => ∃ p ys, xs = [.ref p] ∧ (SqL K H p ys ∨ SqT K H p ys) ∧ Q (.int ys.length) H
theorem call_lenQ {X : Cx} : CallR X (.builtin "len") (rLenQ X.K) := call_len_seq
/-- an exception class with an __init__ that keeps sp -/
structure MkX (P : Program) (w : World) (K : PySem.W.Frag) (mg : Str → Option Value) (base : Heap) (k : Nat) (x : Str) (C : Addr) (ps : List Str) (sp : Sp) : Prop where
  ex : ∃ fI fd, OexC K C ∧ PySem.W.findIn K (.ref C) "__init__" = some (some (.ref fI)) ∧ PySem.W.typeIn K (.ref fI) = some (.type "function") ∧ FnOk P w K mg base CX0 k fI fd ps sp ∧ mg x = some (.ref C) ∧ Binds K fd ps []
theorem pe_mkx {X : Cx} {e : Expr} {es : List Expr} {ta : TA} {p pos : Pos} {x : Str} {C : Addr} {k : Nat} {ps : List Str} {sp : Sp} (m : MkX X.prog X.w X.K X.mg X.base k x C ps sp) (hr : Room (k + 1) X.A) (hg : Gl X x) (ha : PA X (e :: es) ta)
    (hdb : (x == ("__debug__" : Str)) = false := by decide) (he : starEach (e :: es) X.env = (false, eval e X.env) :: starEach es X.env := by rfl) (hpl : (backTo pos (starEach es X.env)).any (·.1) = false := by rfl) :
    PE X (.Call (.Name x p) (e :: es) [] pos) (tXoM C sp ta) := by
  obtain ⟨fI, fd, T, iC, tI, F1, hm, hb⟩ := m.ex
  exact pe_xoM T iC tI F1 hr hb pass0 hg hm ha hdb he hpl
theorem g_xoM {σ : L2.St} {H : Hp} {Q : VK} {C : Addr} {sp : Sp} {ta : TA} (h : ta σ H fun vs H1 => vs.length ≤ 1000 ∧ ∀ a, H1 a = none → sp (.ref a :: vs) (upd H1 a (exo a C none)) (fun v H2 => v = .non ∧ Q (.ref a) H2) (fun _ _ _ => False)) : tXoM C sp ta σ H Q := h
theorem g_xo {σ : L2.St} {H : Hp} {Q : VK} {K : PySem.W.Frag} {f : Str} {te : TE} (h : te σ H fun x H1 => ∃ (a C d : Addr) (fs : List (Str × V)) (v : V), x = .ref a ∧ XfC K C ∧ PySem.W.findIn K (.ref C) f = some none ∧
  H1 a = some (exo a C (some d)) ∧ H1 d = some (exd d fs) ∧ fs.lookup f = some v ∧ Q v H1) : tXo K f te σ H Q := h
theorem g_isO {K : PySem.W.Frag} {H : Hp} {Q : VK} {a C : Addr} {c : V} {cv : Value} {b : Bool} (ho : XoAt H a C) (T : ExcC K C) (hc : ClsV c cv) (e : PySem.W.kitOne K (.ref C) cv = some b) (q : Q (.bl b) H) : rIsO K [.ref a, c] H Q := ⟨a, C, c, cv, b, rfl, ho, T, hc, e, q⟩
theorem g_cat {H : Hp} {Q : VK} {l b : Addr} {xs zs : List V} (hl : H l = some (.lst xs)) (hb : H b = some (.lst zs)) (hz : xs.length + zs.length ≤ sizeLine) (q : ∀ p, H p = none → Q (.ref p) (upd H p (.lst (xs ++ zs)))) : rCat (.ref l) (.ref b) H Q := ⟨l, b, xs, zs, rfl, rfl, hl, hb, hz, q⟩
theorem g_ost {K : PySem.W.Frag} {σ : L2.St} {H : Hp} {D : Ends} {f : Str} {to te : TE} (h : te σ H fun y H1 => to σ H1 fun x H2 => ∃ a C : Addr, x = .ref a ∧ OexC K C ∧ PySem.W.findIn K (.ref C) f = some none ∧
  ((H2 a = some (exo a C none) ∧ ∀ dx, H2 dx = none → dx ≠ a → D.nx σ (upd (upd H2 dx (exd dx [(f, y)])) a (exo a C (some dx)))) ∨
    ∃ (dx : Addr) (fs : List (Str × V)), H2 a = some (exo a C (some dx)) ∧ H2 dx = some (exd dx fs) ∧ fs.length ≤ 900 ∧ D.nx σ (upd H2 dx (exd dx ((f, y) :: fs))))) : tOst K f to te D σ H := h
theorem XoAt.same {H H' : Hp} {a C : Addr} (h : XoAt H a C) (s : Same H H') : XoAt H' a C := by
  cases h with
  | bare e => exact .bare (s _ _ e)
  | full d fs e g => exact .full d fs (s _ _ e) (s _ _ g)
theorem same_new {H : Hp} {p : Addr} {o : HO} (h : H p = none) : Same H (upd H p o) := fun b u e => by rw [upd_ne (ne_of_none e h)]; exact e
def NewT (xs : List V) (H : Hp) (Q : VK) : Prop := xs.length ≤ sizeLine ∧ ∀ p, H p = none → Q (.ref p) (upd H p (.tup xs))
def NewL (xs : List V) (H : Hp) (Q : VK) : Prop := xs.length ≤ sizeLine ∧ ∀ p, H p = none → Q (.ref p) (upd H p (.lst xs))
theorem pe_gref {X : Cx} {x : Str} {a : Addr} {pos : Pos} (hg : Gl X x) (hm : X.mg x = some (.ref a)) (hd : (x == ("__debug__" : Str)) = false := by decide) : PE X (.Name x pos) (tC (.ref a)) := pe_glob (v := .ref a) hg hm rfl hd
theorem ix_lK {X : Cx} (K : PySem.W.Frag) (h : X.K = K) : IxR X (rIxL K) := h ▸ ix_list
theorem ix_tK {X : Cx} (K : PySem.W.Frag) (h : X.K = K) : IxR X (rIxT K) := h ▸ ix_tup
/-! ### steps -/
section
variable {K : PySem.W.Frag} {σ : L2.St} {H : Hp} {Q : VK} {D : Ends} {t u : TS} {te ta tb : TE}
theorem g_seq (h : t { D with nx := u D } σ H) : tSeq t u D σ H := h
theorem g_asg {g : TG} (h : te σ H fun x H1 => g x σ H1 D.nx) : tAsg te g D σ H := h
theorem g_name {i : Nat} {v : V} {R : L2.St → Hp → Prop} (h : R (σ.set i (some v)) H) : gName i v σ H R := h
theorem g_next (h : D.nx σ H) : tNext D σ H := h
theorem g_brk (h : D.bk σ H) : tBreak D σ H := h
theorem g_cont (h : D.ct σ H) : tCont D σ H := h
theorem g_drop (h : te σ H fun _ H1 => D.nx σ H1) : tDrop te D σ H := h
theorem g_ret (h : te σ H D.rt) : tRet te D σ H := h
theorem g_retN (h : D.rt .non H) : tRetN D σ H := h
theorem g_ifS {c : TT} (h : c σ H fun b H1 => if b = true then t D σ H1 else u D σ H1) : tIfS c t u D σ H := h
theorem g_var {i : Nat} {v : V} (e : σ[i]? = some (some v)) (h : Q v H) : tVar i σ H Q := ⟨v, e, h⟩
theorem g_c {v : V} (h : Q v H) : tC v σ H Q := h
theorem g_op {r : R2} (h : ta σ H fun x H1 => tb σ H1 fun y H2 => r x y H2 Q) : tOp r ta tb σ H Q := h
theorem g_un {r : V → Hp → VK → Prop} (h : ta σ H fun x H1 => r x H1 Q) : tUn r ta σ H Q := h
theorem g_I {C : Int → Int → Prop} {g : Int → Int → V} {i j : Int} (c : C i j) (h : Q (g i j) H) : rI C g (.int i) (.int j) H Q := ⟨i, j, rfl, rfl, c, h⟩
theorem g_I0 {g : Int → Int → V} {i j : Int} (h : Q (g i j) H) : rI0 g (.int i) (.int j) H Q := ⟨i, j, rfl, rfl, h⟩
theorem g_add {i j : Int} (h : Q (.int (i + j)) H) : L2.rAdd (.int i) (.int j) H Q := ⟨i, j, rfl, rfl, h⟩
theorem g_sub {i j : Int} (h : Q (.int (i - j)) H) : L2.rSub (.int i) (.int j) H Q := ⟨i, j, rfl, rfl, h⟩
theorem g_eq {x y : V} (e : scal x y = true) (h : Q (.bl (decide (x = y))) H) : rEq x y H Q := ⟨e, h⟩
theorem g_ne {x y : V} (e : scal x y = true) (h : Q (.bl (!decide (x = y))) H) : rNe x y H Q := ⟨e, h⟩
theorem g_nil {R : List V → Hp → Prop} (h : R [] H) : tNil σ H R := h
theorem g_cons {tr : TA} {R : List V → Hp → Prop} (h : ta σ H fun x H1 => tr σ H1 fun xs H2 => R (x :: xs) H2) : tCons ta tr σ H R := h
theorem g_tup {t : TA} (h : t σ H fun xs H1 => NewT xs H1 Q) : tTup t σ H Q := h
theorem g_lst {t : TA} (h : t σ H fun xs H1 => NewL xs H1 Q) : tLst t σ H Q := h
theorem g_cal {sp : Sp} {E : XK} {t : TA} (h : t σ H fun vs H1 => sp vs H1 Q E) : tCal sp E t σ H Q := h
theorem g_CB {r : List V → Hp → VK → Prop} {t : TA} (h : t σ H fun vs H1 => r vs H1 Q) : tCB r t σ H Q := h
theorem g_test {R : Bool → Hp → Prop} (h : te σ H fun x H1 => ∃ k, x = .bl k ∧ R k H1) : tTest te σ H R := h
theorem g_B {R : Bool → Hp → Prop} (h : te σ H fun x H1 => ∃ k, x = .bl k ∧ R k H1) : tB te σ H R := h
theorem g_and {t u : TT} {R : Bool → Hp → Prop} (h : t σ H fun c H1 => if c = true then u σ H1 R else R false H1) : tAnd t u σ H R := h
theorem g_or {t u : TT} {R : Bool → Hp → Prop} (h : t σ H fun c H1 => if c = true then R true H1 else u σ H1 R) : tOr t u σ H R := h
theorem g_not {t : TT} {R : Bool → Hp → Prop} (h : t σ H fun c H1 => R (!c) H1) : tNot t σ H R := h
theorem g_andV (h : ta σ H fun x H1 => ∃ c, x = .bl c ∧ if c = true then tb σ H1 Q else Q (.bl false) H1) : tAndV ta tb σ H Q := h
theorem g_orV (h : ta σ H fun x H1 => ∃ c, x = .bl c ∧ if c = true then Q (.bl true) H1 else tb σ H1 Q) : tOrV ta tb σ H Q := h
theorem g_notV (h : ta σ H fun x H1 => ∃ c, x = .bl c ∧ Q (.bl (!c)) H1) : tNotV ta σ H Q := h
theorem g_if {t : TT} (h : t σ H fun c H1 => if c = true then ta σ H1 Q else tb σ H1 Q) : tIf t ta tb σ H Q := h
theorem g_bl {c : Bool} {R : Bool → Prop} (h : R c) : ∃ k, V.bl c = V.bl k ∧ R k := ⟨c, rfl, h⟩
theorem g_ixL {p : Addr} {xs : List V} {i : Int} {v : V} (h : H p = some (.lst xs)) (a : atI xs i = some v) (q : Q v H) : rIxL K (.ref p) (.int i) H Q := ⟨p, xs, i, v, rfl, rfl, SqL.of h, a, q⟩
theorem g_ixT {p : Addr} {xs : List V} {i : Int} {v : V} (h : H p = some (.tup xs)) (a : atI xs i = some v) (q : Q v H) : rIxT K (.ref p) (.int i) H Q := ⟨p, xs, i, v, rfl, rfl, SqT.of h, a, q⟩
theorem g_gSub {to ti : TE} {ts : TSet} {v : V} {R : L2.St → Hp → Prop} (h : to σ H fun o H1 => ti σ H1 fun i H2 => ts o i v H2 fun H3 => R σ H3) : gSub to ti ts v σ H R := h
theorem g_setL {p : Addr} {xs : List V} {k : Int} {j : Nat} {v : V} {R : Hp → Prop} (h : H p = some (.lst xs)) (a : ixN xs.length k = some j) (q : R (upd H p (.lst (xs.set j v)))) : rSetL (.ref p) (.int k) v H R := ⟨p, xs, k, j, rfl, rfl, h, a, q⟩
end
end Sk
namespace Sk
open PySem PySem.Spec PyProof.Rows L2
section
variable {K : PySem.W.Frag} {σ : L2.St} {H : Hp} {Q : VK}
theorem g_tup' {xs : List V} (l : xs.length ≤ sizeLine) (h : ∀ p, H p = none → Q (.ref p) (upd H p (.tup xs))) : NewT xs H Q := ⟨l, h⟩
theorem g_len {p : Addr} {ys : List V} (h : SqL K H p ys ∨ SqT K H p ys) (q : Q (.int ys.length) H) : rLenQ K [V.ref p] H Q := ⟨p, ys, rfl, h, q⟩
theorem g_ixLs {p : Addr} {xs : List V} {i : Int} {v : V} (h : SqL K H p xs) (a : atI xs i = some v) (q : Q v H) : rIxL K (.ref p) (.int i) H Q := ⟨p, xs, i, v, rfl, rfl, h, a, q⟩
theorem g_lst' {xs : List V} (l : xs.length ≤ sizeLine) (h : ∀ p, H p = none → Q (.ref p) (upd H p (.lst xs))) : NewL xs H Q := ⟨l, h⟩
theorem g_true {A B : Prop} (h : A) : if true = true then A else B := by rw [if_pos rfl]; exact h
theorem g_false {A B : Prop} (h : B) : if false = true then A else B := by rw [if_neg Bool.false_ne_true]; exact h
end
theorem g_chain {σ : L2.St} {H : Hp} {Q : VK} {r r' : R2} {ta tb tc : TE} (h : ta σ H fun x H1 => tb σ H1 fun y H2 => r x y H2 fun z H3 => ∃ k, z = .bl k ∧ (if k = true then tc σ H3 fun w' H4 => r' y w' H4 Q else Q (.bl false) H3)) : tChain r r' ta tb tc σ H Q := h
theorem g_ntrue {A B : Prop} (h : B) : if (!true) = true then A else B := g_false h
theorem g_nfalse {A B : Prop} (h : A) : if (!false) = true then A else B := g_true h
theorem g_dec {c A B : Prop} [Decidable c] (h1 : c → A) (h2 : ¬ c → B) : if decide c = true then A else B := by
  by_cases h : c
  · rw [decide_eq_true h, if_pos rfl]; exact h1 h
  · rw [decide_eq_false h, if_neg Bool.false_ne_true]; exact h2 h
theorem g_ndec {c A B : Prop} [Decidable c] (h1 : c → B) (h2 : ¬ c → A) : if (!decide c) = true then A else B := by
  by_cases h : c
  · rw [decide_eq_true h]; exact g_false (h1 h)
  · rw [decide_eq_false h]; exact g_true (h2 h)
theorem g_bool {c : Bool} {A B : Prop} (h1 : c = true → A) (h2 : c = false → B) : if c = true then A else B := by
  cases c with
  | true => exact g_true (h1 rfl)
  | false => exact g_false (h2 rfl)
theorem cmul {i j : Int} {a b : Nat} (ha : i.natAbs < 2 ^ a) (hb : j.natAbs < 2 ^ b) (h0 : 0 < a := by decide) (h1 : 0 < b := by decide) (h : a + b ≤ 1000000 := by decide) : CMulW i j := wide_mul ha hb h0 h1 h
theorem g_newL {xs : List V} {H : Hp} {Q : VK} (l : xs.length ≤ sizeLine) (h : ∀ p H', H p = none → Same H H' → H' p = some (.lst xs) → Q (.ref p) H') : NewL xs H Q := ⟨l, fun p hp => h p _ hp (same_new hp) upd_same⟩
theorem g_newT {xs : List V} {H : Hp} {Q : VK} (l : xs.length ≤ sizeLine) (h : ∀ p H', H p = none → Same H H' → H' p = some (.tup xs) → Q (.ref p) H') : NewT xs H Q := ⟨l, fun p hp => h p _ hp (same_new hp) upd_same⟩
theorem g_newC {l b : Addr} {xs zs : List V} {H : Hp} {Q : VK} (hl : H l = some (.lst xs)) (hb : H b = some (.lst zs)) (hz : xs.length + zs.length ≤ sizeLine) (h : ∀ p H', H p = none → Same H H' → H' p = some (.lst (xs ++ zs)) → Q (.ref p) H') : rCat (.ref l) (.ref b) H Q := g_cat hl hb hz fun p hp => h p _ hp (same_new hp) upd_same
theorem g_yes {c A B : Prop} [Decidable c] (h : c) (q : A) : if decide c = true then A else B := by rw [decide_eq_true h]; exact g_true q
theorem g_no {c A B : Prop} [Decidable c] (h : ¬ c) (q : B) : if decide c = true then A else B := by rw [decide_eq_false h]; exact g_false q
theorem g_nyes {c A B : Prop} [Decidable c] (h : c) (q : B) : if (!decide c) = true then A else B := by rw [decide_eq_true h]; exact g_false q
theorem g_nno {c A B : Prop} [Decidable c] (h : ¬ c) (q : A) : if (!decide c) = true then A else B := by rw [decide_eq_false h]; exact g_true q
/-! ### loops -/
def FB (J : It) (g : TG) (tb : TS) (D : Ends) (σ : L2.St) (H1 : Hp) : Prop := ∃ W : Nat → Nat → L2.St → Hp → Prop, (∃ m, W 0 m σ H1) ∧ ∀ i m σ H, W i m σ H →
  (J.stop i H ∧ D.nx σ H) ∨ (J.go i H ∧ ∃ N : L2.St → Hp → Prop, (∀ σ' H', N σ' H' → ∃ m', m' < m ∧ W (i + 1) m' σ' H') ∧ ∀ x H', J.yld i H x H' → g x σ H' fun σ2 H2 => tb { D with nx := N, ct := N, bk := D.nx } σ2 H2)
def ForR1 (g : TG) (tb : TS) (D : Ends) (σ : L2.St) : List V → Hp → Prop := fun vs H => ∃ j : Int, vs = [.int j] ∧ -(2 ^ 62) ≤ j ∧ j < 2 ^ 62 ∧ FB (Itr 0 j.toNat) g tb D σ H
def ForR2 (g : TG) (tb : TS) (D : Ends) (σ : L2.St) : List V → Hp → Prop := fun vs H => ∃ i j : Int, vs = [.int i, .int j] ∧ (-(2 ^ 62) ≤ i ∧ i < 2 ^ 62 ∧ -(2 ^ 62) ≤ j ∧ j < 2 ^ 62) ∧ FB (Itr i (j - i).toNat) g tb D σ H
def ForL (K : PySem.W.Frag) (g : TG) (tb : TS) (D : Ends) (σ : L2.St) : V → Hp → Prop := fun x H => ∃ a, x = .ref a ∧ (∃ xs, SqL K H a xs) ∧ FB (Itl K a) g tb D σ H
def ForT (K : PySem.W.Frag) (g : TG) (tb : TS) (D : Ends) (σ : L2.St) : V → Hp → Prop := fun x H => ∃ a, x = .ref a ∧ (∃ xs, SqT K H a xs) ∧ FB (Itt K a) g tb D σ H
section
variable {K : PySem.W.Frag} {σ : L2.St} {H : Hp} {D : Ends} {g : TG} {tb : TS} {ta : TA} {tl : TE}
theorem g_forR1 (h : ta σ H fun vs H1 => ForR1 g tb D σ vs H1) : tFor (iRng1 ta) g tb D σ H := h
theorem g_forR2 (h : ta σ H fun vs H1 => ForR2 g tb D σ vs H1) : tFor (iRng2 ta) g tb D σ H := h
theorem g_forL (h : tl σ H fun x H1 => ForL K g tb D σ x H1) : tFor (iList K tl) g tb D σ H := h
theorem g_forT (h : tl σ H fun x H1 => ForT K g tb D σ x H1) : tFor (iTup K tl) g tb D σ H := h
theorem forR1_by {n : Nat} {j : Int} (e : j = (n : Int)) (hn : n ≤ 100000) (Pv : Nat → L2.St → Hp → Prop) (h0 : Pv 0 σ H)
    (hs : ∀ (i : Nat) σ' H', i < n → Pv i σ' H' → g (.int (i : Int)) σ' H' fun σ2 H2 => tb { D with nx := Pv (i + 1), ct := Pv (i + 1), bk := D.nx } σ2 H2) (hd : ∀ σ' H', Pv n σ' H' → D.nx σ' H') : ForR1 g tb D σ [.int j] H := by
  subst e
  refine ⟨(n : Int), rfl, by omega, by omega, ?_⟩
  rw [Int.toNat_natCast]
  refine for_range (lo := 0) (n := n) Pv h0 (fun i σ' H' hi p => ?_) hd
  rw [Int.zero_add]
  exact hs i σ' H' hi p
theorem forR2_by {lo n : Nat} {i j : Int} (e1 : i = (lo : Int)) (e2 : j = (n : Int)) (hl : lo ≤ 100000) (hn : n ≤ 100000) (Pv : Nat → L2.St → Hp → Prop) (h0 : Pv 0 σ H)
    (hs : ∀ (k : Nat) σ' H', lo + k < n → Pv k σ' H' → g (.int ((lo + k : Nat) : Int)) σ' H' fun σ2 H2 => tb { D with nx := Pv (k + 1), ct := Pv (k + 1), bk := D.nx } σ2 H2) (hd : ∀ σ' H', Pv (n - lo) σ' H' → D.nx σ' H') : ForR2 g tb D σ [.int i, .int j] H := by
  subst e1 e2
  refine ⟨(lo : Int), (n : Int), rfl, ⟨by omega, by omega, by omega, by omega⟩, ?_⟩
  have en : ((n : Int) - (lo : Int)).toNat = n - lo := by omega
  rw [en]
  refine for_range (lo := (lo : Int)) (n := n - lo) Pv h0 (fun k σ' H' hk p => ?_) hd
  have ek : (lo : Int) + (k : Int) = ((lo + k : Nat) : Int) := by omega
  rw [ek]
  exact hs k σ' H' (by omega) p
theorem forL_by {a : Addr} {xs : List V} (hx : SqL K H a xs) (Pv : Nat → L2.St → Hp → Prop) (h0 : Pv 0 σ H) (hl : ∀ i σ' H', i ≤ xs.length → Pv i σ' H' → SqL K H' a xs)
    (hs : ∀ (i : Nat) x σ' H', xs[i]? = some x → Pv i σ' H' → g x σ' H' fun σ2 H2 => tb { D with nx := Pv (i + 1), ct := Pv (i + 1), bk := D.nx } σ2 H2) (hd : ∀ σ' H', Pv xs.length σ' H' → D.nx σ' H') : ForL K g tb D σ (.ref a) H :=
  ⟨a, rfl, ⟨xs, hx⟩, for_list Pv h0 hl hs hd⟩
theorem forT_by {a : Addr} {xs : List V} (hx : SqT K H a xs) (Pv : Nat → L2.St → Hp → Prop) (h0 : Pv 0 σ H) (hl : ∀ i σ' H', i ≤ xs.length → Pv i σ' H' → SqT K H' a xs)
    (hs : ∀ (i : Nat) x σ' H', xs[i]? = some x → Pv i σ' H' → g x σ' H' fun σ2 H2 => tb { D with nx := Pv (i + 1), ct := Pv (i + 1), bk := D.nx } σ2 H2) (hd : ∀ σ' H', Pv xs.length σ' H' → D.nx σ' H') : ForT K g tb D σ (.ref a) H :=
  ⟨a, rfl, ⟨xs, hx⟩, for_tup Pv h0 hl hs hd⟩
end
def rMax2Q : List V → Hp → VK → Prop := fun xs H Q => ∃ i j, xs = [.int i, .int j] ∧ Q (.int (if j > i then j else i)) H
def rMin2Q : List V → Hp → VK → Prop := fun xs H Q => ∃ i j, xs = [.int i, .int j] ∧ Q (.int (if j < i then j else i)) H
theorem call_max2Q {X : Cx} (hc : X.calm = true) : CallR X (.builtin "max") rMax2Q := call_max2 hc
theorem call_min2Q {X : Cx} (hc : X.calm = true) : CallR X (.builtin "min") rMin2Q := call_min2 hc
theorem g_max2 {H : Hp} {Q : VK} {i j : Int} (q : Q (.int (if j > i then j else i)) H) : rMax2Q [.int i, .int j] H Q := ⟨i, j, rfl, q⟩
theorem g_min2 {H : Hp} {Q : VK} {i j : Int} (q : Q (.int (if j < i then j else i)) H) : rMin2Q [.int i, .int j] H Q := ⟨i, j, rfl, q⟩
theorem sz {n : Nat} (h : n ≤ 1000 := by decide) : n ≤ sizeLine := Nat.le_trans h (by rw [sizeLine_eq]; decide)
end Sk

set_option maxHeartbeats 4000000
/-! two addresses differ; what stands at an address; one step of a reading; all steps -/
local macro_rules | `(tactic| walk_at "ne") => `(tactic| first
  | assumption
  | exact Ne.symm (by assumption)
  | exact L2.ne_of_none (by assumption) (by assumption)
  | exact Ne.symm (L2.ne_of_none (by assumption) (by assumption)))
local macro_rules | `(tactic| walk_at "lk") => `(tactic| first
  | assumption
  | exact L2.upd_same
  | (refine Eq.trans (L2.upd_ne ?gvn) ?_; (case gvn => walk_at "ne"); walk_at "lk"))
local macro_rules | `(tactic| walk_at "sq") => `(tactic| first
  | assumption
  | exact Or.inl (by assumption)
  | exact Or.inr (by assumption)
  | exact Or.inl (L2.SqL.of (by walk_at "lk"))
  | exact Or.inr (L2.SqT.of (by walk_at "lk")))
local macro_rules | `(tactic| walk_at "side") => `(tactic| first
  | assumption
  | decide
  | (show (0 : Int) < _; omega))
local macro_rules | `(tactic| walk_at "g1") => `(tactic| first
  | with_reducible refine Sk.g_seq ?_
  | with_reducible refine Sk.g_asg ?_
  | with_reducible refine Sk.g_op ?_
  | with_reducible refine Sk.g_c ?_
  | ((with_reducible refine' Sk.g_var ?gve ?_); (case gve => exact rfl))
  | with_reducible refine Sk.g_name ?_
  | with_reducible refine Sk.g_cal ?_
  | with_reducible refine Sk.g_cons ?_
  | with_reducible refine Sk.g_nil ?_
  | with_reducible refine Sk.g_CB ?_
  | with_reducible refine Sk.g_ifS ?_
  | with_reducible refine Sk.g_ret ?_
  | with_reducible refine Sk.g_add ?_
  | with_reducible refine Sk.g_sub ?_
  | with_reducible refine Sk.g_I0 ?_
  | with_reducible refine Sk.g_test ?_
  | with_reducible refine Sk.g_bl ?_
  | ((with_reducible refine' Sk.g_eq ?gve ?_); (case gve => exact rfl))
  | ((with_reducible refine' Sk.g_ne ?gve ?_); (case gve => exact rfl))
  | with_reducible refine Sk.g_gSub ?_
  | with_reducible refine Sk.g_and ?_
  | with_reducible refine Sk.g_or ?_
  | with_reducible refine Sk.g_not ?_
  | with_reducible refine Sk.g_B ?_
  | with_reducible refine Sk.g_andV ?_
  | with_reducible refine Sk.g_orV ?_
  | with_reducible refine Sk.g_notV ?_
  | with_reducible refine Sk.g_drop ?_
  | with_reducible refine' Sk.g_next ?_
  | with_reducible refine Sk.g_retN ?_
  | with_reducible refine Sk.g_lst ?_
  | with_reducible refine Sk.g_tup ?_
  | with_reducible refine Sk.g_un ?_
  | with_reducible refine Sk.g_if ?_
  | ((with_reducible refine' Sk.g_len ?gvh ?_); (case gvh => walk_at "sq"))
  | ((with_reducible refine' Sk.g_ixLs ?gvh ?gve ?_); (case gvh => assumption); (case gve => first | exact rfl | assumption))
  | ((with_reducible refine Sk.g_I ?gvc ?_); (case gvc => walk_at "side"))
  | with_reducible refine Sk.g_xoM ?_
  | with_reducible refine Sk.g_xo ?_
  | with_reducible refine Sk.g_ost ?_
  | with_reducible refine Sk.g_chain ?_
  | with_reducible refine Sk.g_forR1 ?_
  | with_reducible refine Sk.g_forR2 ?_
  | with_reducible refine Sk.g_forL ?_
  | with_reducible refine Sk.g_forT ?_
  | with_reducible refine Sk.g_max2 ?_
  | with_reducible refine Sk.g_min2 ?_
  | with_reducible refine Sk.g_ntrue ?_
  | with_reducible refine Sk.g_nfalse ?_
  | with_reducible refine Sk.g_true ?_
  | with_reducible refine Sk.g_false ?_
  | ((with_reducible refine' Sk.g_ixL ?gvh ?gve ?_); (case gvh => walk_at "lk"); (case gve => exact rfl))
  | ((with_reducible refine' Sk.g_setL ?gvh ?gve ?_); (case gvh => walk_at "lk"); (case gve => exact rfl)))
local macro_rules | `(tactic| walk_at "go") => `(tactic| repeat (walk_at "g1"))
namespace K71
open PySem PySem.Spec PyProof.Rows L2 Sk
def top (i : Nat) : Stmt := PySem.Challenge.pw_slotkeep_k71_refusals_made.main.body.getD i (.Pass ⟨0, 0, 0, 0⟩)
def cN : List Str := ["NoWorth", "NoText", "NoLevel", "NoPage", "Left", "NoKey", "NoDealing", "NoSuch", "Taken", "NoSlot", "NoReader", "Ring", "Clash", "Late", "Undone"]
abbrev Ca (K : PySem.W.Frag) (i : Nat) : Addr := He.ga K (cN.getD i "")
def fN : List Str := ["key", "dealing", "name", "reader", "dealings", "at"]
abbrev s_NoKey___init__ : Stmt := inClass (top 2) 0
abbrev s_NoDealing___init__ : Stmt := inClass (top 6) 0
abbrev s_Clash___init__ : Stmt := inClass (top 7) 0
abbrev s_Late___init__ : Stmt := inClass (top 8) 0
abbrev s_NoSuch___init__ : Stmt := inClass (top 9) 0
abbrev s_Ring___init__ : Stmt := inClass (top 10) 0
abbrev s_Undone___init__ : Stmt := inClass (top 11) 0
abbrev s_Taken___init__ : Stmt := inClass (top 13) 0
abbrev s_NoSlot___init__ : Stmt := inClass (top 14) 0
abbrev s_NoReader___init__ : Stmt := inClass (top 15) 0
abbrev s__law_cell_at : Stmt := top 18
abbrev s__law_stir : Stmt := top 19
abbrev s__law_well : Stmt := top 20
abbrev s__law_draw : Stmt := top 21
abbrev s__law_thing : Stmt := top 22
abbrev s__law_same : Stmt := top 23
abbrev s__law_of : Stmt := top 24
abbrev s__law_plain : Stmt := top 25
abbrev s__law_with_one : Stmt := top 26
abbrev s__law_with_two : Stmt := top 27
abbrev s_law : Stmt := top 28
/-- what the head says of the classes -/
structure Txt (K : PySem.W.Frag) (mg : Str → Option Value) : Prop where
  g : ∀ i, i < 15 → mg (cN.getD i "") = some (.ref (Ca K i))
  gH : mg "HouseError" = some (.ref (He.ga K "HouseError"))
  ec : ∀ i, i < 15 → ExcC K (Ca K i)
  xf : ∀ i, i < 15 → XfC K (Ca K i)
  no : ∀ i, i < 15 → ∀ f ∈ fN, PySem.W.findIn K (.ref (Ca K i)) f = some none
  k1 : ∀ i, i < 15 → ∀ j, j < 15 → PySem.W.kitOne K (.ref (Ca K i)) (.ref (Ca K j)) = some (decide (i = j))
  kH : ∀ i, i < 15 → PySem.W.kitOne K (.ref (Ca K i)) (.ref (He.ga K "HouseError")) = some true
  kV : ∀ i, i < 15 → PySem.W.kitOne K (.ref (Ca K i)) (.type "ValueError") = some true
  pl : ∀ i, i < 5 → PySem.W.excIn K (Ca K i) He.veBase "ValueError.__new__" = true ∧ PySem.W.keepIn K (.ref (Ca K i)) = true
  ox : ∀ i, 5 ≤ i → i < 15 → OexC K (Ca K i)
  it : ∀ i, 5 ≤ i → i < 15 → PySem.W.findIn K (.ref (Ca K i)) "__init__" = some (some (.ref (He.ma K (Ca K i) "__init__"))) ∧ PySem.W.typeIn K (.ref (He.ma K (Ca K i) "__init__")) = some (.type "function")
section
variable {P : Program} {w : World} {K : PySem.W.Frag} {mg : Str → Option Value} {base : Heap}
abbrev FnP (K : PySem.W.Frag) (x : Str) (st : Stmt) (f : Addr) (fd : FuncData) : Prop := FunD K x x (defArgs st) (defBody st) (defScope st) [] [] f fd
def spCell (K : PySem.W.Frag) : Sp := fun vs H Q _ => ∃ (a : Addr) (ns : List Int) (k : Int), vs = [.ref a, .int k] ∧ SqL K H a (ns.map V.int) ∧ ns.length ≤ 63 ∧ 0 ≤ k ∧ ∀ c : Int, Q (.int c) H
def spStir : Sp := fun vs H Q _ => ∃ s t : Int, vs = [.int s, .int t] ∧ (0 ≤ s ∧ s < 2 ^ 160 ∧ 0 ≤ t ∧ t < 2 ^ 30) ∧ ∀ r : Int, Q (.int r) H
def spWell : Sp := fun vs H Q _ => ∃ c k : Int, vs = [.int c, .int k] ∧ (0 ≤ k ∧ k < 128) ∧ ∀ (a : Addr) (x s : Int), H a = none → 0 ≤ s → s < 2 ^ 160 → Q (.ref a) (upd H a (.lst [.int x, .int s, .int 0]))
def spDraw : Sp := fun vs H Q _ => ∃ (a : Addr) (m x s t : Int), vs = [.ref a, .int m] ∧ H a = some (.lst [.int x, .int s, .int t]) ∧ (0 < m ∧ m < 2 ^ 100) ∧ (0 ≤ s ∧ s < 2 ^ 160 ∧ 0 ≤ t ∧ t < 1000000) ∧
  ∀ r x' t' : Int, 0 ≤ r → r < m → t ≤ t' → t' ≤ t + 1 → Q (.int r) (upd H a (.lst [.int x', .int s, .int t']))
theorem sc__law_cell_at : FnScope ["script", "k"] ["script", "k"] (defScope s__law_cell_at) := ⟨rfl, rfl, rfl, by decide +kernel, rfl, by decide +kernel, by decide +kernel⟩
theorem ok__law_cell_at {f : Addr} {fd : FuncData} (F : FnP K "_law_cell_at" s__law_cell_at f fd) (gm : mg "_law_cell_at" = some (.ref f)) (B : Bas mg)  : Cal P w K mg base CX0 1 "_law_cell_at" ["script", "k"] (spCell K) := by
  refine ⟨f, fd, F.ok sc__law_cell_at (fun vs H Q E h => ?_) (fun cdv A outer s H vs Q E hr h => ⟨_, PSs.nox (pss_cons (ps_if (pt_cmpR op_lt (pv 1) (pe_callB call_lenQ (by rfl) B.len PySem.boot_len (pa_cons (pv 0) pa_nil)) (nomark _)) (pss_one (ps_ret (pe_ix (ix_lK K rfl) (pv 0) (pv 1) (fun _ _ => rfl))))
    pss_nil)
  (pss_one (ps_ret pe_int))), ?_⟩), gm, F.kp, F.bindsN fun _ _ _ _ _ _ us hl => match us, hl with | [_, _], _ => rfl⟩
  · obtain ⟨a, ns, k, rfl, _⟩ := h; rfl
  · obtain ⟨a, ns, k, rfl, hS, hl, h0, q⟩ := h
    walk_at "go"
    refine g_dec (fun hk => ?_) (fun _ => ?_)
    · rw [List.length_map] at hk
      have hj : k.toNat < ns.length := by omega
      have e : atI (ns.map V.int) k = some (.int ns[k.toNat]) := at_of (j := k.toNat) (by omega) (by rw [List.getElem?_map, List.getElem?_eq_getElem hj]; rfl)
      walk_at "go"
      exact q _
    · walk_at "go"
      exact q _

theorem sc__law_stir : FnScope ["seed", "turn", "number"] ["seed", "turn"] (defScope s__law_stir) := ⟨rfl, rfl, rfl, by decide +kernel, rfl, by decide +kernel, by decide +kernel⟩
theorem ok__law_stir {f : Addr} {fd : FuncData} (F : FnP K "_law_stir" s__law_stir f fd) (gm : mg "_law_stir" = some (.ref f)) (B : Bas mg)  : Cal P w K mg base CX0 1 "_law_stir" ["seed", "turn"] spStir := by
  refine ⟨f, fd, F.ok sc__law_stir (fun vs H Q E h => ?_) (fun cdv A outer s H vs Q E hr h => ⟨_, PSs.nox (pss_cons (ps_set (i := 2) sc__law_stir.nd rfl (by first | exact Or.inl rfl | exact Or.inr rfl) (pe_op op_add (pe_op op_mulW (pe_op op_add (pv 0) pe_int) pe_int) (pe_op op_mulW (pe_op op_add (pv 1) pe_int) pe_int)))
  (pss_one (ps_ret (pe_op op_mod (pe_op op_powW (pv 2) pe_int) pe_int)))), ?_⟩), gm, F.kp, F.bindsN fun _ _ _ _ _ _ us hl => match us, hl with | [_, _], _ => rfl⟩
  · obtain ⟨s, t, rfl, _⟩ := h; rfl
  · obtain ⟨s, t, rfl, hb, q⟩ := h
    walk_at "go"
    refine g_I (cmul (a := 161) (b := 100) (by omega) (by omega)) ?_
    walk_at "go"
    refine g_I (cmul (a := 31) (b := 100) (by omega) (by omega)) ?_
    walk_at "go"
    refine g_I (powW_ok (b := 300) (by omega) (by omega) (by omega)) ?_
    walk_at "go"
    exact q _

theorem sc__law_well : FnScope ["cell", "k", "seed"] ["cell", "k"] (defScope s__law_well) := ⟨rfl, rfl, rfl, by decide +kernel, rfl, by decide +kernel, by decide +kernel⟩
theorem ok__law_well {f : Addr} {fd : FuncData} (F : FnP K "_law_well" s__law_well f fd) (gm : mg "_law_well" = some (.ref f)) (B : Bas mg) (c__law_stir : Cal P w K mg base CX0 1 "_law_stir" ["seed", "turn"] spStir) : Cal P w K mg base CX0 2 "_law_well" ["cell", "k"] spWell := by
  refine ⟨f, fd, F.ok sc__law_well (fun vs H Q E h => ?_) (fun cdv A outer s H vs Q E hr h => ⟨_, PSs.nox (pss_cons (ps_set (i := 2) sc__law_well.nd rfl (by first | exact Or.inl rfl | exact Or.inr rfl) (pe_op op_add (pe_op op_mulW (pe_op op_mod (pv 0) pe_int) pe_int) (pv 1)))
  (pss_cons (ps_if (pt_cmpR op_ge (pv 0) (pe_op op_powW pe_int pe_int) (nomark _)) (pss_one (ps_ret (pe_lst (pa_cons (pe_op op_sub (pv 0) (pe_op op_powW pe_int pe_int)) (pa_cons (pv 2) (pa_cons pe_int pa_nil))))))
    pss_nil)
  (pss_one (ps_ret (pe_lst (pa_cons (pe_cal c__law_stir (hr.mono (by decide)) rfl pass0 (pa_cons (pv 2) (pa_cons pe_int pa_nil))) (pa_cons (pv 2) (pa_cons pe_int pa_nil)))))))), ?_⟩), gm, F.kp, F.bindsN fun _ _ _ _ _ _ us hl => match us, hl with | [_, _], _ => rfl⟩
  · obtain ⟨s, t, rfl, _⟩ := h; rfl
  · obtain ⟨c, k, rfl, hb, q⟩ := h
    walk_at "go"
    have hc : 0 ≤ c % 7730990200000000000000000000000000000000229 ∧ c % 7730990200000000000000000000000000000000229 < 7730990200000000000000000000000000000000229 := ⟨Int.emod_nonneg _ (by decide), Int.emod_lt_of_pos _ (by decide)⟩
    generalize c % 7730990200000000000000000000000000000000229 = d at hc
    refine g_I (cmul (a := 200) (b := 100) (by omega) (by omega)) ?_
    walk_at "go"
    refine g_I (powW_ok (b := 30) (by omega) (by omega) (by omega)) ?_
    walk_at "go"
    refine g_dec (fun hk => ?_) (fun _ => ?_)
    · walk_at "go"
      refine g_I (powW_ok (b := 30) (by omega) (by omega) (by omega)) ?_
      walk_at "go"
      refine g_lst' (sz (by simp)) fun p hp => ?_
      exact q _ _ _ hp (by omega) (by omega)
    · walk_at "go"
      refine ⟨_, _, rfl, ⟨by omega, by omega, by omega, by omega⟩, fun r => ?_⟩
      walk_at "go"
      refine g_lst' (sz (by simp)) fun p hp => ?_
      exact q _ _ _ hp (by omega) (by omega)

theorem sc__law_draw : FnScope ["well", "many", "taken"] ["well", "many"] (defScope s__law_draw) := ⟨rfl, rfl, rfl, by decide +kernel, rfl, by decide +kernel, by decide +kernel⟩
theorem ok__law_draw {f : Addr} {fd : FuncData} (F : FnP K "_law_draw" s__law_draw f fd) (gm : mg "_law_draw" = some (.ref f)) (B : Bas mg) (c__law_stir : Cal P w K mg base CX0 1 "_law_stir" ["seed", "turn"] spStir) : Cal P w K mg base CX0 2 "_law_draw" ["well", "many"] spDraw := by
  refine ⟨f, fd, F.ok sc__law_draw (fun vs H Q E h => ?_) (fun cdv A outer s H vs Q E hr h => ⟨_, PSs.nox (pss_cons (ps_if (pt_cmpR op_eq (pe_ix (ix_lK K rfl) (pv 0) pe_int (fun _ _ => rfl)) pe_int (nomark _)) (pss_cons (ps_asg (pe_op op_add (pe_ix (ix_lK K rfl) (pv 0) pe_int (fun _ _ => rfl)) pe_int) (pg_sub (pv 0) pe_int set_list))
    (pss_one (ps_asg (pe_cal c__law_stir (hr.mono (by decide)) rfl pass0 (pa_cons (pe_ix (ix_lK K rfl) (pv 0) pe_int (fun _ _ => rfl)) (pa_cons (pe_ix (ix_lK K rfl) (pv 0) pe_int (fun _ _ => rfl)) pa_nil))) (pg_sub (pv 0) pe_int set_list))))
    pss_nil)
  (pss_cons (ps_set (i := 2) sc__law_draw.nd rfl (by first | exact Or.inl rfl | exact Or.inr rfl) (pe_op op_mod (pe_ix (ix_lK K rfl) (pv 0) pe_int (fun _ _ => rfl)) (pv 1)))
  (pss_cons (ps_asg (pe_op op_fdivW (pe_ix (ix_lK K rfl) (pv 0) pe_int (fun _ _ => rfl)) (pv 1)) (pg_sub (pv 0) pe_int set_list))
  (pss_one (ps_ret (pv 2)))))), ?_⟩), gm, F.kp, F.bindsN fun _ _ _ _ _ _ us hl => match us, hl with | [_, _], _ => rfl⟩
  · obtain ⟨s, t, _, _, _, rfl, _⟩ := h; rfl
  · obtain ⟨a, m, x, s, t, rfl, ha, hm, hb, q⟩ := h
    walk_at "go"
    have fin : ∀ (x' t' : Int), t ≤ t' → t' ≤ t + 1 → Q (.int (x' % m)) (upd H a (.lst [.int (x' / m), .int s, .int t'])) := fun x' t' h1 h2 =>
      q _ _ _ (Int.emod_nonneg _ (by omega)) (Int.emod_lt_of_pos _ (by omega)) h1 h2
    have hd : ∀ z : Int, CDivW z m := fun z => wide_div (b := 100) (by omega) (by omega) (by decide) (by decide)
    refine g_dec (fun hk => ?_) (fun _ => ?_)
    · walk_at "go"
      refine ⟨_, _, rfl, ⟨by omega, by omega, by omega, by omega⟩, fun r => ?_⟩
      walk_at "go"
      refine g_I (hd _) ?_
      walk_at "go"
      rw [upd_upd, upd_upd]
      exact fin r (t + 1) (by omega) (by omega)
    · walk_at "go"
      refine g_I (hd _) ?_
      walk_at "go"
      exact fin x t (by omega) (by omega)

/-- what is drawn: a flat value, a tuple of a number, a list of two -/
inductive Thing (H : Hp) (a : Addr) : V → Prop where
  | non : Thing H a .non
  | bl (b : Bool) : Thing H a (.bl b)
  | int (i : Int) : Thing H a (.int i)
  | str (x : Str) (ok : PyData.strOk x = true) : Thing H a (.str x)
  | tup (p : Addr) (n : Int) (ne : p ≠ a) (e : H p = some (.tup [.int n])) : Thing H a (.ref p)
  | lst (p : Addr) (n m : Int) (ne : p ≠ a) (e : H p = some (.lst [.int n, .int m])) : Thing H a (.ref p)
theorem Thing.mono {H H' : Hp} {a : Addr} {v : V} (h : Thing H a v) (k : ∀ b o, b ≠ a → H b = some o → H' b = some o) : Thing H' a v := by
  cases h with
  | non => exact .non
  | bl b => exact .bl b
  | int i => exact .int i
  | str x ok => exact .str x ok
  | tup p n ne e => exact .tup p n ne (k _ _ ne e)
  | lst p n m ne e => exact .lst p n m ne (k _ _ ne e)
theorem Thing.data {H : Hp} {a : Addr} {v : V} (h : Thing H a v) : ∃ d, Dp K H v d ∧ SeqAt.shaped d = true ∧ PyData.eqv d d = true ∧ SeqAt.shaped (.list [d, d]) = true := by
  cases h with
  | non => exact ⟨_, .non, rfl, rfl, rfl⟩
  | bl b => exact ⟨_, .bl b, rfl, by simp [PyData.eqv], rfl⟩
  | int i => exact ⟨_, .int i, rfl, by simp [PyData.eqv], rfl⟩
  | str x ok => exact ⟨_, .str x, by simp [SeqAt.shaped, PyData.canLay0, PyData.depth, ok], by simp [PyData.eqv], by simp [SeqAt.shaped, PyData.canLay0, PyData.canLayAll0, PyData.depth, PyData.depthAll, ok]⟩
  | tup p n ne e => exact ⟨_, .tup (SqT.of e) (.cons (.int n) .nil), rfl, by simp [PyData.eqv, PyData.eqvAll], rfl⟩
  | lst p n m ne e => exact ⟨_, .lst (SqL.of e) (.cons (.int n) (.cons (.int m) .nil)), rfl, by simp [PyData.eqv, PyData.eqvAll], rfl⟩
theorem Thing.isb {H : Hp} {a : Addr} {v : V} (h : Thing H a v) : ∃ t b, TyX K H v t ∧ PySem.W.kitOne K t (.type "bool") = some b := by
  cases h with
  | non => exact ⟨_, _, .base .non, kit_ty (r := false) (by decide +kernel)⟩
  | bl b => exact ⟨_, _, .base (.bl b), kit_ty (r := true) (by decide +kernel)⟩
  | int i => exact ⟨_, _, .base (.int i), kit_ty (r := false) (by decide +kernel)⟩
  | str x ok => exact ⟨_, _, .base (.str x), kit_ty (r := false) (by decide +kernel)⟩
  | tup p n ne e => exact ⟨_, _, .base (.tup e), kit_ty (r := false) (by decide +kernel)⟩
  | lst p n m ne e => exact ⟨_, _, .base (.lst e), kit_ty (r := false) (by decide +kernel)⟩
def spThing : Sp := fun vs H Q _ => ∃ (a : Addr) (x s t : Int), vs = [.ref a] ∧ H a = some (.lst [.int x, .int s, .int t]) ∧ (0 ≤ s ∧ s < 2 ^ 160 ∧ 0 ≤ t ∧ t < 900000) ∧
  ∀ (v : V) (H' : Hp) (x' t' : Int), Thing H' a v → H' a = some (.lst [.int x', .int s, .int t']) → t ≤ t' → t' ≤ t + 2 → (∀ b o, b ≠ a → H b = some o → H' b = some o) → Q v H'
def spSame : Sp := fun vs H Q _ => ∃ (a : Addr) (v : V), vs = [v, v] ∧ Thing H a v ∧ Q (.bl true) H
def spOf (K : PySem.W.Frag) : Sp := fun vs H Q _ => ∃ (e : Addr) (i : Nat), vs = [.ref e, .int (i : Int)] ∧ i < 15 ∧ XoAt H e (Ca K i) ∧ ∀ H', Same H H' → Q (.bl true) H'
def spPlain : Sp := fun vs H Q _ => ∃ i : Int, vs = [.int i] ∧ 0 ≤ i ∧ i < 5 ∧ ∀ H', Same H H' → Q (.bl true) H'
def spOne : Sp := fun vs H Q _ => ∃ (a : Addr) (i : Int) (v : V), vs = [.int i, v] ∧ 4 < i ∧ i < 12 ∧ H a ≠ none ∧ Thing H a v ∧ ∀ H', Same H H' → Q (.bl true) H'
def spTwo : Sp := fun vs H Q _ => ∃ (a : Addr) (i : Int) (v u : V), vs = [.int i, v, u] ∧ 11 < i ∧ i < 15 ∧ H a ≠ none ∧ Thing H a v ∧ Thing H a u ∧ ∀ H', Same H H' → Q (.bl true) H'
def spI1 (K : PySem.W.Frag) (f : Str) : Sp := fun vs H Q _ => ∃ (a C : Addr) (v : V), vs = [.ref a, v] ∧ OexC K C ∧ PySem.W.findIn K (.ref C) f = some none ∧ H a = some (exo a C none) ∧
  ∀ d, H d = none → d ≠ a → Q .non (upd (upd H d (exd d [(f, v)])) a (exo a C (some d)))
def spI2 (K : PySem.W.Frag) (f g : Str) : Sp := fun vs H Q _ => ∃ (a C : Addr) (v u : V), vs = [.ref a, v, u] ∧ OexC K C ∧ PySem.W.findIn K (.ref C) f = some none ∧ PySem.W.findIn K (.ref C) g = some none ∧ H a = some (exo a C none) ∧
  ∀ d H', H d = none → d ≠ a → H' a = some (exo a C (some d)) → H' d = some (exd d [(g, u), (f, v)]) → (∀ b o, b ≠ a → b ≠ d → H b = some o → H' b = some o) → Q .non H'

theorem sc_NoKey___init__ : FnScope ["self", "key"] ["self", "key"] (defScope s_NoKey___init__) := ⟨rfl, rfl, rfl, by decide +kernel, rfl, by decide +kernel, by decide +kernel⟩
theorem ok_NoKey___init__ {fd : FuncData} (F : FunD K "__init__" "NoKey.__init__" (defArgs s_NoKey___init__) (defBody s_NoKey___init__) (defScope s_NoKey___init__) [] [] (He.ma K (Ca K 5) "__init__") fd) (T : Txt K mg) : MkX P w K mg base 1 "NoKey" (Ca K 5) ["self", "key"] (spI1 K "key") := by
  refine ⟨_, fd, T.ox 5 (by decide) (by decide), (T.it 5 (by decide) (by decide)).1, (T.it 5 (by decide) (by decide)).2, F.ok sc_NoKey___init__ (fun vs H Q E h => ?_) (fun cdv A outer s H vs Q E hr h => ⟨_, PSs.nox (pss_one (ps_ost (pv 0) (pv 1) rfl)), ?_⟩), T.g 5 (by decide), F.bindsN fun _ _ _ _ _ _ us hl => match us, hl with | [_, _], _ => rfl⟩
  · obtain ⟨a, C, v, rfl, _⟩ := h; rfl
  · obtain ⟨a, C, v, rfl, T, hn, ha, q⟩ := h
    walk_at "go"
    exact ⟨a, C, rfl, T, hn, Or.inl ⟨ha, fun d hd hne => q d hd hne⟩⟩

theorem sc_NoDealing___init__ : FnScope ["self", "dealing"] ["self", "dealing"] (defScope s_NoDealing___init__) := ⟨rfl, rfl, rfl, by decide +kernel, rfl, by decide +kernel, by decide +kernel⟩
theorem ok_NoDealing___init__ {fd : FuncData} (F : FunD K "__init__" "NoDealing.__init__" (defArgs s_NoDealing___init__) (defBody s_NoDealing___init__) (defScope s_NoDealing___init__) [] [] (He.ma K (Ca K 6) "__init__") fd) (T : Txt K mg) : MkX P w K mg base 1 "NoDealing" (Ca K 6) ["self", "dealing"] (spI1 K "dealing") := by
  refine ⟨_, fd, T.ox 6 (by decide) (by decide), (T.it 6 (by decide) (by decide)).1, (T.it 6 (by decide) (by decide)).2, F.ok sc_NoDealing___init__ (fun vs H Q E h => ?_) (fun cdv A outer s H vs Q E hr h => ⟨_, PSs.nox (pss_one (ps_ost (pv 0) (pv 1) rfl)), ?_⟩), T.g 6 (by decide), F.bindsN fun _ _ _ _ _ _ us hl => match us, hl with | [_, _], _ => rfl⟩
  · obtain ⟨a, C, v, rfl, _⟩ := h; rfl
  · obtain ⟨a, C, v, rfl, T, hn, ha, q⟩ := h
    walk_at "go"
    exact ⟨a, C, rfl, T, hn, Or.inl ⟨ha, fun d hd hne => q d hd hne⟩⟩

theorem sc_NoSuch___init__ : FnScope ["self", "key"] ["self", "key"] (defScope s_NoSuch___init__) := ⟨rfl, rfl, rfl, by decide +kernel, rfl, by decide +kernel, by decide +kernel⟩
theorem ok_NoSuch___init__ {fd : FuncData} (F : FunD K "__init__" "NoSuch.__init__" (defArgs s_NoSuch___init__) (defBody s_NoSuch___init__) (defScope s_NoSuch___init__) [] [] (He.ma K (Ca K 7) "__init__") fd) (T : Txt K mg) : MkX P w K mg base 1 "NoSuch" (Ca K 7) ["self", "key"] (spI1 K "key") := by
  refine ⟨_, fd, T.ox 7 (by decide) (by decide), (T.it 7 (by decide) (by decide)).1, (T.it 7 (by decide) (by decide)).2, F.ok sc_NoSuch___init__ (fun vs H Q E h => ?_) (fun cdv A outer s H vs Q E hr h => ⟨_, PSs.nox (pss_one (ps_ost (pv 0) (pv 1) rfl)), ?_⟩), T.g 7 (by decide), F.bindsN fun _ _ _ _ _ _ us hl => match us, hl with | [_, _], _ => rfl⟩
  · obtain ⟨a, C, v, rfl, _⟩ := h; rfl
  · obtain ⟨a, C, v, rfl, T, hn, ha, q⟩ := h
    walk_at "go"
    exact ⟨a, C, rfl, T, hn, Or.inl ⟨ha, fun d hd hne => q d hd hne⟩⟩

theorem sc_Taken___init__ : FnScope ["self", "name"] ["self", "name"] (defScope s_Taken___init__) := ⟨rfl, rfl, rfl, by decide +kernel, rfl, by decide +kernel, by decide +kernel⟩
theorem ok_Taken___init__ {fd : FuncData} (F : FunD K "__init__" "Taken.__init__" (defArgs s_Taken___init__) (defBody s_Taken___init__) (defScope s_Taken___init__) [] [] (He.ma K (Ca K 8) "__init__") fd) (T : Txt K mg) : MkX P w K mg base 1 "Taken" (Ca K 8) ["self", "name"] (spI1 K "name") := by
  refine ⟨_, fd, T.ox 8 (by decide) (by decide), (T.it 8 (by decide) (by decide)).1, (T.it 8 (by decide) (by decide)).2, F.ok sc_Taken___init__ (fun vs H Q E h => ?_) (fun cdv A outer s H vs Q E hr h => ⟨_, PSs.nox (pss_one (ps_ost (pv 0) (pv 1) rfl)), ?_⟩), T.g 8 (by decide), F.bindsN fun _ _ _ _ _ _ us hl => match us, hl with | [_, _], _ => rfl⟩
  · obtain ⟨a, C, v, rfl, _⟩ := h; rfl
  · obtain ⟨a, C, v, rfl, T, hn, ha, q⟩ := h
    walk_at "go"
    exact ⟨a, C, rfl, T, hn, Or.inl ⟨ha, fun d hd hne => q d hd hne⟩⟩

theorem sc_NoSlot___init__ : FnScope ["self", "name"] ["self", "name"] (defScope s_NoSlot___init__) := ⟨rfl, rfl, rfl, by decide +kernel, rfl, by decide +kernel, by decide +kernel⟩
theorem ok_NoSlot___init__ {fd : FuncData} (F : FunD K "__init__" "NoSlot.__init__" (defArgs s_NoSlot___init__) (defBody s_NoSlot___init__) (defScope s_NoSlot___init__) [] [] (He.ma K (Ca K 9) "__init__") fd) (T : Txt K mg) : MkX P w K mg base 1 "NoSlot" (Ca K 9) ["self", "name"] (spI1 K "name") := by
  refine ⟨_, fd, T.ox 9 (by decide) (by decide), (T.it 9 (by decide) (by decide)).1, (T.it 9 (by decide) (by decide)).2, F.ok sc_NoSlot___init__ (fun vs H Q E h => ?_) (fun cdv A outer s H vs Q E hr h => ⟨_, PSs.nox (pss_one (ps_ost (pv 0) (pv 1) rfl)), ?_⟩), T.g 9 (by decide), F.bindsN fun _ _ _ _ _ _ us hl => match us, hl with | [_, _], _ => rfl⟩
  · obtain ⟨a, C, v, rfl, _⟩ := h; rfl
  · obtain ⟨a, C, v, rfl, T, hn, ha, q⟩ := h
    walk_at "go"
    exact ⟨a, C, rfl, T, hn, Or.inl ⟨ha, fun d hd hne => q d hd hne⟩⟩

theorem sc_NoReader___init__ : FnScope ["self", "reader"] ["self", "reader"] (defScope s_NoReader___init__) := ⟨rfl, rfl, rfl, by decide +kernel, rfl, by decide +kernel, by decide +kernel⟩
theorem ok_NoReader___init__ {fd : FuncData} (F : FunD K "__init__" "NoReader.__init__" (defArgs s_NoReader___init__) (defBody s_NoReader___init__) (defScope s_NoReader___init__) [] [] (He.ma K (Ca K 10) "__init__") fd) (T : Txt K mg) : MkX P w K mg base 1 "NoReader" (Ca K 10) ["self", "reader"] (spI1 K "reader") := by
  refine ⟨_, fd, T.ox 10 (by decide) (by decide), (T.it 10 (by decide) (by decide)).1, (T.it 10 (by decide) (by decide)).2, F.ok sc_NoReader___init__ (fun vs H Q E h => ?_) (fun cdv A outer s H vs Q E hr h => ⟨_, PSs.nox (pss_one (ps_ost (pv 0) (pv 1) rfl)), ?_⟩), T.g 10 (by decide), F.bindsN fun _ _ _ _ _ _ us hl => match us, hl with | [_, _], _ => rfl⟩
  · obtain ⟨a, C, v, rfl, _⟩ := h; rfl
  · obtain ⟨a, C, v, rfl, T, hn, ha, q⟩ := h
    walk_at "go"
    exact ⟨a, C, rfl, T, hn, Or.inl ⟨ha, fun d hd hne => q d hd hne⟩⟩

theorem sc_Ring___init__ : FnScope ["self", "dealings"] ["self", "dealings"] (defScope s_Ring___init__) := ⟨rfl, rfl, rfl, by decide +kernel, rfl, by decide +kernel, by decide +kernel⟩
theorem ok_Ring___init__ {fd : FuncData} (F : FunD K "__init__" "Ring.__init__" (defArgs s_Ring___init__) (defBody s_Ring___init__) (defScope s_Ring___init__) [] [] (He.ma K (Ca K 11) "__init__") fd) (T : Txt K mg) : MkX P w K mg base 1 "Ring" (Ca K 11) ["self", "dealings"] (spI1 K "dealings") := by
  refine ⟨_, fd, T.ox 11 (by decide) (by decide), (T.it 11 (by decide) (by decide)).1, (T.it 11 (by decide) (by decide)).2, F.ok sc_Ring___init__ (fun vs H Q E h => ?_) (fun cdv A outer s H vs Q E hr h => ⟨_, PSs.nox (pss_one (ps_ost (pv 0) (pv 1) rfl)), ?_⟩), T.g 11 (by decide), F.bindsN fun _ _ _ _ _ _ us hl => match us, hl with | [_, _], _ => rfl⟩
  · obtain ⟨a, C, v, rfl, _⟩ := h; rfl
  · obtain ⟨a, C, v, rfl, T, hn, ha, q⟩ := h
    walk_at "go"
    exact ⟨a, C, rfl, T, hn, Or.inl ⟨ha, fun d hd hne => q d hd hne⟩⟩

theorem sc_Clash___init__ : FnScope ["self", "key", "dealing"] ["self", "key", "dealing"] (defScope s_Clash___init__) := ⟨rfl, rfl, rfl, by decide +kernel, rfl, by decide +kernel, by decide +kernel⟩
theorem ok_Clash___init__ {fd : FuncData} (F : FunD K "__init__" "Clash.__init__" (defArgs s_Clash___init__) (defBody s_Clash___init__) (defScope s_Clash___init__) [] [] (He.ma K (Ca K 12) "__init__") fd) (T : Txt K mg) : MkX P w K mg base 1 "Clash" (Ca K 12) ["self", "key", "dealing"] (spI2 K "key" "dealing") := by
  refine ⟨_, fd, T.ox 12 (by decide) (by decide), (T.it 12 (by decide) (by decide)).1, (T.it 12 (by decide) (by decide)).2, F.ok sc_Clash___init__ (fun vs H Q E h => ?_) (fun cdv A outer s H vs Q E hr h => ⟨_, PSs.nox (pss_cons (ps_ost (pv 0) (pv 1) rfl)
  (pss_one (ps_ost (pv 0) (pv 2) rfl))), ?_⟩), T.g 12 (by decide), F.bindsN fun _ _ _ _ _ _ us hl => match us, hl with | [_, _, _], _ => rfl⟩
  · obtain ⟨a, C, v, u, rfl, _⟩ := h; rfl
  · obtain ⟨a, C, v, u, rfl, T, hn, hm, ha, q⟩ := h
    walk_at "go"
    refine ⟨a, C, rfl, T, hn, Or.inl ⟨ha, fun d hd hne => ?_⟩⟩
    walk_at "go"
    refine ⟨a, C, rfl, T, hm, Or.inr ⟨d, _, upd_same, (by rw [upd_ne hne]; exact upd_same), (by show 1 ≤ 900; decide), ?_⟩⟩
    refine q d _ hd hne (by rw [upd_ne hne.symm]; exact upd_same) upd_same fun b o h1 h2 e => ?_
    rw [upd_ne h2, upd_ne h1, upd_ne h2]
    exact e

theorem sc_Late___init__ : FnScope ["self", "key", "dealing"] ["self", "key", "dealing"] (defScope s_Late___init__) := ⟨rfl, rfl, rfl, by decide +kernel, rfl, by decide +kernel, by decide +kernel⟩
theorem ok_Late___init__ {fd : FuncData} (F : FunD K "__init__" "Late.__init__" (defArgs s_Late___init__) (defBody s_Late___init__) (defScope s_Late___init__) [] [] (He.ma K (Ca K 13) "__init__") fd) (T : Txt K mg) : MkX P w K mg base 1 "Late" (Ca K 13) ["self", "key", "dealing"] (spI2 K "key" "dealing") := by
  refine ⟨_, fd, T.ox 13 (by decide) (by decide), (T.it 13 (by decide) (by decide)).1, (T.it 13 (by decide) (by decide)).2, F.ok sc_Late___init__ (fun vs H Q E h => ?_) (fun cdv A outer s H vs Q E hr h => ⟨_, PSs.nox (pss_cons (ps_ost (pv 0) (pv 1) rfl)
  (pss_one (ps_ost (pv 0) (pv 2) rfl))), ?_⟩), T.g 13 (by decide), F.bindsN fun _ _ _ _ _ _ us hl => match us, hl with | [_, _, _], _ => rfl⟩
  · obtain ⟨a, C, v, u, rfl, _⟩ := h; rfl
  · obtain ⟨a, C, v, u, rfl, T, hn, hm, ha, q⟩ := h
    walk_at "go"
    refine ⟨a, C, rfl, T, hn, Or.inl ⟨ha, fun d hd hne => ?_⟩⟩
    walk_at "go"
    refine ⟨a, C, rfl, T, hm, Or.inr ⟨d, _, upd_same, (by rw [upd_ne hne]; exact upd_same), (by show 1 ≤ 900; decide), ?_⟩⟩
    refine q d _ hd hne (by rw [upd_ne hne.symm]; exact upd_same) upd_same fun b o h1 h2 e => ?_
    rw [upd_ne h2, upd_ne h1, upd_ne h2]
    exact e

theorem sc_Undone___init__ : FnScope ["self", "at", "dealing"] ["self", "at", "dealing"] (defScope s_Undone___init__) := ⟨rfl, rfl, rfl, by decide +kernel, rfl, by decide +kernel, by decide +kernel⟩
theorem ok_Undone___init__ {fd : FuncData} (F : FunD K "__init__" "Undone.__init__" (defArgs s_Undone___init__) (defBody s_Undone___init__) (defScope s_Undone___init__) [] [] (He.ma K (Ca K 14) "__init__") fd) (T : Txt K mg) : MkX P w K mg base 1 "Undone" (Ca K 14) ["self", "at", "dealing"] (spI2 K "at" "dealing") := by
  refine ⟨_, fd, T.ox 14 (by decide) (by decide), (T.it 14 (by decide) (by decide)).1, (T.it 14 (by decide) (by decide)).2, F.ok sc_Undone___init__ (fun vs H Q E h => ?_) (fun cdv A outer s H vs Q E hr h => ⟨_, PSs.nox (pss_cons (ps_ost (pv 0) (pv 1) rfl)
  (pss_one (ps_ost (pv 0) (pv 2) rfl))), ?_⟩), T.g 14 (by decide), F.bindsN fun _ _ _ _ _ _ us hl => match us, hl with | [_, _, _], _ => rfl⟩
  · obtain ⟨a, C, v, u, rfl, _⟩ := h; rfl
  · obtain ⟨a, C, v, u, rfl, T, hn, hm, ha, q⟩ := h
    walk_at "go"
    refine ⟨a, C, rfl, T, hn, Or.inl ⟨ha, fun d hd hne => ?_⟩⟩
    walk_at "go"
    refine ⟨a, C, rfl, T, hm, Or.inr ⟨d, _, upd_same, (by rw [upd_ne hne]; exact upd_same), (by show 1 ≤ 900; decide), ?_⟩⟩
    refine q d _ hd hne (by rw [upd_ne hne.symm]; exact upd_same) upd_same fun b o h1 h2 e => ?_
    rw [upd_ne h2, upd_ne h1, upd_ne h2]
    exact e

theorem sc__law_thing : FnScope ["well", "number"] ["well"] (defScope s__law_thing) := ⟨rfl, rfl, rfl, by decide +kernel, rfl, by decide +kernel, by decide +kernel⟩
theorem ok__law_thing {f : Addr} {fd : FuncData} (F : FnP K "_law_thing" s__law_thing f fd) (gm : mg "_law_thing" = some (.ref f)) (B : Bas mg) (c__law_draw : Cal P w K mg base CX0 2 "_law_draw" ["well", "many"] spDraw) : Cal P w K mg base CX0 3 "_law_thing" ["well"] spThing := by
  refine ⟨f, fd, F.ok sc__law_thing (fun vs H Q E h => ?_) (fun cdv A outer s H vs Q E hr h => ⟨_, PSs.nox (pss_cons (ps_set (i := 1) sc__law_thing.nd rfl (by first | exact Or.inl rfl | exact Or.inr rfl) (pe_cal c__law_draw (hr.mono (by decide)) rfl pass0 (pa_cons (pv 0) (pa_cons (pe_op op_powW pe_int pe_int) pa_nil))))
  (pss_one (ps_ret (pe_ix (ix_lK K rfl) (pe_lst (pa_cons pe_str (pa_cons pe_str (pa_cons pe_str (pa_cons (pv 1) (pa_cons (pe_op op_sub pe_int (pv 1)) (pa_cons pe_non (pa_cons (pe_tup (pa_cons (pv 1) pa_nil)) (pa_cons (pe_lst (pa_cons (pv 1) (pa_cons pe_int pa_nil))) (pa_cons pe_bl (pa_cons pe_int pa_nil))))))))))) (pe_cal c__law_draw (hr.mono (by decide)) rfl pass0 (pa_cons (pv 0) (pa_cons pe_int pa_nil))) (fun _ _ => rfl))))), ?_⟩), gm, F.kp, F.bindsN fun _ _ _ _ _ _ us hl => match us, hl with | [_], _ => rfl⟩
  · obtain ⟨a, x, s, t, rfl, _⟩ := h; rfl
  · obtain ⟨a, x, s, t, rfl, ha, hb, q⟩ := h
    walk_at "go"
    refine g_I (powW_ok (b := 30) (by omega) (by omega) (by omega)) ?_
    walk_at "go"
    refine ⟨a, _, x, s, t, rfl, ha, ⟨by decide, by decide⟩, ⟨hb.1, hb.2.1, hb.2.2.1, by omega⟩, fun n x1 t1 h0 h1 h2 h3 => ?_⟩
    walk_at "go"
    refine g_tup' (sz (by simp)) fun p hp => ?_
    walk_at "go"
    refine g_lst' (sz (by simp)) fun r hr1 => ?_
    walk_at "go"
    refine g_lst' (sz (by simp)) fun L hL => ?_
    walk_at "go"
    have hH : ∀ b o, upd H a (HO.lst [V.int x1, V.int s, V.int t1]) b = some o → upd (upd (upd (upd H a (HO.lst [V.int x1, V.int s, V.int t1])) p (HO.tup [V.int n])) r (HO.lst [V.int n, V.int 1])) L (HO.lst [V.str "", V.str "key", V.str "abcdefgh", V.int n, V.int (0 - n), V.non, V.ref p, V.ref r, V.bl true, V.int 0]) b = some o := fun b o e => by
      have e1 : upd (upd H a (HO.lst [V.int x1, V.int s, V.int t1])) p (HO.tup [V.int n]) b = some o := same_new hp b o e
      have e2 := same_new (o := HO.lst [V.int n, V.int 1]) hr1 b o e1
      exact same_new hL b o e2
    have aa := hH a _ upd_same
    have pa : p ≠ a := fun z => by rw [z, upd_same] at hp; cases hp
    have ra : r ≠ a := fun z => by
      rw [z, upd_ne pa.symm, upd_same] at hr1
      cases hr1
    have rp : r ≠ p := fun z => by rw [z, upd_same] at hr1; cases hr1
    have La : L ≠ a := fun z => by rw [z, upd_ne ra.symm, upd_ne pa.symm, upd_same] at hL; cases hL
    have Lp : L ≠ p := fun z => by rw [z, upd_ne rp.symm, upd_same] at hL; cases hL
    have Lr : L ≠ r := fun z => by rw [z, upd_same] at hL; cases hL
    refine ⟨a, _, x1, s, t1, rfl, aa, ⟨by decide, by decide⟩, ⟨hb.1, hb.2.1, by omega, by omega⟩, fun k x2 t2 k0 k1 k2 k3 => ?_⟩
    have hold : ∀ b o, b ≠ a → H b = some o → upd (upd (upd (upd (upd H a (HO.lst [V.int x1, V.int s, V.int t1])) p (HO.tup [V.int n])) r (HO.lst [V.int n, V.int 1])) L (HO.lst [V.str "", V.str "key", V.str "abcdefgh", V.int n, V.int (0 - n), V.non, V.ref p, V.ref r, V.bl true, V.int 0])) a (HO.lst [V.int x2, V.int s, V.int t2]) b = some o := fun b o hne e => by
      rw [upd_ne hne]
      exact hH b o (by rw [upd_ne hne]; exact e)
    have at_ : ∀ (j : Nat) (v : V), k = (j : Int) → ([V.str "", V.str "key", V.str "abcdefgh", V.int n, V.int (0 - n), V.non, V.ref p, V.ref r, V.bl true, V.int 0] : List V)[j]? = some v → Thing (upd (upd (upd (upd (upd H a (HO.lst [V.int x1, V.int s, V.int t1])) p (HO.tup [V.int n])) r (HO.lst [V.int n, V.int 1])) L (HO.lst [V.str "", V.str "key", V.str "abcdefgh", V.int n, V.int (0 - n), V.non, V.ref p, V.ref r, V.bl true, V.int 0])) a (HO.lst [V.int x2, V.int s, V.int t2])) a v → ∃ v, atI [V.str "", V.str "key", V.str "abcdefgh", V.int n, V.int (0 - n), V.non, V.ref p, V.ref r, V.bl true, V.int 0] k = some v ∧ Thing (upd (upd (upd (upd (upd H a (HO.lst [V.int x1, V.int s, V.int t1])) p (HO.tup [V.int n])) r (HO.lst [V.int n, V.int 1])) L (HO.lst [V.str "", V.str "key", V.str "abcdefgh", V.int n, V.int (0 - n), V.non, V.ref p, V.ref r, V.bl true, V.int 0])) a (HO.lst [V.int x2, V.int s, V.int t2])) a v := fun j v e h1 h2 => ⟨v, L2.at_of e h1, h2⟩
    have ex : ∃ v, atI [V.str "", V.str "key", V.str "abcdefgh", V.int n, V.int (0 - n), V.non, V.ref p, V.ref r, V.bl true, V.int 0] k = some v ∧ Thing (upd (upd (upd (upd (upd H a (HO.lst [V.int x1, V.int s, V.int t1])) p (HO.tup [V.int n])) r (HO.lst [V.int n, V.int 1])) L (HO.lst [V.str "", V.str "key", V.str "abcdefgh", V.int n, V.int (0 - n), V.non, V.ref p, V.ref r, V.bl true, V.int 0])) a (HO.lst [V.int x2, V.int s, V.int t2])) a v := by
      have hk : k = 0 ∨ k = 1 ∨ k = 2 ∨ k = 3 ∨ k = 4 ∨ k = 5 ∨ k = 6 ∨ k = 7 ∨ k = 8 ∨ k = 9 := by omega
      rcases hk with e | e | e | e | e | e | e | e | e | e
      · exact at_ 0 _ e rfl (.str _ (by decide +kernel))
      · exact at_ 1 _ e rfl (.str _ (by decide +kernel))
      · exact at_ 2 _ e rfl (.str _ (by decide +kernel))
      · exact at_ 3 _ e rfl (.int _)
      · exact at_ 4 _ e rfl (.int _)
      · exact at_ 5 _ e rfl .non
      · exact at_ 6 _ e rfl (.tup p n pa (by rw [upd_ne pa, upd_ne Lp.symm, upd_ne rp.symm]; exact upd_same))
      · exact at_ 7 _ e rfl (.lst r n 1 ra (by rw [upd_ne ra, upd_ne Lr.symm]; exact upd_same))
      · exact at_ 8 _ e rfl (.bl _)
      · exact at_ 9 _ e rfl (.int _)
    obtain ⟨v, hv, tv⟩ := ex
    refine g_ixL (p := L) (xs := [V.str "", V.str "key", V.str "abcdefgh", V.int n, V.int (0 - n), V.non, V.ref p, V.ref r, V.bl true, V.int 0]) (by rw [upd_ne La]; exact upd_same) hv ?_
    exact q v _ x2 t2 tv upd_same (by omega) (by omega) hold

theorem sc__law_same : FnScope ["found", "due"] ["found", "due"] (defScope s__law_same) := ⟨rfl, rfl, rfl, by decide +kernel, rfl, by decide +kernel, by decide +kernel⟩
theorem ok__law_same {f : Addr} {fd : FuncData} (F : FnP K "_law_same" s__law_same f fd) (gm : mg "_law_same" = some (.ref f)) (B : Bas mg)  : Cal P w K mg base CX0 1 "_law_same" ["found", "due"] spSame := by
  refine ⟨f, fd, F.ok sc__law_same (fun vs H Q E h => ?_) (fun cdv A outer s H vs Q E hr h => ⟨_, PSs.nox (pss_one (ps_ret (pe_and (pe_cmpR (op_eqD hr.units) (pv 0) (pv 1) (nomark _)) (pe_one (pe_cmpR op_eq (pe_callB call_isi (by rfl) B.isi (by decide +kernel) (pa_cons (pv 0) (pa_cons (pe_bltn (v := .ty "bool") rfl B.bool (by decide +kernel) rfl) pa_nil))) (pe_callB call_isi (by rfl) B.isi (by decide +kernel) (pa_cons (pv 1) (pa_cons (pe_bltn (v := .ty "bool") rfl B.bool (by decide +kernel) rfl) pa_nil))) (nomark _)))))), ?_⟩), gm, F.kp, F.bindsN fun _ _ _ _ _ _ us hl => match us, hl with | [_, _], _ => rfl⟩
  · obtain ⟨a, v, rfl, _⟩ := h; rfl
  · obtain ⟨a, v, rfl, ht, q⟩ := h
    obtain ⟨d, hd, hs, he, _⟩ := ht.data (K := K)
    obtain ⟨t, b, ty, hk⟩ := ht.isb (K := K)
    walk_at "go"
    refine ⟨d, d, hd, hd, hs, hs, ?_⟩
    rw [he]
    walk_at "go"
    refine ⟨v, _, t, _, b, rfl, .ty "bool", ty, hk, ?_⟩
    walk_at "go"
    refine ⟨v, _, t, _, b, rfl, .ty "bool", ty, hk, ?_⟩
    walk_at "go"
    have e : decide (V.bl b = V.bl b) = true := by simp
    rw [e]
    exact q
end
end K71

set_option maxHeartbeats 4000000
namespace K71
open PySem PySem.Spec PyProof.Rows L2 Sk
section
variable {P : Program} {w : World} {K : PySem.W.Frag} {mg : Str → Option Value} {base : Heap}
theorem sc__law_of : FnScope ["made", "which", "found", "k"] ["made", "which"] (defScope s__law_of) := ⟨rfl, rfl, rfl, by decide +kernel, rfl, by decide +kernel, by decide +kernel⟩
theorem ok__law_of {f : Addr} {fd : FuncData} (F : FnP K "_law_of" s__law_of f fd) (gm : mg "_law_of" = some (.ref f)) (B : Bas mg)  (T : Txt K mg) : Cal P w K mg base CX0 1 "_law_of" ["made", "which"] (spOf K) := by
  refine ⟨f, fd, F.ok sc__law_of (fun vs H Q E h => ?_) (fun cdv A outer s H vs Q E hr h => ⟨_, PSs.nox (pss_cons (ps_set (i := 2) sc__law_of.nd rfl (by first | exact Or.inl rfl | exact Or.inr rfl) (pe_lst (pa_cons (pe_callB call_isO (by rfl) B.isi (by decide +kernel) (pa_cons (pv 0) (pa_cons (pe_gref rfl (T.g 0 (by decide))) pa_nil))) (pa_cons (pe_callB call_isO (by rfl) B.isi (by decide +kernel) (pa_cons (pv 0) (pa_cons (pe_gref rfl (T.g 1 (by decide))) pa_nil))) (pa_cons (pe_callB call_isO (by rfl) B.isi (by decide +kernel) (pa_cons (pv 0) (pa_cons (pe_gref rfl (T.g 2 (by decide))) pa_nil))) pa_nil)))))
  (pss_cons (ps_set (i := 2) sc__law_of.nd rfl (by first | exact Or.inl rfl | exact Or.inr rfl) (pe_op op_cat (pv 2) (pe_lst (pa_cons (pe_callB call_isO (by rfl) B.isi (by decide +kernel) (pa_cons (pv 0) (pa_cons (pe_gref rfl (T.g 3 (by decide))) pa_nil))) (pa_cons (pe_callB call_isO (by rfl) B.isi (by decide +kernel) (pa_cons (pv 0) (pa_cons (pe_gref rfl (T.g 4 (by decide))) pa_nil))) (pa_cons (pe_callB call_isO (by rfl) B.isi (by decide +kernel) (pa_cons (pv 0) (pa_cons (pe_gref rfl (T.g 5 (by decide))) pa_nil))) pa_nil))))))
  (pss_cons (ps_set (i := 2) sc__law_of.nd rfl (by first | exact Or.inl rfl | exact Or.inr rfl) (pe_op op_cat (pv 2) (pe_lst (pa_cons (pe_callB call_isO (by rfl) B.isi (by decide +kernel) (pa_cons (pv 0) (pa_cons (pe_gref rfl (T.g 6 (by decide))) pa_nil))) (pa_cons (pe_callB call_isO (by rfl) B.isi (by decide +kernel) (pa_cons (pv 0) (pa_cons (pe_gref rfl (T.g 7 (by decide))) pa_nil))) (pa_cons (pe_callB call_isO (by rfl) B.isi (by decide +kernel) (pa_cons (pv 0) (pa_cons (pe_gref rfl (T.g 8 (by decide))) pa_nil))) pa_nil))))))
  (pss_cons (ps_set (i := 2) sc__law_of.nd rfl (by first | exact Or.inl rfl | exact Or.inr rfl) (pe_op op_cat (pv 2) (pe_lst (pa_cons (pe_callB call_isO (by rfl) B.isi (by decide +kernel) (pa_cons (pv 0) (pa_cons (pe_gref rfl (T.g 9 (by decide))) pa_nil))) (pa_cons (pe_callB call_isO (by rfl) B.isi (by decide +kernel) (pa_cons (pv 0) (pa_cons (pe_gref rfl (T.g 10 (by decide))) pa_nil))) (pa_cons (pe_callB call_isO (by rfl) B.isi (by decide +kernel) (pa_cons (pv 0) (pa_cons (pe_gref rfl (T.g 11 (by decide))) pa_nil))) pa_nil))))))
  (pss_cons (ps_set (i := 2) sc__law_of.nd rfl (by first | exact Or.inl rfl | exact Or.inr rfl) (pe_op op_cat (pv 2) (pe_lst (pa_cons (pe_callB call_isO (by rfl) B.isi (by decide +kernel) (pa_cons (pv 0) (pa_cons (pe_gref rfl (T.g 12 (by decide))) pa_nil))) (pa_cons (pe_callB call_isO (by rfl) B.isi (by decide +kernel) (pa_cons (pv 0) (pa_cons (pe_gref rfl (T.g 13 (by decide))) pa_nil))) (pa_cons (pe_callB call_isO (by rfl) B.isi (by decide +kernel) (pa_cons (pv 0) (pa_cons (pe_gref rfl (T.g 14 (by decide))) pa_nil))) pa_nil))))))
  (pss_cons (ps_if (pt_cmpR (op_neD hr.units) (pe_lc (own := [("k", 3)]) rfl sc__law_of.nd (pi_range1 rfl B.range (pa_cons pe_int pa_nil)) (blkOk_by (N := ["made", "which", "found", "k"]) (sc := defScope s__law_of) (by decide +kernel)) (fun _ _ _ _ _ => (pg_name (i := 3) sc__law_of.nd rfl (by first | exact Or.inl rfl | exact Or.inr rfl))) (fun _ _ _ _ _ => pts_one (pt_val (pe_ix (ix_lK K rfl) (pv 2) (pv 3) (fun _ _ => rfl)))) (fun _ _ _ _ _ => (pv 3))) (pe_lst (pa_cons (pv 1) pa_nil)) (nomark _)) (pss_one (ps_ret pe_bl))
    pss_nil)
  (pss_one (ps_ret (pe_and (pe_callB call_isO (by rfl) B.isi (by decide +kernel) (pa_cons (pv 0) (pa_cons (pe_gref rfl T.gH) pa_nil))) (pe_one (pe_callB call_isO (by rfl) B.isi (by decide +kernel) (pa_cons (pv 0) (pa_cons (pe_bltn (v := .ty "ValueError") rfl B.VE (by decide +kernel) rfl) pa_nil))))))))))))), ?_⟩), gm, F.kp, F.bindsN fun _ _ _ _ _ _ us hl => match us, hl with | [_, _], _ => rfl⟩
  · obtain ⟨a, i, rfl, _⟩ := h; rfl
  · obtain ⟨e, i, rfl, hi, ho, q⟩ := h
    have hs := Same.refl H
    walk_at "go"
    refine g_isO ho (T.ec i hi) (.own _) (T.k1 i hi 0 (by decide)) ?_
    walk_at "go"
    refine g_isO ho (T.ec i hi) (.own _) (T.k1 i hi 1 (by decide)) ?_
    walk_at "go"
    refine g_isO ho (T.ec i hi) (.own _) (T.k1 i hi 2 (by decide)) ?_
    walk_at "go"
    refine g_newL (sz (by simp)) fun p0 H0 n0 s0 e0 => ?_
    have ho := ho.same s0
    have hs := hs.trans s0
    walk_at "go"
    have hl : H0 p0 = some (.lst ((List.range 3).map fun j => V.bl (decide (i = j)))) := e0
    refine g_isO ho (T.ec i hi) (.own _) (T.k1 i hi 3 (by decide)) ?_
    walk_at "go"
    refine g_isO ho (T.ec i hi) (.own _) (T.k1 i hi 4 (by decide)) ?_
    walk_at "go"
    refine g_isO ho (T.ec i hi) (.own _) (T.k1 i hi 5 (by decide)) ?_
    walk_at "go"
    refine g_newL (sz (by simp)) fun p1 H1 n1 s1 e1 => ?_
    have ho := ho.same s1
    have hs := hs.trans s1
    have hl := s1 _ _ hl
    walk_at "go"
    refine g_newC hl e1 (sz (by simp)) fun l1 G1 m1 t1 f1 => ?_
    have ho := ho.same t1
    have hs := hs.trans t1
    have hl : G1 l1 = some (.lst ((List.range 6).map fun j => V.bl (decide (i = j)))) := f1
    walk_at "go"
    refine g_isO ho (T.ec i hi) (.own _) (T.k1 i hi 6 (by decide)) ?_
    walk_at "go"
    refine g_isO ho (T.ec i hi) (.own _) (T.k1 i hi 7 (by decide)) ?_
    walk_at "go"
    refine g_isO ho (T.ec i hi) (.own _) (T.k1 i hi 8 (by decide)) ?_
    walk_at "go"
    refine g_newL (sz (by simp)) fun p2 H2 n2 s2 e2 => ?_
    have ho := ho.same s2
    have hs := hs.trans s2
    have hl := s2 _ _ hl
    walk_at "go"
    refine g_newC hl e2 (sz (by simp)) fun l2 G2 m2 t2 f2 => ?_
    have ho := ho.same t2
    have hs := hs.trans t2
    have hl : G2 l2 = some (.lst ((List.range 9).map fun j => V.bl (decide (i = j)))) := f2
    walk_at "go"
    refine g_isO ho (T.ec i hi) (.own _) (T.k1 i hi 9 (by decide)) ?_
    walk_at "go"
    refine g_isO ho (T.ec i hi) (.own _) (T.k1 i hi 10 (by decide)) ?_
    walk_at "go"
    refine g_isO ho (T.ec i hi) (.own _) (T.k1 i hi 11 (by decide)) ?_
    walk_at "go"
    refine g_newL (sz (by simp)) fun p3 H3 n3 s3 e3 => ?_
    have ho := ho.same s3
    have hs := hs.trans s3
    have hl := s3 _ _ hl
    walk_at "go"
    refine g_newC hl e3 (sz (by simp)) fun l3 G3 m3 t3 f3 => ?_
    have ho := ho.same t3
    have hs := hs.trans t3
    have hl : G3 l3 = some (.lst ((List.range 12).map fun j => V.bl (decide (i = j)))) := f3
    walk_at "go"
    refine g_isO ho (T.ec i hi) (.own _) (T.k1 i hi 12 (by decide)) ?_
    walk_at "go"
    refine g_isO ho (T.ec i hi) (.own _) (T.k1 i hi 13 (by decide)) ?_
    walk_at "go"
    refine g_isO ho (T.ec i hi) (.own _) (T.k1 i hi 14 (by decide)) ?_
    walk_at "go"
    refine g_newL (sz (by simp)) fun p4 H4 n4 s4 e4 => ?_
    have ho := ho.same s4
    have hs := hs.trans s4
    have hl := s4 _ _ hl
    walk_at "go"
    refine g_newC hl e4 (sz (by simp)) fun l4 G4 m4 t4 f4 => ?_
    have ho := ho.same t4
    have hs := hs.trans t4
    have hl : G4 l4 = some (.lst ((List.range 15).map fun j => V.bl (decide (i = j)))) := f4
    walk_at "go"
    refine ⟨15, rfl, by decide, by decide, fun D hD => lc_range (lo := 0) (n := 15) (fun j H' => H' = upd G4 D (.lst (if i < j then [.int (i : Int)] else []))) rfl ?_ ?_⟩
    · rintro j H' hj rfl
      have lD : l4 ≠ D := ne_of_none hl hD
      walk_at "go"
      refine ⟨rfl, ?_⟩
      walk_at "go"
      refine g_ixL (xs := (List.range 15).map fun j => V.bl (decide (i = j))) (v := V.bl (decide (i = j))) (by rw [upd_ne lD]; exact hl) (L2.at_of (j := j) (by omega) (by rw [List.getElem?_map, List.getElem?_range hj]; rfl)) ?_
      walk_at "go"
      refine g_dec (fun hk => ?_) (fun hk => ?_)
      · walk_at "go"
        refine ⟨_, upd_same, ?_, ?_⟩
        · split
          · exact Nat.lt_of_le_of_lt (show 1 ≤ 1 by decide) (by rw [sizeLine_eq]; decide)
          · rw [sizeLine_eq]; decide
        · rw [upd_upd, if_neg (by omega), if_pos (by omega)]
          subst hk
          simp
      · by_cases c : i < j
        · rw [if_pos c, if_pos (by omega)]
        · rw [if_neg c, if_neg (by omega)]
    · rintro H' rfl
      rw [if_pos hi]
      walk_at "go"
      refine g_newL (sz (by simp)) fun L H5 n5 s5 e5 => ?_
      have hs := (hs.trans (same_new (o := .lst [.int (i : Int)]) hD)).trans s5
      have ho := (ho.same (same_new (o := .lst [.int (i : Int)]) hD)).same s5
      refine ⟨_, _, .lst (SqL.of (s5 _ _ upd_same)) (.cons (.int i) .nil), .lst (SqL.of e5) (.cons (.int i) .nil), rfl, rfl, ?_⟩
      have ee : PyData.eqv (.list [.int (i : Int)]) (.list [.int (i : Int)]) = true := by simp [PyData.eqv, PyData.eqvAll]
      rw [ee]
      walk_at "go"
      refine g_isO ho (T.ec i hi) (.own _) (T.kH i hi) ?_
      walk_at "go"
      refine g_isO ho (T.ec i hi) (.ty _) (T.kV i hi) ?_
      exact q _ hs

theorem sc__law_plain : FnScope ["which"] ["which"] (defScope s__law_plain) := ⟨rfl, rfl, rfl, by decide +kernel, rfl, by decide +kernel, by decide +kernel⟩
theorem ok__law_plain {f : Addr} {fd : FuncData} (F : FnP K "_law_plain" s__law_plain f fd) (gm : mg "_law_plain" = some (.ref f)) (B : Bas mg) (c__law_of : Cal P w K mg base CX0 1 "_law_of" ["made", "which"] (spOf K)) (T : Txt K mg) : Cal P w K mg base CX0 2 "_law_plain" ["which"] spPlain := by
  refine ⟨f, fd, F.ok sc__law_plain (fun vs H Q E h => ?_) (fun cdv A outer s H vs Q E hr h => ⟨_, PSs.nox (pss_cons (ps_if (pt_cmpR op_eq (pv 0) pe_int (nomark _)) (pss_one (ps_ret (pe_cal c__law_of (hr.mono (by decide)) rfl pass0 (pa_cons (pe_xo0 PySem.F.excBase_ValueError (T.pl 0 (by decide)).1 (T.g 0 (by decide)) (T.pl 0 (by decide)).2 rfl) (pa_cons pe_int pa_nil)))))
    pss_nil)
  (pss_cons (ps_if (pt_cmpR op_eq (pv 0) pe_int (nomark _)) (pss_one (ps_ret (pe_cal c__law_of (hr.mono (by decide)) rfl pass0 (pa_cons (pe_xo0 PySem.F.excBase_ValueError (T.pl 1 (by decide)).1 (T.g 1 (by decide)) (T.pl 1 (by decide)).2 rfl) (pa_cons pe_int pa_nil)))))
    pss_nil)
  (pss_cons (ps_if (pt_cmpR op_eq (pv 0) pe_int (nomark _)) (pss_one (ps_ret (pe_cal c__law_of (hr.mono (by decide)) rfl pass0 (pa_cons (pe_xo0 PySem.F.excBase_ValueError (T.pl 2 (by decide)).1 (T.g 2 (by decide)) (T.pl 2 (by decide)).2 rfl) (pa_cons pe_int pa_nil)))))
    pss_nil)
  (pss_cons (ps_if (pt_cmpR op_eq (pv 0) pe_int (nomark _)) (pss_one (ps_ret (pe_cal c__law_of (hr.mono (by decide)) rfl pass0 (pa_cons (pe_xo0 PySem.F.excBase_ValueError (T.pl 3 (by decide)).1 (T.g 3 (by decide)) (T.pl 3 (by decide)).2 rfl) (pa_cons pe_int pa_nil)))))
    pss_nil)
  (pss_one (ps_ret (pe_cal c__law_of (hr.mono (by decide)) rfl pass0 (pa_cons (pe_xo0 PySem.F.excBase_ValueError (T.pl 4 (by decide)).1 (T.g 4 (by decide)) (T.pl 4 (by decide)).2 rfl) (pa_cons pe_int pa_nil))))))))), ?_⟩), gm, F.kp, F.bindsN fun _ _ _ _ _ _ us hl => match us, hl with | [_], _ => rfl⟩
  · obtain ⟨i, rfl, _⟩ := h; rfl
  · obtain ⟨i, rfl, h0, h5, q⟩ := h
    have main : ∀ (n : Nat) (a : Addr), n < 5 → H a = none → spOf K [.ref a, .int (n : Int)] (upd H a (exo a (Ca K n) none)) Q E := fun n a hn ha =>
      ⟨a, n, rfl, by omega, .bare upd_same, fun H' s => q H' ((same_new ha).trans s)⟩
    walk_at "go"
    refine g_dec (fun e => ?_) (fun e0 => ?_)
    · walk_at "go"
      intro a ha
      walk_at "go"
      exact main 0 a (by decide) ha
    walk_at "go"
    refine g_dec (fun e => ?_) (fun e1 => ?_)
    · walk_at "go"
      intro a ha
      walk_at "go"
      exact main 1 a (by decide) ha
    walk_at "go"
    refine g_dec (fun e => ?_) (fun e2 => ?_)
    · walk_at "go"
      intro a ha
      walk_at "go"
      exact main 2 a (by decide) ha
    walk_at "go"
    refine g_dec (fun e => ?_) (fun e3 => ?_)
    · walk_at "go"
      intro a ha
      walk_at "go"
      exact main 3 a (by decide) ha
    walk_at "go"
    intro a ha
    walk_at "go"
    exact main 4 a (by decide) ha

theorem sc__law_with_one : FnScope ["which", "one", "key", "dealing", "such", "taken", "slot", "reader", "round_of"] ["which", "one"] (defScope s__law_with_one) := ⟨rfl, rfl, rfl, by decide +kernel, rfl, by decide +kernel, by decide +kernel⟩
theorem ok__law_with_one {f : Addr} {fd : FuncData} (F : FnP K "_law_with_one" s__law_with_one f fd) (gm : mg "_law_with_one" = some (.ref f)) (B : Bas mg) (c__law_of : Cal P w K mg base CX0 1 "_law_of" ["made", "which"] (spOf K)) (c__law_same : Cal P w K mg base CX0 1 "_law_same" ["found", "due"] spSame) (T : Txt K mg) (m_NoKey : MkX P w K mg base 1 "NoKey" (Ca K 5) ["self", "key"] (spI1 K "key")) (m_NoDealing : MkX P w K mg base 1 "NoDealing" (Ca K 6) ["self", "dealing"] (spI1 K "dealing")) (m_NoSuch : MkX P w K mg base 1 "NoSuch" (Ca K 7) ["self", "key"] (spI1 K "key")) (m_Taken : MkX P w K mg base 1 "Taken" (Ca K 8) ["self", "name"] (spI1 K "name")) (m_NoSlot : MkX P w K mg base 1 "NoSlot" (Ca K 9) ["self", "name"] (spI1 K "name")) (m_NoReader : MkX P w K mg base 1 "NoReader" (Ca K 10) ["self", "reader"] (spI1 K "reader")) (m_Ring : MkX P w K mg base 1 "Ring" (Ca K 11) ["self", "dealings"] (spI1 K "dealings")) : Cal P w K mg base CX0 3 "_law_with_one" ["which", "one"] spOne := by
  refine ⟨f, fd, F.ok sc__law_with_one (fun vs H Q E h => ?_) (fun cdv A outer s H vs Q E hr h => ⟨_, PSs.nox (pss_cons (ps_if (pt_cmpR op_eq (pv 0) pe_int (nomark _)) (pss_cons (ps_set (i := 2) sc__law_with_one.nd rfl (by first | exact Or.inl rfl | exact Or.inr rfl) (pe_mkx m_NoKey (hr.mono (by decide)) rfl (pa_cons (pv 1) pa_nil)))
    (pss_one (ps_ret (pe_and (pe_cal c__law_of (hr.mono (by decide)) rfl pass0 (pa_cons (pv 2) (pa_cons pe_int pa_nil))) (pe_one (pe_cal c__law_same (hr.mono (by decide)) rfl pass0 (pa_cons (pe_xo (pv 2) rfl) (pa_cons (pv 1) pa_nil))))))))
    pss_nil)
  (pss_cons (ps_if (pt_cmpR op_eq (pv 0) pe_int (nomark _)) (pss_cons (ps_set (i := 3) sc__law_with_one.nd rfl (by first | exact Or.inl rfl | exact Or.inr rfl) (pe_mkx m_NoDealing (hr.mono (by decide)) rfl (pa_cons (pv 1) pa_nil)))
    (pss_one (ps_ret (pe_and (pe_cal c__law_of (hr.mono (by decide)) rfl pass0 (pa_cons (pv 3) (pa_cons pe_int pa_nil))) (pe_one (pe_cal c__law_same (hr.mono (by decide)) rfl pass0 (pa_cons (pe_xo (pv 3) rfl) (pa_cons (pv 1) pa_nil))))))))
    pss_nil)
  (pss_cons (ps_if (pt_cmpR op_eq (pv 0) pe_int (nomark _)) (pss_cons (ps_set (i := 4) sc__law_with_one.nd rfl (by first | exact Or.inl rfl | exact Or.inr rfl) (pe_mkx m_NoSuch (hr.mono (by decide)) rfl (pa_cons (pv 1) pa_nil)))
    (pss_one (ps_ret (pe_and (pe_cal c__law_of (hr.mono (by decide)) rfl pass0 (pa_cons (pv 4) (pa_cons pe_int pa_nil))) (pe_one (pe_cal c__law_same (hr.mono (by decide)) rfl pass0 (pa_cons (pe_xo (pv 4) rfl) (pa_cons (pv 1) pa_nil))))))))
    pss_nil)
  (pss_cons (ps_if (pt_cmpR op_eq (pv 0) pe_int (nomark _)) (pss_cons (ps_set (i := 5) sc__law_with_one.nd rfl (by first | exact Or.inl rfl | exact Or.inr rfl) (pe_mkx m_Taken (hr.mono (by decide)) rfl (pa_cons (pv 1) pa_nil)))
    (pss_one (ps_ret (pe_and (pe_cal c__law_of (hr.mono (by decide)) rfl pass0 (pa_cons (pv 5) (pa_cons pe_int pa_nil))) (pe_one (pe_cal c__law_same (hr.mono (by decide)) rfl pass0 (pa_cons (pe_xo (pv 5) rfl) (pa_cons (pv 1) pa_nil))))))))
    pss_nil)
  (pss_cons (ps_if (pt_cmpR op_eq (pv 0) pe_int (nomark _)) (pss_cons (ps_set (i := 6) sc__law_with_one.nd rfl (by first | exact Or.inl rfl | exact Or.inr rfl) (pe_mkx m_NoSlot (hr.mono (by decide)) rfl (pa_cons (pv 1) pa_nil)))
    (pss_one (ps_ret (pe_and (pe_cal c__law_of (hr.mono (by decide)) rfl pass0 (pa_cons (pv 6) (pa_cons pe_int pa_nil))) (pe_one (pe_cal c__law_same (hr.mono (by decide)) rfl pass0 (pa_cons (pe_xo (pv 6) rfl) (pa_cons (pv 1) pa_nil))))))))
    pss_nil)
  (pss_cons (ps_if (pt_cmpR op_eq (pv 0) pe_int (nomark _)) (pss_cons (ps_set (i := 7) sc__law_with_one.nd rfl (by first | exact Or.inl rfl | exact Or.inr rfl) (pe_mkx m_NoReader (hr.mono (by decide)) rfl (pa_cons (pv 1) pa_nil)))
    (pss_one (ps_ret (pe_and (pe_cal c__law_of (hr.mono (by decide)) rfl pass0 (pa_cons (pv 7) (pa_cons pe_int pa_nil))) (pe_one (pe_cal c__law_same (hr.mono (by decide)) rfl pass0 (pa_cons (pe_xo (pv 7) rfl) (pa_cons (pv 1) pa_nil))))))))
    pss_nil)
  (pss_cons (ps_set (i := 8) sc__law_with_one.nd rfl (by first | exact Or.inl rfl | exact Or.inr rfl) (pe_mkx m_Ring (hr.mono (by decide)) rfl (pa_cons (pe_lst (pa_cons (pv 1) (pa_cons (pv 1) pa_nil))) pa_nil)))
  (pss_one (ps_ret (pe_and (pe_cal c__law_of (hr.mono (by decide)) rfl pass0 (pa_cons (pv 8) (pa_cons pe_int pa_nil))) (pe_one (pe_cmpR (op_eqD hr.units) (pe_xo (pv 8) rfl) (pe_lst (pa_cons (pv 1) (pa_cons (pv 1) pa_nil))) (nomark _))))))))))))), ?_⟩), gm, F.kp, F.bindsN fun _ _ _ _ _ _ us hl => match us, hl with | [_, _], _ => rfl⟩
  · obtain ⟨a, i, v, rfl, _⟩ := h; rfl
  · obtain ⟨a, i, v, rfl, h4, h12, ha, ht, q⟩ := h
    walk_at "go"
    refine g_dec (fun e => ?_) (fun e5 => ?_)
    · walk_at "go"
      refine ⟨by simp, fun x hx => ⟨x, _, v, rfl, T.ox 5 (by decide) (by decide), T.no 5 (by decide) _ (by simp [fN]), upd_same, fun d hd hne => ⟨rfl, ?_⟩⟩⟩
      have nd : H d = none := by rw [upd_ne hne] at hd; exact hd
      have hs : Same H (upd (upd (upd H x (exo x (Ca K 5) none)) d (exd d [("key", v)])) x (exo x (Ca K 5) (some d))) := fun b o e => by
        have bx : b ≠ x := ne_of_none e hx
        rw [upd_ne bx, upd_ne (ne_of_none e nd), upd_ne bx]
        exact e
      have ax : upd (upd (upd H x (exo x (Ca K 5) none)) d (exd d [("key", v)])) x (exo x (Ca K 5) (some d)) x = some (exo x (Ca K 5) (some d)) := upd_same
      have ad : upd (upd (upd H x (exo x (Ca K 5) none)) d (exd d [("key", v)])) x (exo x (Ca K 5) (some d)) d = some (exd d [("key", v)]) := by rw [upd_ne hne]; exact upd_same
      generalize upd (upd (upd H x (exo x (Ca K 5) none)) d (exd d [("key", v)])) x (exo x (Ca K 5) (some d)) = H1 at hs ax ad
      walk_at "go"
      refine ⟨x, 5, rfl, by decide, .full d _ ax ad, fun H2 s2 => ?_⟩
      walk_at "go"
      refine ⟨x, _, d, _, v, rfl, T.xf 5 (by decide), T.no 5 (by decide) _ (by simp [fN]), s2 _ _ ax, s2 _ _ ad, rfl, ?_⟩
      walk_at "go"
      exact ⟨a, v, rfl, ht.mono fun b o _ e => s2 _ _ (hs _ _ e), q _ (hs.trans s2)⟩
    walk_at "go"
    refine g_dec (fun e => ?_) (fun e6 => ?_)
    · walk_at "go"
      refine ⟨by simp, fun x hx => ⟨x, _, v, rfl, T.ox 6 (by decide) (by decide), T.no 6 (by decide) _ (by simp [fN]), upd_same, fun d hd hne => ⟨rfl, ?_⟩⟩⟩
      have nd : H d = none := by rw [upd_ne hne] at hd; exact hd
      have hs : Same H (upd (upd (upd H x (exo x (Ca K 6) none)) d (exd d [("dealing", v)])) x (exo x (Ca K 6) (some d))) := fun b o e => by
        have bx : b ≠ x := ne_of_none e hx
        rw [upd_ne bx, upd_ne (ne_of_none e nd), upd_ne bx]
        exact e
      have ax : upd (upd (upd H x (exo x (Ca K 6) none)) d (exd d [("dealing", v)])) x (exo x (Ca K 6) (some d)) x = some (exo x (Ca K 6) (some d)) := upd_same
      have ad : upd (upd (upd H x (exo x (Ca K 6) none)) d (exd d [("dealing", v)])) x (exo x (Ca K 6) (some d)) d = some (exd d [("dealing", v)]) := by rw [upd_ne hne]; exact upd_same
      generalize upd (upd (upd H x (exo x (Ca K 6) none)) d (exd d [("dealing", v)])) x (exo x (Ca K 6) (some d)) = H1 at hs ax ad
      walk_at "go"
      refine ⟨x, 6, rfl, by decide, .full d _ ax ad, fun H2 s2 => ?_⟩
      walk_at "go"
      refine ⟨x, _, d, _, v, rfl, T.xf 6 (by decide), T.no 6 (by decide) _ (by simp [fN]), s2 _ _ ax, s2 _ _ ad, rfl, ?_⟩
      walk_at "go"
      exact ⟨a, v, rfl, ht.mono fun b o _ e => s2 _ _ (hs _ _ e), q _ (hs.trans s2)⟩
    walk_at "go"
    refine g_dec (fun e => ?_) (fun e7 => ?_)
    · walk_at "go"
      refine ⟨by simp, fun x hx => ⟨x, _, v, rfl, T.ox 7 (by decide) (by decide), T.no 7 (by decide) _ (by simp [fN]), upd_same, fun d hd hne => ⟨rfl, ?_⟩⟩⟩
      have nd : H d = none := by rw [upd_ne hne] at hd; exact hd
      have hs : Same H (upd (upd (upd H x (exo x (Ca K 7) none)) d (exd d [("key", v)])) x (exo x (Ca K 7) (some d))) := fun b o e => by
        have bx : b ≠ x := ne_of_none e hx
        rw [upd_ne bx, upd_ne (ne_of_none e nd), upd_ne bx]
        exact e
      have ax : upd (upd (upd H x (exo x (Ca K 7) none)) d (exd d [("key", v)])) x (exo x (Ca K 7) (some d)) x = some (exo x (Ca K 7) (some d)) := upd_same
      have ad : upd (upd (upd H x (exo x (Ca K 7) none)) d (exd d [("key", v)])) x (exo x (Ca K 7) (some d)) d = some (exd d [("key", v)]) := by rw [upd_ne hne]; exact upd_same
      generalize upd (upd (upd H x (exo x (Ca K 7) none)) d (exd d [("key", v)])) x (exo x (Ca K 7) (some d)) = H1 at hs ax ad
      walk_at "go"
      refine ⟨x, 7, rfl, by decide, .full d _ ax ad, fun H2 s2 => ?_⟩
      walk_at "go"
      refine ⟨x, _, d, _, v, rfl, T.xf 7 (by decide), T.no 7 (by decide) _ (by simp [fN]), s2 _ _ ax, s2 _ _ ad, rfl, ?_⟩
      walk_at "go"
      exact ⟨a, v, rfl, ht.mono fun b o _ e => s2 _ _ (hs _ _ e), q _ (hs.trans s2)⟩
    walk_at "go"
    refine g_dec (fun e => ?_) (fun e8 => ?_)
    · walk_at "go"
      refine ⟨by simp, fun x hx => ⟨x, _, v, rfl, T.ox 8 (by decide) (by decide), T.no 8 (by decide) _ (by simp [fN]), upd_same, fun d hd hne => ⟨rfl, ?_⟩⟩⟩
      have nd : H d = none := by rw [upd_ne hne] at hd; exact hd
      have hs : Same H (upd (upd (upd H x (exo x (Ca K 8) none)) d (exd d [("name", v)])) x (exo x (Ca K 8) (some d))) := fun b o e => by
        have bx : b ≠ x := ne_of_none e hx
        rw [upd_ne bx, upd_ne (ne_of_none e nd), upd_ne bx]
        exact e
      have ax : upd (upd (upd H x (exo x (Ca K 8) none)) d (exd d [("name", v)])) x (exo x (Ca K 8) (some d)) x = some (exo x (Ca K 8) (some d)) := upd_same
      have ad : upd (upd (upd H x (exo x (Ca K 8) none)) d (exd d [("name", v)])) x (exo x (Ca K 8) (some d)) d = some (exd d [("name", v)]) := by rw [upd_ne hne]; exact upd_same
      generalize upd (upd (upd H x (exo x (Ca K 8) none)) d (exd d [("name", v)])) x (exo x (Ca K 8) (some d)) = H1 at hs ax ad
      walk_at "go"
      refine ⟨x, 8, rfl, by decide, .full d _ ax ad, fun H2 s2 => ?_⟩
      walk_at "go"
      refine ⟨x, _, d, _, v, rfl, T.xf 8 (by decide), T.no 8 (by decide) _ (by simp [fN]), s2 _ _ ax, s2 _ _ ad, rfl, ?_⟩
      walk_at "go"
      exact ⟨a, v, rfl, ht.mono fun b o _ e => s2 _ _ (hs _ _ e), q _ (hs.trans s2)⟩
    walk_at "go"
    refine g_dec (fun e => ?_) (fun e9 => ?_)
    · walk_at "go"
      refine ⟨by simp, fun x hx => ⟨x, _, v, rfl, T.ox 9 (by decide) (by decide), T.no 9 (by decide) _ (by simp [fN]), upd_same, fun d hd hne => ⟨rfl, ?_⟩⟩⟩
      have nd : H d = none := by rw [upd_ne hne] at hd; exact hd
      have hs : Same H (upd (upd (upd H x (exo x (Ca K 9) none)) d (exd d [("name", v)])) x (exo x (Ca K 9) (some d))) := fun b o e => by
        have bx : b ≠ x := ne_of_none e hx
        rw [upd_ne bx, upd_ne (ne_of_none e nd), upd_ne bx]
        exact e
      have ax : upd (upd (upd H x (exo x (Ca K 9) none)) d (exd d [("name", v)])) x (exo x (Ca K 9) (some d)) x = some (exo x (Ca K 9) (some d)) := upd_same
      have ad : upd (upd (upd H x (exo x (Ca K 9) none)) d (exd d [("name", v)])) x (exo x (Ca K 9) (some d)) d = some (exd d [("name", v)]) := by rw [upd_ne hne]; exact upd_same
      generalize upd (upd (upd H x (exo x (Ca K 9) none)) d (exd d [("name", v)])) x (exo x (Ca K 9) (some d)) = H1 at hs ax ad
      walk_at "go"
      refine ⟨x, 9, rfl, by decide, .full d _ ax ad, fun H2 s2 => ?_⟩
      walk_at "go"
      refine ⟨x, _, d, _, v, rfl, T.xf 9 (by decide), T.no 9 (by decide) _ (by simp [fN]), s2 _ _ ax, s2 _ _ ad, rfl, ?_⟩
      walk_at "go"
      exact ⟨a, v, rfl, ht.mono fun b o _ e => s2 _ _ (hs _ _ e), q _ (hs.trans s2)⟩
    walk_at "go"
    refine g_dec (fun e => ?_) (fun e10 => ?_)
    · walk_at "go"
      refine ⟨by simp, fun x hx => ⟨x, _, v, rfl, T.ox 10 (by decide) (by decide), T.no 10 (by decide) _ (by simp [fN]), upd_same, fun d hd hne => ⟨rfl, ?_⟩⟩⟩
      have nd : H d = none := by rw [upd_ne hne] at hd; exact hd
      have hs : Same H (upd (upd (upd H x (exo x (Ca K 10) none)) d (exd d [("reader", v)])) x (exo x (Ca K 10) (some d))) := fun b o e => by
        have bx : b ≠ x := ne_of_none e hx
        rw [upd_ne bx, upd_ne (ne_of_none e nd), upd_ne bx]
        exact e
      have ax : upd (upd (upd H x (exo x (Ca K 10) none)) d (exd d [("reader", v)])) x (exo x (Ca K 10) (some d)) x = some (exo x (Ca K 10) (some d)) := upd_same
      have ad : upd (upd (upd H x (exo x (Ca K 10) none)) d (exd d [("reader", v)])) x (exo x (Ca K 10) (some d)) d = some (exd d [("reader", v)]) := by rw [upd_ne hne]; exact upd_same
      generalize upd (upd (upd H x (exo x (Ca K 10) none)) d (exd d [("reader", v)])) x (exo x (Ca K 10) (some d)) = H1 at hs ax ad
      walk_at "go"
      refine ⟨x, 10, rfl, by decide, .full d _ ax ad, fun H2 s2 => ?_⟩
      walk_at "go"
      refine ⟨x, _, d, _, v, rfl, T.xf 10 (by decide), T.no 10 (by decide) _ (by simp [fN]), s2 _ _ ax, s2 _ _ ad, rfl, ?_⟩
      walk_at "go"
      exact ⟨a, v, rfl, ht.mono fun b o _ e => s2 _ _ (hs _ _ e), q _ (hs.trans s2)⟩
    walk_at "go"
    refine g_newL (sz (by simp)) fun L H0 nL sL eL => ?_
    have ht0 := ht.mono (fun b o _ e => sL b o e)
    walk_at "go"
    refine ⟨by simp, fun x hx => ⟨x, _, .ref L, rfl, T.ox 11 (by decide) (by decide), T.no 11 (by decide) _ (by simp [fN]), upd_same, fun d hd hne => ⟨rfl, ?_⟩⟩⟩
    have nd : H0 d = none := by rw [upd_ne hne] at hd; exact hd
    have hs : Same H0 (upd (upd (upd H0 x (exo x (Ca K 11) none)) d (exd d [("dealings", .ref L)])) x (exo x (Ca K 11) (some d))) := fun b o e => by
      have bx : b ≠ x := ne_of_none e hx
      rw [upd_ne bx, upd_ne (ne_of_none e nd), upd_ne bx]
      exact e
    have ax : upd (upd (upd H0 x (exo x (Ca K 11) none)) d (exd d [("dealings", .ref L)])) x (exo x (Ca K 11) (some d)) x = some (exo x (Ca K 11) (some d)) := upd_same
    have ad : upd (upd (upd H0 x (exo x (Ca K 11) none)) d (exd d [("dealings", .ref L)])) x (exo x (Ca K 11) (some d)) d = some (exd d [("dealings", .ref L)]) := by rw [upd_ne hne]; exact upd_same
    generalize upd (upd (upd H0 x (exo x (Ca K 11) none)) d (exd d [("dealings", .ref L)])) x (exo x (Ca K 11) (some d)) = H1 at hs ax ad
    walk_at "go"
    refine ⟨x, 11, rfl, by decide, .full d _ ax ad, fun H2 s2 => ?_⟩
    walk_at "go"
    refine ⟨x, _, d, _, .ref L, rfl, T.xf 11 (by decide), T.no 11 (by decide) _ (by simp [fN]), s2 _ _ ax, s2 _ _ ad, rfl, ?_⟩
    walk_at "go"
    refine g_newL (sz (by simp)) fun M H3 nM sM eM => ?_
    have s03 : Same H0 H3 := (hs.trans s2).trans sM
    have ht3 := ht0.mono (fun b o _ e => s03 b o e)
    obtain ⟨de, hde, _, hev, sh⟩ := ht3.data (K := K)
    have ee : PyData.eqv (.list [de, de]) (.list [de, de]) = true := by simp [PyData.eqv, PyData.eqvAll, hev]
    refine ⟨_, _, .lst (SqL.of (s03 _ _ eL)) (.cons hde (.cons hde .nil)), .lst (SqL.of eM) (.cons hde (.cons hde .nil)), sh, sh, ?_⟩
    rw [ee]
    exact q _ (sL.trans s03)

theorem sc__law_with_two : FnScope ["which", "one", "other", "clash", "late", "undone"] ["which", "one", "other"] (defScope s__law_with_two) := ⟨rfl, rfl, rfl, by decide +kernel, rfl, by decide +kernel, by decide +kernel⟩
theorem ok__law_with_two {f : Addr} {fd : FuncData} (F : FnP K "_law_with_two" s__law_with_two f fd) (gm : mg "_law_with_two" = some (.ref f)) (B : Bas mg) (c__law_of : Cal P w K mg base CX0 1 "_law_of" ["made", "which"] (spOf K)) (c__law_same : Cal P w K mg base CX0 1 "_law_same" ["found", "due"] spSame) (T : Txt K mg) (m_Clash : MkX P w K mg base 1 "Clash" (Ca K 12) ["self", "key", "dealing"] (spI2 K "key" "dealing")) (m_Late : MkX P w K mg base 1 "Late" (Ca K 13) ["self", "key", "dealing"] (spI2 K "key" "dealing")) (m_Undone : MkX P w K mg base 1 "Undone" (Ca K 14) ["self", "at", "dealing"] (spI2 K "at" "dealing")) : Cal P w K mg base CX0 3 "_law_with_two" ["which", "one", "other"] spTwo := by
  refine ⟨f, fd, F.ok sc__law_with_two (fun vs H Q E h => ?_) (fun cdv A outer s H vs Q E hr h => ⟨_, PSs.nox (pss_cons (ps_if (pt_cmpR op_eq (pv 0) pe_int (nomark _)) (pss_cons (ps_set (i := 3) sc__law_with_two.nd rfl (by first | exact Or.inl rfl | exact Or.inr rfl) (pe_mkx m_Clash (hr.mono (by decide)) rfl (pa_cons (pv 1) (pa_cons (pv 2) pa_nil))))
    (pss_one (ps_ret (pe_and (pe_cal c__law_of (hr.mono (by decide)) rfl pass0 (pa_cons (pv 3) (pa_cons pe_int pa_nil))) (pe_and (pe_cal c__law_same (hr.mono (by decide)) rfl pass0 (pa_cons (pe_xo (pv 3) rfl) (pa_cons (pv 1) pa_nil))) (pe_one (pe_cal c__law_same (hr.mono (by decide)) rfl pass0 (pa_cons (pe_xo (pv 3) rfl) (pa_cons (pv 2) pa_nil)))))))))
    pss_nil)
  (pss_cons (ps_if (pt_cmpR op_eq (pv 0) pe_int (nomark _)) (pss_cons (ps_set (i := 4) sc__law_with_two.nd rfl (by first | exact Or.inl rfl | exact Or.inr rfl) (pe_mkx m_Late (hr.mono (by decide)) rfl (pa_cons (pv 1) (pa_cons (pv 2) pa_nil))))
    (pss_one (ps_ret (pe_and (pe_cal c__law_of (hr.mono (by decide)) rfl pass0 (pa_cons (pv 4) (pa_cons pe_int pa_nil))) (pe_and (pe_cal c__law_same (hr.mono (by decide)) rfl pass0 (pa_cons (pe_xo (pv 4) rfl) (pa_cons (pv 1) pa_nil))) (pe_one (pe_cal c__law_same (hr.mono (by decide)) rfl pass0 (pa_cons (pe_xo (pv 4) rfl) (pa_cons (pv 2) pa_nil)))))))))
    pss_nil)
  (pss_cons (ps_set (i := 5) sc__law_with_two.nd rfl (by first | exact Or.inl rfl | exact Or.inr rfl) (pe_mkx m_Undone (hr.mono (by decide)) rfl (pa_cons (pv 1) (pa_cons (pv 2) pa_nil))))
  (pss_one (ps_ret (pe_and (pe_cal c__law_of (hr.mono (by decide)) rfl pass0 (pa_cons (pv 5) (pa_cons pe_int pa_nil))) (pe_and (pe_cal c__law_same (hr.mono (by decide)) rfl pass0 (pa_cons (pe_xo (pv 5) rfl) (pa_cons (pv 1) pa_nil))) (pe_one (pe_cal c__law_same (hr.mono (by decide)) rfl pass0 (pa_cons (pe_xo (pv 5) rfl) (pa_cons (pv 2) pa_nil))))))))))), ?_⟩), gm, F.kp, F.bindsN fun _ _ _ _ _ _ us hl => match us, hl with | [_, _, _], _ => rfl⟩
  · obtain ⟨a, i, v, u, rfl, _⟩ := h; rfl
  · obtain ⟨a, i, v, u, rfl, h4, h12, ha, ht, hu, q⟩ := h
    walk_at "go"
    refine g_dec (fun e => ?_) (fun e12 => ?_)
    · walk_at "go"
      refine ⟨by simp, fun x hx => ⟨x, _, v, u, rfl, T.ox 12 (by decide) (by decide), T.no 12 (by decide) _ (by simp [fN]), T.no 12 (by decide) _ (by simp [fN]), upd_same, fun d H1 hd hne ax ad hk => ⟨rfl, ?_⟩⟩⟩
      have nd : H d = none := by rw [upd_ne hne] at hd; exact hd
      have hs : Same H H1 := fun b o e => by
        have bx : b ≠ x := ne_of_none e hx
        exact hk b o bx (ne_of_none e nd) (by rw [upd_ne bx]; exact e)
      walk_at "go"
      refine ⟨x, 12, rfl, by decide, .full d _ ax ad, fun H2 s2 => ?_⟩
      walk_at "go"
      refine ⟨x, _, d, _, v, rfl, T.xf 12 (by decide), T.no 12 (by decide) _ (by simp [fN]), s2 _ _ ax, s2 _ _ ad, rfl, ?_⟩
      walk_at "go"
      refine ⟨a, v, rfl, ht.mono fun b o _ e => s2 _ _ (hs _ _ e), ?_⟩
      walk_at "go"
      refine ⟨x, _, d, _, u, rfl, T.xf 12 (by decide), T.no 12 (by decide) _ (by simp [fN]), s2 _ _ ax, s2 _ _ ad, rfl, ?_⟩
      walk_at "go"
      exact ⟨a, u, rfl, hu.mono fun b o _ e => s2 _ _ (hs _ _ e), q _ (hs.trans s2)⟩
    walk_at "go"
    refine g_dec (fun e => ?_) (fun e13 => ?_)
    · walk_at "go"
      refine ⟨by simp, fun x hx => ⟨x, _, v, u, rfl, T.ox 13 (by decide) (by decide), T.no 13 (by decide) _ (by simp [fN]), T.no 13 (by decide) _ (by simp [fN]), upd_same, fun d H1 hd hne ax ad hk => ⟨rfl, ?_⟩⟩⟩
      have nd : H d = none := by rw [upd_ne hne] at hd; exact hd
      have hs : Same H H1 := fun b o e => by
        have bx : b ≠ x := ne_of_none e hx
        exact hk b o bx (ne_of_none e nd) (by rw [upd_ne bx]; exact e)
      walk_at "go"
      refine ⟨x, 13, rfl, by decide, .full d _ ax ad, fun H2 s2 => ?_⟩
      walk_at "go"
      refine ⟨x, _, d, _, v, rfl, T.xf 13 (by decide), T.no 13 (by decide) _ (by simp [fN]), s2 _ _ ax, s2 _ _ ad, rfl, ?_⟩
      walk_at "go"
      refine ⟨a, v, rfl, ht.mono fun b o _ e => s2 _ _ (hs _ _ e), ?_⟩
      walk_at "go"
      refine ⟨x, _, d, _, u, rfl, T.xf 13 (by decide), T.no 13 (by decide) _ (by simp [fN]), s2 _ _ ax, s2 _ _ ad, rfl, ?_⟩
      walk_at "go"
      exact ⟨a, u, rfl, hu.mono fun b o _ e => s2 _ _ (hs _ _ e), q _ (hs.trans s2)⟩
    · walk_at "go"
      refine ⟨by simp, fun x hx => ⟨x, _, v, u, rfl, T.ox 14 (by decide) (by decide), T.no 14 (by decide) _ (by simp [fN]), T.no 14 (by decide) _ (by simp [fN]), upd_same, fun d H1 hd hne ax ad hk => ⟨rfl, ?_⟩⟩⟩
      have nd : H d = none := by rw [upd_ne hne] at hd; exact hd
      have hs : Same H H1 := fun b o e => by
        have bx : b ≠ x := ne_of_none e hx
        exact hk b o bx (ne_of_none e nd) (by rw [upd_ne bx]; exact e)
      walk_at "go"
      refine ⟨x, 14, rfl, by decide, .full d _ ax ad, fun H2 s2 => ?_⟩
      walk_at "go"
      refine ⟨x, _, d, _, v, rfl, T.xf 14 (by decide), T.no 14 (by decide) _ (by simp [fN]), s2 _ _ ax, s2 _ _ ad, rfl, ?_⟩
      walk_at "go"
      refine ⟨a, v, rfl, ht.mono fun b o _ e => s2 _ _ (hs _ _ e), ?_⟩
      walk_at "go"
      refine ⟨x, _, d, _, u, rfl, T.xf 14 (by decide), T.no 14 (by decide) _ (by simp [fN]), s2 _ _ ax, s2 _ _ ad, rfl, ?_⟩
      walk_at "go"
      exact ⟨a, u, rfl, hu.mono fun b o _ e => s2 _ _ (hs _ _ e), q _ (hs.trans s2)⟩
end
end K71

set_option maxHeartbeats 4000000
namespace K71
open PySem PySem.Spec PyProof.Rows L2 Sk
section
variable {P : Program} {w : World} {K : PySem.W.Frag} {mg : Str → Option Value} {base : Heap}
def spLaw (K : PySem.W.Frag) : Sp := fun vs H Q _ => ∃ (a : Addr) (ns : List Int), vs = [.ref a] ∧ SqL K H a (ns.map V.int) ∧ ns.length ≤ 63 ∧ ∀ H', Q (.bl true) H' 
theorem sc_law : FnScope ["script", "k", "well", "which", "one", "other"] ["script"] (defScope s_law) := ⟨rfl, rfl, rfl, by decide +kernel, rfl, by decide +kernel, by decide +kernel⟩
theorem ok_law {f : Addr} {fd : FuncData} (F : FnP K "law" s_law f fd) (B : Bas mg) (c__law_cell_at : Cal P w K mg base CX0 1 "_law_cell_at" ["script", "k"] (spCell K)) (c__law_well : Cal P w K mg base CX0 2 "_law_well" ["cell", "k"] spWell) (c__law_draw : Cal P w K mg base CX0 2 "_law_draw" ["well", "many"] spDraw) (c__law_thing : Cal P w K mg base CX0 3 "_law_thing" ["well"] spThing) (c__law_plain : Cal P w K mg base CX0 2 "_law_plain" ["which"] spPlain) (c__law_with_one : Cal P w K mg base CX0 3 "_law_with_one" ["which", "one"] spOne) (c__law_with_two : Cal P w K mg base CX0 3 "_law_with_two" ["which", "one", "other"] spTwo) : FnOk P w K mg base CX0 6 f fd ["script"] (spLaw K) := by
  refine F.ok sc_law (fun vs H Q E h => ?_) (fun cdv A outer s H vs Q E hr h => ⟨_, PSs.nox (pss_cons (ps_for PassesOwn.never rfl (pi_range1 rfl B.range (pa_cons (pe_callB (call_max2Q rfl) (by rfl) B.max (by decide +kernel) (pa_cons pe_int (pa_cons (pe_callB (call_min2Q rfl) (by rfl) B.min (by decide +kernel) (pa_cons pe_int (pa_cons (pe_callB call_lenQ (by rfl) B.len PySem.boot_len (pa_cons (pv 0) pa_nil)) pa_nil))) pa_nil))) pa_nil)) (pg_name (i := 1) sc_law.nd rfl (by first | exact Or.inl rfl | exact Or.inr rfl))
    (pss_cons (ps_set (i := 2) sc_law.nd rfl (by first | exact Or.inl rfl | exact Or.inr rfl) (pe_cal c__law_well (hr.mono (by decide)) rfl pass0 (pa_cons (pe_cal c__law_cell_at (hr.mono (by decide)) rfl pass0 (pa_cons (pv 0) (pa_cons (pv 1) pa_nil))) (pa_cons (pv 1) pa_nil))))
    (pss_cons (ps_set (i := 3) sc_law.nd rfl (by first | exact Or.inl rfl | exact Or.inr rfl) (pe_cal c__law_draw (hr.mono (by decide)) rfl pass0 (pa_cons (pv 2) (pa_cons pe_int pa_nil))))
    (pss_cons (ps_set (i := 4) sc_law.nd rfl (by first | exact Or.inl rfl | exact Or.inr rfl) (pe_cal c__law_thing (hr.mono (by decide)) rfl pass0 (pa_cons (pv 2) pa_nil)))
    (pss_cons (ps_set (i := 5) sc_law.nd rfl (by first | exact Or.inl rfl | exact Or.inr rfl) (pe_cal c__law_thing (hr.mono (by decide)) rfl pass0 (pa_cons (pv 2) pa_nil)))
    (pss_cons (ps_if (PW.pt (pw_and (pt_cmpR op_lt (pv 3) pe_int (nomark _)) (pw_and1 (pt_not (pt_val (pe_cal c__law_plain (hr.mono (by decide)) rfl pass0 (pa_cons (pv 3) pa_nil))))))) (pss_one (ps_ret pe_bl))
      pss_nil)
    (pss_cons (ps_if (PW.pt (pw_and (pt_chain op_lt op_lt pe_int (pv 3) pe_int) (pw_and1 (pt_not (pt_val (pe_cal c__law_with_one (hr.mono (by decide)) rfl pass0 (pa_cons (pv 3) (pa_cons (pv 4) pa_nil)))))))) (pss_one (ps_ret pe_bl))
      pss_nil)
    (pss_one (ps_if (PW.pt (pw_and (pt_cmpR op_gt (pv 3) pe_int (nomark _)) (pw_and1 (pt_not (pt_val (pe_cal c__law_with_two (hr.mono (by decide)) rfl pass0 (pa_cons (pv 3) (pa_cons (pv 4) (pa_cons (pv 5) pa_nil))))))))) (pss_one (ps_ret pe_bl))
      pss_nil)))))))))
  (pss_one (ps_ret pe_bl))), ?_⟩)
  · obtain ⟨a, ns, rfl, _⟩ := h; rfl
  · obtain ⟨a, ns, rfl, hS, hl, q⟩ := h
    walk_at "go"
    have en : ∃ n : Nat, (if (if ((ns.map V.int).length : Int) < 16 then ((ns.map V.int).length : Int) else 16) > 1 then (if ((ns.map V.int).length : Int) < 16 then ((ns.map V.int).length : Int) else 16) else 1) = (n : Int) ∧ n ≤ 16 := by
      rw [List.length_map]
      exact ⟨(if (if (ns.length : Int) < 16 then (ns.length : Int) else 16) > 1 then (if (ns.length : Int) < 16 then (ns.length : Int) else 16) else 1 : Int).toNat, by split <;> split <;> omega, by split <;> split <;> omega⟩
    obtain ⟨n, en, hn⟩ := en
    refine forR1_by en (by omega) (fun _ σ' H' => ∃ v1 v2 v3 v4 v5, σ' = [some (.ref a), v1, v2, v3, v4, v5] ∧ SqL K H' a (ns.map V.int)) ⟨_, _, _, _, _, rfl, hS⟩ ?_ ?_
    · rintro k σ' H' hk ⟨v1, v2, v3, v4, v5, rfl, hS'⟩
      walk_at "go"
      refine ⟨a, ns, _, rfl, hS', hl, by omega, fun c => ?_⟩
      walk_at "go"
      refine ⟨_, _, rfl, ⟨by omega, by omega⟩, fun wl x s hw s0 s1 => ?_⟩
      walk_at "go"
      refine ⟨wl, _, x, s, 0, rfl, upd_same, ⟨by decide, by decide⟩, ⟨s0, s1, by decide, by decide⟩, fun r x1 t1 r0 r1 t0 tt => ?_⟩
      rw [upd_upd]
      walk_at "go"
      refine ⟨wl, x1, s, t1, rfl, upd_same, ⟨s0, s1, by omega, by omega⟩, fun v H2 x2 t2 tv h2 t2a t2b k2 => ?_⟩
      walk_at "go"
      refine ⟨wl, x2, s, t2, rfl, h2, ⟨s0, s1, by omega, by omega⟩, fun u H3 x3 t3 tu h3 t3a t3b k3 => ?_⟩
      have tv3 := tv.mono k3
      have s3 : Same H' H3 := fun b o e => by
        have bw : b ≠ wl := ne_of_none e hw
        exact k3 b o bw (k2 b o bw (by rw [upd_ne bw]; exact e))
      have nw : H3 wl ≠ none := fun z => by rw [z] at h3; cases h3
      walk_at "go"
      have hr3 : r < 5 ∨ (4 < r ∧ r < 12) ∨ (11 < r ∧ r < 15) := by omega
      rcases hr3 with c5 | ⟨c5, c12⟩ | ⟨c11, c15⟩
      · refine g_yes c5 ?_
        walk_at "go"
        refine ⟨r, rfl, r0, c5, fun H4 s4 => ?_⟩
        walk_at "go"
        refine g_no (by omega) ?_
        walk_at "go"
        refine g_no (by omega) ?_
        walk_at "go"
        exact ⟨_, _, _, _, _, rfl, (s3.trans s4).seq hS'⟩
      · refine g_no (by omega) ?_
        walk_at "go"
        refine g_yes c5 ?_
        walk_at "go"
        refine g_yes c12 ?_
        walk_at "go"
        refine ⟨wl, r, v, rfl, c5, c12, nw, tv3, fun H4 s4 => ?_⟩
        walk_at "go"
        refine g_no (by omega) ?_
        walk_at "go"
        exact ⟨_, _, _, _, _, rfl, (s3.trans s4).seq hS'⟩
      · refine g_no (by omega) ?_
        walk_at "go"
        refine g_yes (by omega) ?_
        walk_at "go"
        refine g_no (by omega) ?_
        walk_at "go"
        refine g_yes c11 ?_
        walk_at "go"
        refine ⟨wl, r, v, u, rfl, c11, c15, nw, tv3, tu, fun H4 s4 => ?_⟩
        walk_at "go"
        exact ⟨_, _, _, _, _, rfl, (s3.trans s4).seq hS'⟩
    · rintro σ' H' ⟨v1, v2, v3, v4, v5, rfl, hS'⟩
      walk_at "go"
      exact q _
end
end K71

set_option maxHeartbeats 0

/-! ### what the head says -/
namespace K71
open PySem PySem.Spec PyProof.Rows L2 Sk
def oexB (K : PySem.W.Frag) (C : Addr) : Bool := (match K.lookup C with
  | some ⟨.type "type", _, .cls cd, sl⟩ => (match cd.mro, sl.toList with
    | .ref C' :: bm, [_, _, _, _, some (.builtin n), _] => C' == C && n == "ValueError.__new__" && !cd.hasDel && cd.hasDict && PySem.HandSPX.refsVE bm
    | _, _ => false)
  | _ => false) && (He.eqO (PySem.W.findIn K (.ref C) "__setattr__") (some (some (.builtin "object.__setattr__"))) && (decide (PySem.W.subIn K (.ref C) (.type "BaseException") = some true) && (decide (PySem.W.typeIn K (.ref C) = some (.type "type")) && PySem.W.keepIn K (.ref C))))
theorem oexB_ok {K : PySem.W.Frag} {C : Addr} (h : oexB K C = true) : OexC K C := by
  unfold oexB at h
  obtain ⟨h1, h⟩ := He.ba h
  obtain ⟨h2, h⟩ := He.ba h
  obtain ⟨h3, h⟩ := He.ba h
  obtain ⟨h4, h5⟩ := He.ba h
  refine ⟨?_, He.eqO_ok h2, of_decide_eq_true h3, of_decide_eq_true h4, h5⟩
  split at h1
  · rename_i dd cd sl ho
    split at h1
    · rename_i C' bm k0 k1 k2 k3 n k5 hm hs
      simp only [Bool.and_eq_true, beq_iff_eq, Bool.not_eq_true'] at h1
      obtain ⟨⟨⟨⟨rfl, rfl⟩, hdel⟩, hdict⟩, ht⟩ := h1
      obtain ⟨nm, bs, mro, ns, qn, hd, sn, sub, ab, col, del⟩ := cd
      dsimp only at hm hdel hdict
      subst hm hdel hdict
      have hsl : sl = #[k0, k1, k2, k3, some (.builtin "ValueError.__new__"), k5] := by
        obtain ⟨l⟩ := sl
        simp only at hs
        rw [hs]
      subst hsl
      exact ⟨nm, qn, ns, bs, bm, sn, sub, ab, col, dd, k0, k1, k2, k3, k5, ho, ht⟩
    · cases h1
  · cases h1
def excB (K : PySem.W.Frag) (D : Addr) : Bool := He.eqO (PySem.W.findIn K (.ref D) "__getattribute__") (some (some (.builtin "BaseException.__getattribute__"))) && (He.eqO (PySem.W.findIn K (.ref D) "__getattr__") (some none) &&
  (decide (PySem.W.subIn K (.ref D) (.type "BaseException") = some true) && (PySem.W.hasDictIn K D && (He.eqO (PySem.W.findIn K (.ref D) "__class__") (some (some (.builtin "object.__class__"))) &&
  (He.eqO (PySem.W.specialIn K (.builtin "object.__class__") "__get__") (some (some (.builtin "getset_descriptor.__get__"))) && (decide (PySem.W.takesIn K (.builtin "object.__class__") = some true) && decide (PySem.W.mroIn K D (.type "object") = some true)))))))
theorem excB_ok {K : PySem.W.Frag} {D : Addr} (h : excB K D = true) : ExcC K D ∧ XfC K D := by
  unfold excB at h
  obtain ⟨h1, h⟩ := He.ba h
  obtain ⟨h2, h⟩ := He.ba h
  obtain ⟨h3, h⟩ := He.ba h
  obtain ⟨h4, h⟩ := He.ba h
  obtain ⟨h5, h⟩ := He.ba h
  obtain ⟨h6, h⟩ := He.ba h
  obtain ⟨h7, h8⟩ := He.ba h
  exact ⟨⟨He.eqO_ok h1, He.eqO_ok h2, of_decide_eq_true h3, h4, He.eqO_ok h5, He.eqO_ok h6, of_decide_eq_true h7, of_decide_eq_true h8⟩, ⟨He.eqO_ok h1, He.eqO_ok h2, of_decide_eq_true h3, h4⟩⟩
def exI (K : PySem.W.Frag) (i : Nat) : Bool := He.eqO (PySem.W.nsIn K mainGlobals (cN.getD i "")) (some (some (.ref (Ca K i)))) && (excB K (Ca K i) && ((fN.all fun f => He.eqO (PySem.W.findIn K (.ref (Ca K i)) f) (some none)) &&
  (((List.range 15).all fun j => decide (PySem.W.kitOne K (.ref (Ca K i)) (.ref (Ca K j)) = some (decide (i = j)))) && (decide (PySem.W.kitOne K (.ref (Ca K i)) (.ref (He.ga K "HouseError")) = some true) && decide (PySem.W.kitOne K (.ref (Ca K i)) (.type "ValueError") = some true)))))
def exJ (K : PySem.W.Frag) (i : Nat) : Bool := if i < 5 then PySem.W.excIn K (Ca K i) He.veBase "ValueError.__new__" && PySem.W.keepIn K (.ref (Ca K i)) else
  oexB K (Ca K i) && (He.eqO (PySem.W.findIn K (.ref (Ca K i)) "__init__") (some (some (.ref (He.ma K (Ca K i) "__init__")))) && decide (PySem.W.typeIn K (.ref (He.ma K (Ca K i) "__init__")) = some (.type "function")))
def free : List Str := ["len", "range", "isinstance", "min", "max", "sorted", "dict", "list", "any", "all", "sum", "enumerate", "set", "zip", "int", "str", "bool", "tuple", "ValueError"]
def ex (K : PySem.W.Frag) : Bool := ((List.range 15).all fun i => exI K i && exJ K i) && (He.eqO (PySem.W.nsIn K mainGlobals "HouseError") (some (some (.ref (He.ga K "HouseError")))) && free.all fun x => He.eqO (PySem.W.nsIn K mainGlobals x) (some none))
theorem ex_ok {K : PySem.W.Frag} {h : Heap} {mg : Str → Option Value} (X : K.In h) (G : h.Ns mainGlobals mg) (e : ex K = true) : Txt K mg ∧ Bas mg := by
  unfold ex at e
  obtain ⟨e1, e⟩ := He.ba e
  obtain ⟨e2, e3⟩ := He.ba e
  have hI : ∀ i, i < 15 → exI K i = true ∧ exJ K i = true := fun i hi => He.ba (List.all_eq_true.mp e1 i (List.mem_range.mpr hi))
  refine ⟨⟨fun i hi => ?_, PySem.W.mg_of X G (He.eqO_ok e2), fun i hi => ?_, fun i hi => ?_, fun i hi f hf => ?_, fun i hi j hj => ?_, fun i hi => ?_, fun i hi => ?_, fun i hi => ?_, fun i h5 hi => ?_, fun i h5 hi => ?_⟩, ⟨fun x hx => PySem.W.mg_none_of X G (He.eqO_ok (List.all_eq_true.mp e3 x hx))⟩⟩
  all_goals first
    | (have hi := (show i < 15 by omega); obtain ⟨a, b⟩ := hI i hi; unfold exI at a; obtain ⟨a1, a⟩ := He.ba a; obtain ⟨a2, a⟩ := He.ba a; obtain ⟨a3, a⟩ := He.ba a; obtain ⟨a4, a⟩ := He.ba a; obtain ⟨a5, a6⟩ := He.ba a
       first
         | exact PySem.W.mg_of X G (He.eqO_ok a1)
         | exact (excB_ok a2).1
         | exact (excB_ok a2).2
         | exact He.eqO_ok (List.all_eq_true.mp a3 f hf)
         | exact of_decide_eq_true (List.all_eq_true.mp a4 j (List.mem_range.mpr hj))
         | exact of_decide_eq_true a5
         | exact of_decide_eq_true a6
         | (unfold exJ at b; rw [if_pos (by omega)] at b; exact He.ba b)
         | (unfold exJ at b; rw [if_neg (by omega)] at b; exact oexB_ok (He.ba b).1)
         | (unfold exJ at b; rw [if_neg (by omega)] at b; obtain ⟨b1, b⟩ := He.ba b; obtain ⟨b2, b3⟩ := He.ba b; exact ⟨He.eqO_ok b2, of_decide_eq_true b3⟩))
def d__law_cell_at : He.DefD := ⟨("_law_cell_at", none), "_law_cell_at", "_law_cell_at", defArgs s__law_cell_at, defBody s__law_cell_at, defScope s__law_cell_at, [], []⟩
def d__law_stir : He.DefD := ⟨("_law_stir", none), "_law_stir", "_law_stir", defArgs s__law_stir, defBody s__law_stir, defScope s__law_stir, [], []⟩
def d__law_well : He.DefD := ⟨("_law_well", none), "_law_well", "_law_well", defArgs s__law_well, defBody s__law_well, defScope s__law_well, [], []⟩
def d__law_draw : He.DefD := ⟨("_law_draw", none), "_law_draw", "_law_draw", defArgs s__law_draw, defBody s__law_draw, defScope s__law_draw, [], []⟩
def d__law_thing : He.DefD := ⟨("_law_thing", none), "_law_thing", "_law_thing", defArgs s__law_thing, defBody s__law_thing, defScope s__law_thing, [], []⟩
def d__law_same : He.DefD := ⟨("_law_same", none), "_law_same", "_law_same", defArgs s__law_same, defBody s__law_same, defScope s__law_same, [], []⟩
def d__law_of : He.DefD := ⟨("_law_of", none), "_law_of", "_law_of", defArgs s__law_of, defBody s__law_of, defScope s__law_of, [], []⟩
def d__law_plain : He.DefD := ⟨("_law_plain", none), "_law_plain", "_law_plain", defArgs s__law_plain, defBody s__law_plain, defScope s__law_plain, [], []⟩
def d__law_with_one : He.DefD := ⟨("_law_with_one", none), "_law_with_one", "_law_with_one", defArgs s__law_with_one, defBody s__law_with_one, defScope s__law_with_one, [], []⟩
def d__law_with_two : He.DefD := ⟨("_law_with_two", none), "_law_with_two", "_law_with_two", defArgs s__law_with_two, defBody s__law_with_two, defScope s__law_with_two, [], []⟩
def d_law : He.DefD := ⟨("law", none), "law", "law", defArgs s_law, defBody s_law, defScope s_law, [], []⟩
def d_NoKey : He.DefD := ⟨("NoKey", some "__init__"), "__init__", "NoKey.__init__", defArgs s_NoKey___init__, defBody s_NoKey___init__, defScope s_NoKey___init__, [], []⟩
def d_NoDealing : He.DefD := ⟨("NoDealing", some "__init__"), "__init__", "NoDealing.__init__", defArgs s_NoDealing___init__, defBody s_NoDealing___init__, defScope s_NoDealing___init__, [], []⟩
def d_NoSuch : He.DefD := ⟨("NoSuch", some "__init__"), "__init__", "NoSuch.__init__", defArgs s_NoSuch___init__, defBody s_NoSuch___init__, defScope s_NoSuch___init__, [], []⟩
def d_Taken : He.DefD := ⟨("Taken", some "__init__"), "__init__", "Taken.__init__", defArgs s_Taken___init__, defBody s_Taken___init__, defScope s_Taken___init__, [], []⟩
def d_NoSlot : He.DefD := ⟨("NoSlot", some "__init__"), "__init__", "NoSlot.__init__", defArgs s_NoSlot___init__, defBody s_NoSlot___init__, defScope s_NoSlot___init__, [], []⟩
def d_NoReader : He.DefD := ⟨("NoReader", some "__init__"), "__init__", "NoReader.__init__", defArgs s_NoReader___init__, defBody s_NoReader___init__, defScope s_NoReader___init__, [], []⟩
def d_Ring : He.DefD := ⟨("Ring", some "__init__"), "__init__", "Ring.__init__", defArgs s_Ring___init__, defBody s_Ring___init__, defScope s_Ring___init__, [], []⟩
def d_Clash : He.DefD := ⟨("Clash", some "__init__"), "__init__", "Clash.__init__", defArgs s_Clash___init__, defBody s_Clash___init__, defScope s_Clash___init__, [], []⟩
def d_Late : He.DefD := ⟨("Late", some "__init__"), "__init__", "Late.__init__", defArgs s_Late___init__, defBody s_Late___init__, defScope s_Late___init__, [], []⟩
def d_Undone : He.DefD := ⟨("Undone", some "__init__"), "__init__", "Undone.__init__", defArgs s_Undone___init__, defBody s_Undone___init__, defScope s_Undone___init__, [], []⟩
def fn : List He.DefD := [d__law_cell_at, d__law_stir, d__law_well, d__law_draw, d__law_thing, d__law_same, d__law_of, d__law_plain, d__law_with_one, d__law_with_two, d_law, d_NoKey, d_NoDealing, d_NoSuch, d_Taken, d_NoSlot, d_NoReader, d_Ring, d_Clash, d_Late, d_Undone]
def fa : List He.Fa := [.glo "_law_cell_at", .glo "_law_stir", .glo "_law_well", .glo "_law_draw", .glo "_law_thing", .glo "_law_same", .glo "_law_of", .glo "_law_plain", .glo "_law_with_one", .glo "_law_with_two", .glo "law"]
abbrev R : PySem.W.OpenRow := PySem.W.OpenLaw.row PySem.Challenge.rw_slotkeep_k71_refusals_made
abbrev hk : PySem.W.Hook := He.hookX 5 fa fn [] [] ex
def ob (s : PySem.W.SharedT) : He.AlX := He.obsX 5 fa fn [] [] ex (HandSHeadRun.getT s)
theorem ob_eq (s : PySem.W.SharedT) : ob s = hk.obs s.abs := He.obsX_eq (HandSHeadRun.getT_eq s)
def loose : List PySem.Str := ["HouseError", "NoKey", "NoWorth", "NoText", "NoLevel", "NoDealing", "Clash", "Late", "NoSuch", "Ring", "Undone", "NoPage", "Taken", "NoSlot", "NoReader", "Left", "_law_cell_at", "_law_stir", "_law_well", "_law_draw", "_law_thing", "_law_same", "_law_of", "_law_plain", "_law_with_one", "_law_with_two"]
theorem run (w : World) : HandSHeadRun.RunEq R (PySem.W.view R.prog [28]) hk ob 20000 loose w := by
  intro os
  kernel_rfl
theorem facts {P : Program} {w : World} {K : PySem.W.Frag} {h : Heap} {mg : Str → Option Value} {f : Addr} (X : K.In h) (G : h.Ns mainGlobals mg) (hfa : mg ("law" : Str) = some (.ref f)) (c : He.SaysX fa fn [] [] ex w h K) :
    ∃ fd : FuncData, (∀ (s : Shared) (v : Value), BindsTo s fd ⟨[v], []⟩ [("script", v)]) ∧ ∀ base : Heap, K.In base → base.Ns mainGlobals mg → FnOk P w K mg base CX0 6 f fd ["script"] (spLaw K) := by
  have d := c.t.d
  obtain ⟨T, B⟩ := ex_ok X G c.more
  obtain ⟨f__law_cell_at, F__law_cell_at⟩ := d.def_ 0 (d := d__law_cell_at) rfl
  obtain ⟨f__law_stir, F__law_stir⟩ := d.def_ 1 (d := d__law_stir) rfl
  obtain ⟨f__law_well, F__law_well⟩ := d.def_ 2 (d := d__law_well) rfl
  obtain ⟨f__law_draw, F__law_draw⟩ := d.def_ 3 (d := d__law_draw) rfl
  obtain ⟨f__law_thing, F__law_thing⟩ := d.def_ 4 (d := d__law_thing) rfl
  obtain ⟨f__law_same, F__law_same⟩ := d.def_ 5 (d := d__law_same) rfl
  obtain ⟨f__law_of, F__law_of⟩ := d.def_ 6 (d := d__law_of) rfl
  obtain ⟨f__law_plain, F__law_plain⟩ := d.def_ 7 (d := d__law_plain) rfl
  obtain ⟨f__law_with_one, F__law_with_one⟩ := d.def_ 8 (d := d__law_with_one) rfl
  obtain ⟨f__law_with_two, F__law_with_two⟩ := d.def_ 9 (d := d__law_with_two) rfl
  obtain ⟨f_law, F_law⟩ := d.def_ 10 (d := d_law) rfl
  obtain ⟨f_NoKey, F_NoKey⟩ := d.def_ 11 (d := d_NoKey) rfl
  obtain ⟨f_NoDealing, F_NoDealing⟩ := d.def_ 12 (d := d_NoDealing) rfl
  obtain ⟨f_NoSuch, F_NoSuch⟩ := d.def_ 13 (d := d_NoSuch) rfl
  obtain ⟨f_Taken, F_Taken⟩ := d.def_ 14 (d := d_Taken) rfl
  obtain ⟨f_NoSlot, F_NoSlot⟩ := d.def_ 15 (d := d_NoSlot) rfl
  obtain ⟨f_NoReader, F_NoReader⟩ := d.def_ 16 (d := d_NoReader) rfl
  obtain ⟨f_Ring, F_Ring⟩ := d.def_ 17 (d := d_Ring) rfl
  obtain ⟨f_Clash, F_Clash⟩ := d.def_ 18 (d := d_Clash) rfl
  obtain ⟨f_Late, F_Late⟩ := d.def_ 19 (d := d_Late) rfl
  obtain ⟨f_Undone, F_Undone⟩ := d.def_ 20 (d := d_Undone) rfl
  have g__law_cell_at := He.glo_ok X G (d.fact 0 (f := .glo "_law_cell_at") rfl)
  have g__law_stir := He.glo_ok X G (d.fact 1 (f := .glo "_law_stir") rfl)
  have g__law_well := He.glo_ok X G (d.fact 2 (f := .glo "_law_well") rfl)
  have g__law_draw := He.glo_ok X G (d.fact 3 (f := .glo "_law_draw") rfl)
  have g__law_thing := He.glo_ok X G (d.fact 4 (f := .glo "_law_thing") rfl)
  have g__law_same := He.glo_ok X G (d.fact 5 (f := .glo "_law_same") rfl)
  have g__law_of := He.glo_ok X G (d.fact 6 (f := .glo "_law_of") rfl)
  have g__law_plain := He.glo_ok X G (d.fact 7 (f := .glo "_law_plain") rfl)
  have g__law_with_one := He.glo_ok X G (d.fact 8 (f := .glo "_law_with_one") rfl)
  have g__law_with_two := He.glo_ok X G (d.fact 9 (f := .glo "_law_with_two") rfl)
  have g_law := He.glo_ok X G (d.fact 10 (f := .glo "law") rfl)
  have e := hfa.symm.trans g_law
  cases e
  refine ⟨f_law, fun s v => FunD.bindsA (ps := ["script"]) F_law (fun _ _ _ _ _ _ us hl => match us, hl with | [_], _ => rfl) s [v] rfl, fun base _ _ => ?_⟩
  have z0 := ok__law_cell_at (P := P) (w := w) (base := base) F__law_cell_at g__law_cell_at B
  have z1 := ok__law_stir (P := P) (w := w) (base := base) F__law_stir g__law_stir B
  have z2 := ok__law_well F__law_well g__law_well B z1
  have z3 := ok__law_draw F__law_draw g__law_draw B z1
  have z4 := ok__law_thing F__law_thing g__law_thing B z3
  have z5 := ok__law_same (P := P) (w := w) (base := base) F__law_same g__law_same B
  have z6 := ok__law_of (P := P) (w := w) (base := base) F__law_of g__law_of B T
  have z7 := ok__law_plain F__law_plain g__law_plain B z6 T
  have m_NoKey := ok_NoKey___init__ (P := P) (w := w) (base := base) F_NoKey T
  have m_NoDealing := ok_NoDealing___init__ (P := P) (w := w) (base := base) F_NoDealing T
  have m_NoSuch := ok_NoSuch___init__ (P := P) (w := w) (base := base) F_NoSuch T
  have m_Taken := ok_Taken___init__ (P := P) (w := w) (base := base) F_Taken T
  have m_NoSlot := ok_NoSlot___init__ (P := P) (w := w) (base := base) F_NoSlot T
  have m_NoReader := ok_NoReader___init__ (P := P) (w := w) (base := base) F_NoReader T
  have m_Ring := ok_Ring___init__ (P := P) (w := w) (base := base) F_Ring T
  have m_Clash := ok_Clash___init__ (P := P) (w := w) (base := base) F_Clash T
  have m_Late := ok_Late___init__ (P := P) (w := w) (base := base) F_Late T
  have m_Undone := ok_Undone___init__ (P := P) (w := w) (base := base) F_Undone T
  have z8 := ok__law_with_one F__law_with_one g__law_with_one B z6 z5 T m_NoKey m_NoDealing m_NoSuch m_Taken m_NoSlot m_NoReader m_Ring
  have z9 := ok__law_with_two F__law_with_two g__law_with_two B z6 z5 T m_Clash m_Late m_Undone
  exact ok_law F_law B z0 z2 z3 z4 z7 z8 z9
end K71
open PySem PySem.W PySem.Calls PyProof.Rows
theorem PySem.Challenge.cw_slotkeep_k71_refusals_made_holds : PySem.Challenge.rw_slotkeep_k71_refusals_made.Holds := by
  w_on; o_law
  refine HandSHeadRun.head_any (r := OpenLaw.row PySem.Challenge.rw_slotkeep_k71_refusals_made) (q := view (OpenLaw.row PySem.Challenge.rw_slotkeep_k71_refusals_made).prog [28]) (H := K71.hk) (ob := K71.ob) (M := 20000) (loose := K71.loose) (d := HandSHeadRun.topDef (OpenLaw.row PySem.Challenge.rw_slotkeep_k71_refusals_made).prog 28) (kwd := []) K71.ob_eq
    (by kernel_rfl) (fun s => by kernel_rfl) K71.run (by kernel_rfl) (by kernel_rfl) (by kernel_rfl) (by rfl) (by first | assumption | decide +kernel) (by decide +kernel) ⟨rfl, rfl, rfl, rfl, rfl, by decide +kernel⟩ ?hw ?hc
  case hw => w_witness2
  case hc =>
    refine L2.walk_ofE (l := PySem.Challenge.rw_slotkeep_k71_refusals_made) (n := 63) (k := 6) (x := "script") (CX := L2.CX0) rfl (by decide) (by kernel_rfl) ⟨rfl, by decide, by decide⟩ ?F (fun _ _ _ _ z => z)
    intro w mg fa h Y G hmg0
    obtain ⟨K, KX, c⟩ := Y
    have hmg : mg ("law" : PySem.Str) = some (.ref fa) := by
      have e : (HandSHeadRun.topDef (OpenLaw.row PySem.Challenge.rw_slotkeep_k71_refusals_made).prog 28).name = ("law" : PySem.Str) := by kernel_rfl
      rw [← e]
      exact hmg0
    obtain ⟨fd, hb, hF⟩ := K71.facts (P := (PySem.Challenge.rw_slotkeep_k71_refusals_made).prog) (w := w) KX G hmg c
    exact ⟨K, fd, K71.spLaw K, KX, hb, fun H a ns hl _ hS => ⟨a, ns, rfl, hS, hl, fun _ => rfl⟩, hF⟩
#print axioms PySem.Challenge.cw_slotkeep_k71_refusals_made_holds
