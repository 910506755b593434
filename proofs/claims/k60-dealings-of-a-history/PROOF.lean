import PyProof.Rows.All
import Wide.All
import OpenK.AllK
import Wide.FinOn
import KE.KStateDown
import KE.KExcIs
import HandS.ForMost
import HandS.ForExc
import HandS.Defaults
import HandS.Wide
import HandS.IsInst
import HandS.ExcInit
import HandS.ExcIs
import HandS.ExcField
import HandS.ExcValue
import KE.KUnpackStar
import KE.DataMinMax
import HandS.NoneIn
import HandS.DictComp
import HandS.SortKw
import KE.DatumOrd
import HandS.More
import HandS.Text
import HandS.WordsDict
import HandS.TupAny
import KE.SortData
import KE.KDictSum
import HandS.Conv
import HandS.Set
import HandS.SetFor
import HandS.SetTxt0
import HandS.Words
import HandS.HeadHook1
import HandS.HeadHook2
import HandS.HeadHook3
import HandS.HeadHook4
import HandS.Small
import HandS.Deep
import HandS.Head0
import HandS.Head1
import HandS.Head2
import HandS.HeadEnd
import PySem.Challenge.RW_slotkeep_k60_dealings_of_a_history
set_option Elab.async false
set_option linter.all false
set_option maxRecDepth 100000
set_option maxHeartbeats 4000000
/-! own rules: exceptions of the program's classes, held as values -/
namespace Sk
open PySem PySem.Spec PyProof.Rows L2
/-- number ** k, wide -/
def CPowW (i j : Int) : Prop := 0 ≤ j ∧ (Builtin.Int.intBits i : Int) * j ≤ 2 ^ 27
theorem op_powW {X : Cx} : OpR X (binaryOp .Pow) (rI CPowW fun i j => .int (i ^ j.toNat)) :=
  opI fun _ _ _ _ _ _ _ hc q => pow_int hc.1 hc.2 q
theorem powW_ok {i j : Int} {b : Nat} (hi : i.natAbs < 2 ^ b) (hj : 0 ≤ j) (h : (b : Int) * j ≤ 100000000) : CPowW i j := by
  refine ⟨hj, ?_⟩
  have e : Builtin.Int.intBits i ≤ b := by
    unfold Builtin.Int.intBits
    split
    · omega
    · rename_i h0
      have hz : i.natAbs ≠ 0 := by
        intro z
        apply h0
        simp; omega
      have := (Nat.log2_lt hz).mpr hi
      omega
  have : (Builtin.Int.intBits i : Int) * j ≤ (b : Int) * j := Int.mul_le_mul_of_nonneg_right (by omega) hj
  omega
/-- an exception at a: of the class C, its dict perhaps -/
inductive XoAt (H : Hp) (a C : Addr) : Prop where
  | bare (e : H a = some (exo a C none)) : XoAt H a C
  | full (d : Addr) (fs : List (Str × V)) (e : H a = some (exo a C (some d))) (g : H d = some (exd d fs)) : XoAt H a C
section
variable {X : Cx} {pins : List (Addr × Obj)} {σ : L2.St} {H : Hp} {s : Shared}
theorem xoAt_inst {a C : Addr} (I : Inv X pins σ H s) (h : XoAt H a C) : ∃ ox od, PySem.W.InstAt s.heap a ox C od := by
  cases h with
  | bare e =>
    obtain ⟨t, q⟩ := exo_at I.hok e
    exact ⟨_, none, q, rfl, rfl, True.intro⟩
  | full d fs e g =>
    obtain ⟨t, q⟩ := exo_at I.hok e
    obtain ⟨mA, hns, _⟩ := exd_at I.hok g
    obtain ⟨od, ho, _⟩ := lookIn_ns hns
    exact ⟨_, some od, q, rfl, rfl, ho⟩
end
def rIsO (K : PySem.W.Frag) : List V → Hp → VK → Prop := fun xs H Q => ∃ (a C : Addr) (c : V) (cv : Value) (b : Bool), xs = [.ref a, c] ∧ XoAt H a C ∧ ExcC K C ∧ ClsV c cv ∧ PySem.W.kitOne K (.ref C) cv = some b ∧ Q (.bl b) H
theorem call_isO {X : Cx} : CallR X (.builtin "isinstance") (rIsO X.K) := by
  intro pins s σ H xs us Q I r h
  obtain ⟨a, C, c, cv, b, rfl, ho, T, hc, e, q⟩ := h
  obtain ⟨u1, u2, rfl, r1, r2⟩ := vals2 r
  have e2 := hc.eq r2
  subst e2
  cases (show u1 = Value.ref a from r1)
  obtain ⟨ox, od, J⟩ := xoAt_inst I ho
  obtain ⟨cd, hcl, _⟩ := PySem.W.any_some T.hd
  exact PySem.W.kia_one (PySem.W.kitx_exc (by rw [hcl]; rfl) T.hg T.hk T.hs T.ha T.hn T.ht T.hm) I.kIn J e (fun z => nomatch z) fun tk => ⟨.bl b, H, I.tok tk, rfl, q⟩
/-- e.f of an exception that is held as a value -/
def tXo (K : PySem.W.Frag) (f : Str) (te : TE) : TE := fun σ H Q => te σ H fun x H1 => ∃ (a C d : Addr) (fs : List (Str × V)) (v : V), x = .ref a ∧ XfC K C ∧ PySem.W.findIn K (.ref C) f = some none ∧
  H1 a = some (exo a C (some d)) ∧ H1 d = some (exd d fs) ∧ fs.lookup f = some v ∧ Q v H1
theorem pe_xo {X : Cx} {e : Expr} {te : TE} {pos : Pos} {f : Str} (he : PE X e te) (hb : attributeBase e f X.env (eval e X.env) = eval e X.env := by rfl) : PE X (.Attribute e f pos) (tXo X.K f te) := by
  refine ⟨fun pins s σ H Q I h => ?_⟩
  refine attr_of hb (thn (he.run pins s σ H _ I h) fun u s1 hh => ?_)
  obtain ⟨x, H1, I1, rx, a, C, d, fs, v, ex, T, hno, ea, ed, l, q⟩ := hh
  subst ex
  obtain rfl : u = Value.ref a := rx
  obtain ⟨t, ho⟩ := exo_at I1.hok ea
  obtain ⟨mA, hns, hr⟩ := exd_at I1.hok ed
  obtain ⟨od, hod, hl⟩ := lookIn_ns hns
  obtain ⟨u, hu, ru⟩ := RelO.some_of (v := v) (o := mA f) (by rw [← l]; exact hr f)
  have J : PySem.W.InstAt s1.heap a _ C (some od) := ⟨ho, rfl, rfl, hod⟩
  exact HandSPX.exc_get I1.kIn J T.ga T.gg T.exC (PySem.W.findObj_own T.hdC hno rfl (by rw [hl, hu])) (handed_of ru) ⟨v, H1, I1.tok _, ru, q⟩
/-- C(), C without an __init__ of its own -/
theorem pe_xo0 {X : Cx} {C : Addr} {bmB : List Value} {B newId initId : String} {x : Str} {p pos : Pos} (F : ExcBaseFacts B newId initId bmB) (q : PySem.W.excIn X.K C bmB newId = true) (gC : X.mg x = some (.ref C)) (kC : PySem.W.keepIn X.K (.ref C) = true) (hg : Gl X x)
    (hdb : (x == ("__debug__" : Str)) = false := by decide) :
    PE X (.Call (.Name x p) [] [] pos) (fun _ H Q => ∀ a, H a = none → Q (.ref a) (upd H a (exo a C none))) := by
  refine ⟨fun pins s σ H Q I h => ?_⟩
  refine wpAny_Call_Name_kw (ld_glob I hg gC ?_ hdb)
  refine PySem.W.callWith_K0 I.kIn kC ?_
  obtain ⟨bm, N, nm, qn, bs, hdct, sn, sub, ab, col, dd, k0, k1, k2, k3, k5, mN, hC, hN, hni, T⟩ := exc_obj I.kIn q
  refine wpAny_call_exc_subT F T hC hN hni (fun h' a hm => ?_) (by show 0 ≤ sizeLine; omega)
  have hn : H a = none := I.hok.gone hm.new
  obtain ⟨t, ht, _, _⟩ := hm.there
  exact ⟨.ref a, upd H a (exo a C none), I.laidN hm.keeps hm.new hn (exo_ok ht), rfl, h a hn⟩
/-- C(e, ..), C with an __init__ of its own that keeps sp -/
def tXoM (C : Addr) (sp : Sp) (ta : TA) : TE := fun σ H Q => ta σ H fun vs H1 => vs.length ≤ 1000 ∧ ∀ a, H1 a = none → sp (.ref a :: vs) (upd H1 a (exo a C none)) (fun v H2 => v = .non ∧ Q (.ref a) H2) (fun _ _ _ => False)
theorem pe_xoM {X : Cx} {CX : CXT} {e : Expr} {es : List Expr} {ta : TA} {p pos : Pos} {x : Str} {C fI : Addr} {k : Nat} {fd : FuncData} {ps : List Str} {sp : Sp} (T : OexC X.K C) (iC : PySem.W.findIn X.K (.ref C) "__init__" = some (some (.ref fI))) (tI : PySem.W.typeIn X.K (.ref fI) = some (.type "function"))
    (F1 : FnOk X.prog X.w X.K X.mg X.base CX k fI fd ps sp) (hr : Room (k + 1) X.A) (hb : Binds X.K fd ps []) (hx : Passes CX X (fun _ _ _ => False)) (hg : Gl X x) (hm : X.mg x = some (.ref C)) (ha : PA X (e :: es) ta)
    (hdb : (x == ("__debug__" : Str)) = false := by decide) (he : starEach (e :: es) X.env = (false, eval e X.env) :: starEach es X.env := by rfl) (hpl : (backTo pos (starEach es X.env)).any (·.1) = false := by rfl) :
    PE X (.Call (.Name x p) (e :: es) [] pos) (tXoM C sp ta) := by
  refine ⟨fun pins s σ H Q I h => ?_⟩
  obtain ⟨nm, q, N, bs, bm, sn, sub, ab, col, dd, k0, k1, k2, k3, k5, hC, hbm⟩ := T.cls
  refine wpAny_Call_Name_kw (ld_glob I hg hm ?_ hdb)
  refine PySem.W.callWith_K (h₀ := X.base) I.ok.mod.kin T.kC (thn (ha.run pos pins s σ H _ I h) fun us s1 ⟨vs, H1, I1, r1, hz, q1⟩ => ⟨I1.kIn, ?_⟩) he hpl
  show wpAny _ _ (call (.ref C) us) _ _ _
  obtain ⟨hp, g, dr, tk, os⟩ := s1
  have hsz : hp.objs.size ≤ hp.objs.size + 1 := Nat.le_succ _
  have hn : H1 (hp.objs.size + 1) = none := I1.hok.fresh hsz
  have hq := q1 (hp.objs.size + 1) hn
  have kk : ∀ b o, hp.get? b = some o → ((hp.push (PySem.W.kdv_tup us)).push (PySem.HandSPX.excO C hp.objs.size)).get? b = some o :=
    fun b o e => Heap.get?_push_of_some _ (Heap.get?_push_of_some _ e)
  have hget : ((hp.push (PySem.W.kdv_tup us)).push (PySem.HandSPX.excO C hp.objs.size)).get? (hp.objs.size + 1) = some (PySem.HandSPX.excO C hp.objs.size) := by heap_get
  have I2 := I1.laid (t' := tk) (a := hp.objs.size + 1) (o := exo (hp.objs.size + 1) C none) (h' := (hp.push (PySem.W.kdv_tup us)).push (PySem.HandSPX.excO C hp.objs.size)) kk hsz (exo_ok hget)
  have r2 : Vals (V.ref (hp.objs.size + 1) :: vs) (Value.ref (hp.objs.size + 1) :: us) := .cons rfl r1
  have hl : (Value.ref (hp.objs.size + 1) :: us).length = ps.length := by
    have e := r2.length
    rw [F1.len _ _ _ _ hq] at e
    exact e.symm
  have hus : us.length ≤ sizeLine := by
    rw [← Paired.length r1, sizeLine_eq]
    omega
  have e0 : Value.ref (hp.objs.size + 1) :: us ++ [] = Value.ref (hp.objs.size + 1) :: us := by simp
  have hbb := hb (⟨(hp.push (PySem.W.kdv_tup us)).push (PySem.HandSPX.excO C hp.objs.size), g, dr, tk, os⟩ : Shared) (Value.ref (hp.objs.size + 1) :: us) I2.kIn (by rw [e0]; exact hl)
  rw [e0] at hbb
  refine wpAny_call (PySem.HandSPX.call_own F.excBase_ValueError (fun Y => PySem.HandSPX.refsVE_contains Y bm hbm) (I1.kIn _ _ hC) (PySem.W.looks_findIn I1.kIn iC) (fun self => PySem.W.bind_fn I1.kIn self tI) hus
    (codeAny_mono (F1.run _ X.stack _ _ ⟨Value.ref (hp.objs.size + 1) :: us, []⟩ (Value.ref (hp.objs.size + 1) :: us) _ _ (fun _ _ _ => False) (hr.make C us []) (I2.env0.make C us []) hbb r2 hq) fun r s' hq' => ?_))
  cases r with
  | error er => exact hx pins σ _ _ er s' I2 hq'
  | ok fl =>
    cases fl with
    | ret u =>
      obtain ⟨v, H2, os2, bare2, un2, hok2, rv, ev, q2⟩ := hq'
      subst ev
      obtain ⟨h2, g2, d2, t2, os'⟩ := s'
      refine ⟨rv, .ref (hp.objs.size + 1), H2, ?_, rfl, q2⟩
      exact I2.call' (ch := []) os2 un2 hok2 bare2 (fun b z => absurd z (by simp))
    | next => exact False.elim hq'
    | brk => exact False.elim hq'
    | cont => exact False.elim hq'
end Sk

set_option maxHeartbeats 4000000
/-! bundles of facts; the steps through a reading -/
namespace Sk
open PySem PySem.Spec PyProof.Rows L2
/-- the built-in names are free -/
structure Bas (mg : Str → Option Value) : Prop where
  all : ∀ x ∈ (["len", "range", "isinstance", "min", "max", "sorted", "dict", "list", "any", "all", "sum", "enumerate", "set", "zip", "int", "str", "bool", "tuple", "ValueError"] : List Str), mg x = none
theorem Bas.len {mg : Str → Option Value} (B : Bas mg) : mg "len" = none := B.all _ (by simp)
theorem Bas.range {mg : Str → Option Value} (B : Bas mg) : mg "range" = none := B.all _ (by simp)
theorem Bas.enum {mg : Str → Option Value} (B : Bas mg) : mg "enumerate" = none := B.all _ (by simp)
theorem Bas.dict {mg : Str → Option Value} (B : Bas mg) : mg "dict" = none := B.all _ (by simp)
theorem Bas.sorted {mg : Str → Option Value} (B : Bas mg) : mg "sorted" = none := B.all _ (by simp)
theorem Bas.any {mg : Str → Option Value} (B : Bas mg) : mg "any" = none := B.all _ (by simp)
theorem Bas.lst {mg : Str → Option Value} (B : Bas mg) : mg "list" = none := B.all _ (by simp)
theorem Bas.isi {mg : Str → Option Value} (B : Bas mg) : mg "isinstance" = none := B.all _ (by simp)
theorem Bas.min {mg : Str → Option Value} (B : Bas mg) : mg "min" = none := B.all _ (by simp)
theorem Bas.max {mg : Str → Option Value} (B : Bas mg) : mg "max" = none := B.all _ (by simp)
theorem Bas.int {mg : Str → Option Value} (B : Bas mg) : mg "int" = none := B.all _ (by simp)
theorem Bas.str {mg : Str → Option Value} (B : Bas mg) : mg "str" = none := B.all _ (by simp)
theorem Bas.bool {mg : Str → Option Value} (B : Bas mg) : mg "bool" = none := B.all _ (by simp)
theorem Bas.VE {mg : Str → Option Value} (B : Bas mg) : mg "ValueError" = none := B.all _ (by simp)
/-- a def of the top, called by its name -/
structure Cal (P : Program) (w : World) (K : PySem.W.Frag) (mg : Str → Option Value) (base : Heap) (CX : CXT) (k : Nat) (x : Str) (ps : List Str) (sp : Sp) : Prop where
  ex : ∃ f fd, FnOk P w K mg base CX k f fd ps sp ∧ mg x = some (.ref f) ∧ PySem.W.keepIn K (.ref f) = true ∧ Binds K fd ps []
def tCal (sp : Sp) (E : XK) (t : TA) : TE := fun σ H Q => t σ H fun vs H1 => sp vs H1 Q E
section
variable {X : Cx} {CX : CXT} {k : Nat} {x : Str} {ps : List Str} {sp : Sp} {E : XK} {p pos : Pos} {e : Expr} {es : List Expr} {t : TA}
theorem tCal_nil {sp : Sp} {E : XK} {t : TA} : tCall sp [] E t = tCal sp E t := by
  funext σ H Q
  show t σ H (fun vs H1 => sp (vs ++ []) H1 Q E) = t σ H (fun vs H1 => sp vs H1 Q E)
  simp only [List.append_nil]
theorem pe_cal (c : Cal X.prog X.w X.K X.mg X.base CX k x ps sp) (hr : Room k X.A) (hg : Gl X x) (hx : Passes CX X E) (ha : PA X (e :: es) t)
    (hdb : (x == ("__debug__" : Str)) = false := by decide) (he : starEach (e :: es) X.env = (false, eval e X.env) :: starEach es X.env := by rfl) (hpl : (backTo pos (starEach es X.env)).any (·.1) = false := by rfl) :
    PE X (.Call (.Name x p) (e :: es) [] pos) (tCal sp E t) := by
  obtain ⟨f, fd, F, hm, hk, hb⟩ := c.ex
  rw [← tCal_nil]
  exact pe_call F hr hg hm hk hb .nil hx ha hdb he hpl
theorem pe_cal0 (c : Cal X.prog X.w X.K X.mg X.base CX k x ps sp) (hr : Room k X.A) (hg : Gl X x) (hx : Passes CX X E)
    (hdb : (x == ("__debug__" : Str)) = false := by decide) : PE X (.Call (.Name x p) [] [] pos) (tCal sp E tNil) := by
  obtain ⟨f, fd, F, hm, hk, hb⟩ := c.ex
  rw [← tCal_nil]
  exact pe_call0 F hr hg hm hk hb .nil hx hdb
end
def rLenQ (K : PySem.W.Frag) : List V → Hp → VK → Prop := fun xs H Q => ∃ p ys, xs = [.ref p] ∧ (SqL K H p ys ∨ SqT K H p ys) ∧ Q (.int ys.length) H
theorem call_lenQ {X : Cx} : CallR X (.builtin "len") (rLenQ X.K) := call_len_seq
/-- an exception class with an __init__ that keeps sp -/
structure MkX (P : Program) (w : World) (K : PySem.W.Frag) (mg : Str → Option Value) (base : Heap) (k : Nat) (x : Str) (C : Addr) (ps : List Str) (sp : Sp) : Prop where
  ex : ∃ fI fd, OexC K C ∧ PySem.W.findIn K (.ref C) "__init__" = some (some (.ref fI)) ∧ PySem.W.typeIn K (.ref fI) = some (.type "function") ∧ FnOk P w K mg base CX0 k fI fd ps sp ∧ mg x = some (.ref C) ∧ Binds K fd ps []
theorem pe_mkx {X : Cx} {e : Expr} {es : List Expr} {ta : TA} {p pos : Pos} {x : Str} {C : Addr} {k : Nat} {ps : List Str} {sp : Sp} (m : MkX X.prog X.w X.K X.mg X.base k x C ps sp) (hr : Room (k + 1) X.A) (hg : Gl X x) (ha : PA X (e :: es) ta)
    (hdb : (x == ("__debug__" : Str)) = false := by decide) (he : starEach (e :: es) X.env = (false, eval e X.env) :: starEach es X.env := by rfl) (hpl : (backTo pos (starEach es X.env)).any (·.1) = false := by rfl) :
    PE X (.Call (.Name x p) (e :: es) [] pos) (tXoM C sp ta) := by
  obtain ⟨fI, fd, T, iC, tI, F1, hm, hb⟩ := m.ex
  exact pe_xoM T iC tI F1 hr hb pass0 hg hm ha hdb he hpl
theorem g_xoM {σ : L2.St} {H : Hp} {Q : VK} {C : Addr} {sp : Sp} {ta : TA} (h : ta σ H fun vs H1 => vs.length ≤ 1000 ∧ ∀ a, H1 a = none → sp (.ref a :: vs) (upd H1 a (exo a C none)) (fun v H2 => v = .non ∧ Q (.ref a) H2) (fun _ _ _ => False)) : tXoM C sp ta σ H Q := h
theorem g_xo {σ : L2.St} {H : Hp} {Q : VK} {K : PySem.W.Frag} {f : Str} {te : TE} (h : te σ H fun x H1 => ∃ (a C d : Addr) (fs : List (Str × V)) (v : V), x = .ref a ∧ XfC K C ∧ PySem.W.findIn K (.ref C) f = some none ∧
  H1 a = some (exo a C (some d)) ∧ H1 d = some (exd d fs) ∧ fs.lookup f = some v ∧ Q v H1) : tXo K f te σ H Q := h
theorem g_isO {K : PySem.W.Frag} {H : Hp} {Q : VK} {a C : Addr} {c : V} {cv : Value} {b : Bool} (ho : XoAt H a C) (T : ExcC K C) (hc : ClsV c cv) (e : PySem.W.kitOne K (.ref C) cv = some b) (q : Q (.bl b) H) : rIsO K [.ref a, c] H Q := ⟨a, C, c, cv, b, rfl, ho, T, hc, e, q⟩
theorem g_cat {H : Hp} {Q : VK} {l b : Addr} {xs zs : List V} (hl : H l = some (.lst xs)) (hb : H b = some (.lst zs)) (hz : xs.length + zs.length ≤ sizeLine) (q : ∀ p, H p = none → Q (.ref p) (upd H p (.lst (xs ++ zs)))) : rCat (.ref l) (.ref b) H Q := ⟨l, b, xs, zs, rfl, rfl, hl, hb, hz, q⟩
theorem g_ost {K : PySem.W.Frag} {σ : L2.St} {H : Hp} {D : Ends} {f : Str} {to te : TE} (h : te σ H fun y H1 => to σ H1 fun x H2 => ∃ a C : Addr, x = .ref a ∧ OexC K C ∧ PySem.W.findIn K (.ref C) f = some none ∧
  ((H2 a = some (exo a C none) ∧ ∀ dx, H2 dx = none → dx ≠ a → D.nx σ (upd (upd H2 dx (exd dx [(f, y)])) a (exo a C (some dx)))) ∨
    ∃ (dx : Addr) (fs : List (Str × V)), H2 a = some (exo a C (some dx)) ∧ H2 dx = some (exd dx fs) ∧ fs.length ≤ 900 ∧ D.nx σ (upd H2 dx (exd dx ((f, y) :: fs))))) : tOst K f to te D σ H := h
theorem XoAt.same {H H' : Hp} {a C : Addr} (h : XoAt H a C) (s : Same H H') : XoAt H' a C := by
  cases h with
  | bare e => exact .bare (s _ _ e)
  | full d fs e g => exact .full d fs (s _ _ e) (s _ _ g)
theorem same_new {H : Hp} {p : Addr} {o : HO} (h : H p = none) : Same H (upd H p o) := fun b u e => by rw [upd_ne (ne_of_none e h)]; exact e
def NewT (xs : List V) (H : Hp) (Q : VK) : Prop := xs.length ≤ sizeLine ∧ ∀ p, H p = none → Q (.ref p) (upd H p (.tup xs))
def NewL (xs : List V) (H : Hp) (Q : VK) : Prop := xs.length ≤ sizeLine ∧ ∀ p, H p = none → Q (.ref p) (upd H p (.lst xs))
theorem pe_gref {X : Cx} {x : Str} {a : Addr} {pos : Pos} (hg : Gl X x) (hm : X.mg x = some (.ref a)) (hd : (x == ("__debug__" : Str)) = false := by decide) : PE X (.Name x pos) (tC (.ref a)) := pe_glob (v := .ref a) hg hm rfl hd
theorem ix_lK {X : Cx} (K : PySem.W.Frag) (h : X.K = K) : IxR X (rIxL K) := h ▸ ix_list
theorem ix_tK {X : Cx} (K : PySem.W.Frag) (h : X.K = K) : IxR X (rIxT K) := h ▸ ix_tup
/-! ### steps -/
section
variable {K : PySem.W.Frag} {σ : L2.St} {H : Hp} {Q : VK} {D : Ends} {t u : TS} {te ta tb : TE}
theorem g_seq (h : t { D with nx := u D } σ H) : tSeq t u D σ H := h
theorem g_asg {g : TG} (h : te σ H fun x H1 => g x σ H1 D.nx) : tAsg te g D σ H := h
theorem g_name {i : Nat} {v : V} {R : L2.St → Hp → Prop} (h : R (σ.set i (some v)) H) : gName i v σ H R := h
theorem g_next (h : D.nx σ H) : tNext D σ H := h
theorem g_brk (h : D.bk σ H) : tBreak D σ H := h
theorem g_cont (h : D.ct σ H) : tCont D σ H := h
theorem g_drop (h : te σ H fun _ H1 => D.nx σ H1) : tDrop te D σ H := h
theorem g_ret (h : te σ H D.rt) : tRet te D σ H := h
theorem g_retN (h : D.rt .non H) : tRetN D σ H := h
theorem g_ifS {c : TT} (h : c σ H fun b H1 => if b = true then t D σ H1 else u D σ H1) : tIfS c t u D σ H := h
theorem g_var {i : Nat} {v : V} (e : σ[i]? = some (some v)) (h : Q v H) : tVar i σ H Q := ⟨v, e, h⟩
theorem g_c {v : V} (h : Q v H) : tC v σ H Q := h
theorem g_op {r : R2} (h : ta σ H fun x H1 => tb σ H1 fun y H2 => r x y H2 Q) : tOp r ta tb σ H Q := h
theorem g_un {r : V → Hp → VK → Prop} (h : ta σ H fun x H1 => r x H1 Q) : tUn r ta σ H Q := h
theorem g_I {C : Int → Int → Prop} {g : Int → Int → V} {i j : Int} (c : C i j) (h : Q (g i j) H) : rI C g (.int i) (.int j) H Q := ⟨i, j, rfl, rfl, c, h⟩
theorem g_I0 {g : Int → Int → V} {i j : Int} (h : Q (g i j) H) : rI0 g (.int i) (.int j) H Q := ⟨i, j, rfl, rfl, h⟩
theorem g_add {i j : Int} (h : Q (.int (i + j)) H) : L2.rAdd (.int i) (.int j) H Q := ⟨i, j, rfl, rfl, h⟩
theorem g_sub {i j : Int} (h : Q (.int (i - j)) H) : L2.rSub (.int i) (.int j) H Q := ⟨i, j, rfl, rfl, h⟩
theorem g_eq {x y : V} (e : scal x y = true) (h : Q (.bl (decide (x = y))) H) : rEq x y H Q := ⟨e, h⟩
theorem g_ne {x y : V} (e : scal x y = true) (h : Q (.bl (!decide (x = y))) H) : rNe x y H Q := ⟨e, h⟩
theorem g_nil {R : List V → Hp → Prop} (h : R [] H) : tNil σ H R := h
theorem g_cons {tr : TA} {R : List V → Hp → Prop} (h : ta σ H fun x H1 => tr σ H1 fun xs H2 => R (x :: xs) H2) : tCons ta tr σ H R := h
theorem g_tup {t : TA} (h : t σ H fun xs H1 => NewT xs H1 Q) : tTup t σ H Q := h
theorem g_lst {t : TA} (h : t σ H fun xs H1 => NewL xs H1 Q) : tLst t σ H Q := h
theorem g_cal {sp : Sp} {E : XK} {t : TA} (h : t σ H fun vs H1 => sp vs H1 Q E) : tCal sp E t σ H Q := h
theorem g_CB {r : List V → Hp → VK → Prop} {t : TA} (h : t σ H fun vs H1 => r vs H1 Q) : tCB r t σ H Q := h
theorem g_test {R : Bool → Hp → Prop} (h : te σ H fun x H1 => ∃ k, x = .bl k ∧ R k H1) : tTest te σ H R := h
theorem g_B {R : Bool → Hp → Prop} (h : te σ H fun x H1 => ∃ k, x = .bl k ∧ R k H1) : tB te σ H R := h
theorem g_and {t u : TT} {R : Bool → Hp → Prop} (h : t σ H fun c H1 => if c = true then u σ H1 R else R false H1) : tAnd t u σ H R := h
theorem g_or {t u : TT} {R : Bool → Hp → Prop} (h : t σ H fun c H1 => if c = true then R true H1 else u σ H1 R) : tOr t u σ H R := h
theorem g_not {t : TT} {R : Bool → Hp → Prop} (h : t σ H fun c H1 => R (!c) H1) : tNot t σ H R := h
theorem g_andV (h : ta σ H fun x H1 => ∃ c, x = .bl c ∧ if c = true then tb σ H1 Q else Q (.bl false) H1) : tAndV ta tb σ H Q := h
theorem g_orV (h : ta σ H fun x H1 => ∃ c, x = .bl c ∧ if c = true then Q (.bl true) H1 else tb σ H1 Q) : tOrV ta tb σ H Q := h
theorem g_notV (h : ta σ H fun x H1 => ∃ c, x = .bl c ∧ Q (.bl (!c)) H1) : tNotV ta σ H Q := h
theorem g_if {t : TT} (h : t σ H fun c H1 => if c = true then ta σ H1 Q else tb σ H1 Q) : tIf t ta tb σ H Q := h
theorem g_bl {c : Bool} {R : Bool → Prop} (h : R c) : ∃ k, V.bl c = V.bl k ∧ R k := ⟨c, rfl, h⟩
theorem g_ixL {p : Addr} {xs : List V} {i : Int} {v : V} (h : H p = some (.lst xs)) (a : atI xs i = some v) (q : Q v H) : rIxL K (.ref p) (.int i) H Q := ⟨p, xs, i, v, rfl, rfl, SqL.of h, a, q⟩
theorem g_ixT {p : Addr} {xs : List V} {i : Int} {v : V} (h : H p = some (.tup xs)) (a : atI xs i = some v) (q : Q v H) : rIxT K (.ref p) (.int i) H Q := ⟨p, xs, i, v, rfl, rfl, SqT.of h, a, q⟩
theorem g_gSub {to ti : TE} {ts : TSet} {v : V} {R : L2.St → Hp → Prop} (h : to σ H fun o H1 => ti σ H1 fun i H2 => ts o i v H2 fun H3 => R σ H3) : gSub to ti ts v σ H R := h
theorem g_setL {p : Addr} {xs : List V} {k : Int} {j : Nat} {v : V} {R : Hp → Prop} (h : H p = some (.lst xs)) (a : ixN xs.length k = some j) (q : R (upd H p (.lst (xs.set j v)))) : rSetL (.ref p) (.int k) v H R := ⟨p, xs, k, j, rfl, rfl, h, a, q⟩
end
end Sk
namespace Sk
open PySem PySem.Spec PyProof.Rows L2
section
variable {K : PySem.W.Frag} {σ : L2.St} {H : Hp} {Q : VK}
theorem g_tup' {xs : List V} (l : xs.length ≤ sizeLine) (h : ∀ p, H p = none → Q (.ref p) (upd H p (.tup xs))) : NewT xs H Q := ⟨l, h⟩
theorem g_len {p : Addr} {ys : List V} (h : SqL K H p ys ∨ SqT K H p ys) (q : Q (.int ys.length) H) : rLenQ K [V.ref p] H Q := ⟨p, ys, rfl, h, q⟩
theorem g_ixLs {p : Addr} {xs : List V} {i : Int} {v : V} (h : SqL K H p xs) (a : atI xs i = some v) (q : Q v H) : rIxL K (.ref p) (.int i) H Q := ⟨p, xs, i, v, rfl, rfl, h, a, q⟩
theorem g_lst' {xs : List V} (l : xs.length ≤ sizeLine) (h : ∀ p, H p = none → Q (.ref p) (upd H p (.lst xs))) : NewL xs H Q := ⟨l, h⟩
theorem g_true {A B : Prop} (h : A) : if true = true then A else B := by rw [if_pos rfl]; exact h
theorem g_false {A B : Prop} (h : B) : if false = true then A else B := by rw [if_neg Bool.false_ne_true]; exact h
end
theorem g_chain {σ : L2.St} {H : Hp} {Q : VK} {r r' : R2} {ta tb tc : TE} (h : ta σ H fun x H1 => tb σ H1 fun y H2 => r x y H2 fun z H3 => ∃ k, z = .bl k ∧ (if k = true then tc σ H3 fun w' H4 => r' y w' H4 Q else Q (.bl false) H3)) : tChain r r' ta tb tc σ H Q := h
theorem g_ntrue {A B : Prop} (h : B) : if (!true) = true then A else B := g_false h
theorem g_nfalse {A B : Prop} (h : A) : if (!false) = true then A else B := g_true h
theorem g_dec {c A B : Prop} [Decidable c] (h1 : c → A) (h2 : ¬ c → B) : if decide c = true then A else B := by
  by_cases h : c
  · rw [decide_eq_true h, if_pos rfl]; exact h1 h
  · rw [decide_eq_false h, if_neg Bool.false_ne_true]; exact h2 h
theorem g_ndec {c A B : Prop} [Decidable c] (h1 : c → B) (h2 : ¬ c → A) : if (!decide c) = true then A else B := by
  by_cases h : c
  · rw [decide_eq_true h]; exact g_false (h1 h)
  · rw [decide_eq_false h]; exact g_true (h2 h)
theorem g_bool {c : Bool} {A B : Prop} (h1 : c = true → A) (h2 : c = false → B) : if c = true then A else B := by
  cases c with
  | true => exact g_true (h1 rfl)
  | false => exact g_false (h2 rfl)
theorem cmul {i j : Int} {a b : Nat} (ha : i.natAbs < 2 ^ a) (hb : j.natAbs < 2 ^ b) (h0 : 0 < a := by decide) (h1 : 0 < b := by decide) (h : a + b ≤ 1000000 := by decide) : CMulW i j := wide_mul ha hb h0 h1 h
theorem g_newL {xs : List V} {H : Hp} {Q : VK} (l : xs.length ≤ sizeLine) (h : ∀ p H', H p = none → Same H H' → H' p = some (.lst xs) → Q (.ref p) H') : NewL xs H Q := ⟨l, fun p hp => h p _ hp (same_new hp) upd_same⟩
theorem g_newT {xs : List V} {H : Hp} {Q : VK} (l : xs.length ≤ sizeLine) (h : ∀ p H', H p = none → Same H H' → H' p = some (.tup xs) → Q (.ref p) H') : NewT xs H Q := ⟨l, fun p hp => h p _ hp (same_new hp) upd_same⟩
theorem g_newC {l b : Addr} {xs zs : List V} {H : Hp} {Q : VK} (hl : H l = some (.lst xs)) (hb : H b = some (.lst zs)) (hz : xs.length + zs.length ≤ sizeLine) (h : ∀ p H', H p = none → Same H H' → H' p = some (.lst (xs ++ zs)) → Q (.ref p) H') : rCat (.ref l) (.ref b) H Q := g_cat hl hb hz fun p hp => h p _ hp (same_new hp) upd_same
theorem g_yes {c A B : Prop} [Decidable c] (h : c) (q : A) : if decide c = true then A else B := by rw [decide_eq_true h]; exact g_true q
theorem g_no {c A B : Prop} [Decidable c] (h : ¬ c) (q : B) : if decide c = true then A else B := by rw [decide_eq_false h]; exact g_false q
theorem g_nyes {c A B : Prop} [Decidable c] (h : c) (q : B) : if (!decide c) = true then A else B := by rw [decide_eq_true h]; exact g_false q
theorem g_nno {c A B : Prop} [Decidable c] (h : ¬ c) (q : A) : if (!decide c) = true then A else B := by rw [decide_eq_false h]; exact g_true q
/-! ### loops -/
def FB (J : It) (g : TG) (tb : TS) (D : Ends) (σ : L2.St) (H1 : Hp) : Prop := ∃ W : Nat → Nat → L2.St → Hp → Prop, (∃ m, W 0 m σ H1) ∧ ∀ i m σ H, W i m σ H →
  (J.stop i H ∧ D.nx σ H) ∨ (J.go i H ∧ ∃ N : L2.St → Hp → Prop, (∀ σ' H', N σ' H' → ∃ m', m' < m ∧ W (i + 1) m' σ' H') ∧ ∀ x H', J.yld i H x H' → g x σ H' fun σ2 H2 => tb { D with nx := N, ct := N, bk := D.nx } σ2 H2)
def ForR1 (g : TG) (tb : TS) (D : Ends) (σ : L2.St) : List V → Hp → Prop := fun vs H => ∃ j : Int, vs = [.int j] ∧ -(2 ^ 62) ≤ j ∧ j < 2 ^ 62 ∧ FB (Itr 0 j.toNat) g tb D σ H
def ForR2 (g : TG) (tb : TS) (D : Ends) (σ : L2.St) : List V → Hp → Prop := fun vs H => ∃ i j : Int, vs = [.int i, .int j] ∧ (-(2 ^ 62) ≤ i ∧ i < 2 ^ 62 ∧ -(2 ^ 62) ≤ j ∧ j < 2 ^ 62) ∧ FB (Itr i (j - i).toNat) g tb D σ H
def ForL (K : PySem.W.Frag) (g : TG) (tb : TS) (D : Ends) (σ : L2.St) : V → Hp → Prop := fun x H => ∃ a, x = .ref a ∧ (∃ xs, SqL K H a xs) ∧ FB (Itl K a) g tb D σ H
def ForT (K : PySem.W.Frag) (g : TG) (tb : TS) (D : Ends) (σ : L2.St) : V → Hp → Prop := fun x H => ∃ a, x = .ref a ∧ (∃ xs, SqT K H a xs) ∧ FB (Itt K a) g tb D σ H
section
variable {K : PySem.W.Frag} {σ : L2.St} {H : Hp} {D : Ends} {g : TG} {tb : TS} {ta : TA} {tl : TE}
theorem g_forR1 (h : ta σ H fun vs H1 => ForR1 g tb D σ vs H1) : tFor (iRng1 ta) g tb D σ H := h
theorem g_forR2 (h : ta σ H fun vs H1 => ForR2 g tb D σ vs H1) : tFor (iRng2 ta) g tb D σ H := h
theorem g_forL (h : tl σ H fun x H1 => ForL K g tb D σ x H1) : tFor (iList K tl) g tb D σ H := h
theorem g_forT (h : tl σ H fun x H1 => ForT K g tb D σ x H1) : tFor (iTup K tl) g tb D σ H := h
theorem forR1_by {n : Nat} {j : Int} (e : j = (n : Int)) (hn : n ≤ 100000) (Pv : Nat → L2.St → Hp → Prop) (h0 : Pv 0 σ H)
    (hs : ∀ (i : Nat) σ' H', i < n → Pv i σ' H' → g (.int (i : Int)) σ' H' fun σ2 H2 => tb { D with nx := Pv (i + 1), ct := Pv (i + 1), bk := D.nx } σ2 H2) (hd : ∀ σ' H', Pv n σ' H' → D.nx σ' H') : ForR1 g tb D σ [.int j] H := by
  subst e
  refine ⟨(n : Int), rfl, by omega, by omega, ?_⟩
  rw [Int.toNat_natCast]
  refine for_range (lo := 0) (n := n) Pv h0 (fun i σ' H' hi p => ?_) hd
  rw [Int.zero_add]
  exact hs i σ' H' hi p
theorem forR2_by {lo n : Nat} {i j : Int} (e1 : i = (lo : Int)) (e2 : j = (n : Int)) (hl : lo ≤ 100000) (hn : n ≤ 100000) (Pv : Nat → L2.St → Hp → Prop) (h0 : Pv 0 σ H)
    (hs : ∀ (k : Nat) σ' H', lo + k < n → Pv k σ' H' → g (.int ((lo + k : Nat) : Int)) σ' H' fun σ2 H2 => tb { D with nx := Pv (k + 1), ct := Pv (k + 1), bk := D.nx } σ2 H2) (hd : ∀ σ' H', Pv (n - lo) σ' H' → D.nx σ' H') : ForR2 g tb D σ [.int i, .int j] H := by
  subst e1 e2
  refine ⟨(lo : Int), (n : Int), rfl, ⟨by omega, by omega, by omega, by omega⟩, ?_⟩
  have en : ((n : Int) - (lo : Int)).toNat = n - lo := by omega
  rw [en]
  refine for_range (lo := (lo : Int)) (n := n - lo) Pv h0 (fun k σ' H' hk p => ?_) hd
  have ek : (lo : Int) + (k : Int) = ((lo + k : Nat) : Int) := by omega
  rw [ek]
  exact hs k σ' H' (by omega) p
theorem forL_by {a : Addr} {xs : List V} (hx : SqL K H a xs) (Pv : Nat → L2.St → Hp → Prop) (h0 : Pv 0 σ H) (hl : ∀ i σ' H', i ≤ xs.length → Pv i σ' H' → SqL K H' a xs)
    (hs : ∀ (i : Nat) x σ' H', xs[i]? = some x → Pv i σ' H' → g x σ' H' fun σ2 H2 => tb { D with nx := Pv (i + 1), ct := Pv (i + 1), bk := D.nx } σ2 H2) (hd : ∀ σ' H', Pv xs.length σ' H' → D.nx σ' H') : ForL K g tb D σ (.ref a) H :=
  ⟨a, rfl, ⟨xs, hx⟩, for_list Pv h0 hl hs hd⟩
theorem forT_by {a : Addr} {xs : List V} (hx : SqT K H a xs) (Pv : Nat → L2.St → Hp → Prop) (h0 : Pv 0 σ H) (hl : ∀ i σ' H', i ≤ xs.length → Pv i σ' H' → SqT K H' a xs)
    (hs : ∀ (i : Nat) x σ' H', xs[i]? = some x → Pv i σ' H' → g x σ' H' fun σ2 H2 => tb { D with nx := Pv (i + 1), ct := Pv (i + 1), bk := D.nx } σ2 H2) (hd : ∀ σ' H', Pv xs.length σ' H' → D.nx σ' H') : ForT K g tb D σ (.ref a) H :=
  ⟨a, rfl, ⟨xs, hx⟩, for_tup Pv h0 hl hs hd⟩
end
def rMax2Q : List V → Hp → VK → Prop := fun xs H Q => ∃ i j, xs = [.int i, .int j] ∧ Q (.int (if j > i then j else i)) H
def rMin2Q : List V → Hp → VK → Prop := fun xs H Q => ∃ i j, xs = [.int i, .int j] ∧ Q (.int (if j < i then j else i)) H
theorem call_max2Q {X : Cx} (hc : X.calm = true) : CallR X (.builtin "max") rMax2Q := call_max2 hc
theorem call_min2Q {X : Cx} (hc : X.calm = true) : CallR X (.builtin "min") rMin2Q := call_min2 hc
theorem g_max2 {H : Hp} {Q : VK} {i j : Int} (q : Q (.int (if j > i then j else i)) H) : rMax2Q [.int i, .int j] H Q := ⟨i, j, rfl, q⟩
theorem g_min2 {H : Hp} {Q : VK} {i j : Int} (q : Q (.int (if j < i then j else i)) H) : rMin2Q [.int i, .int j] H Q := ⟨i, j, rfl, q⟩
theorem sz {n : Nat} (h : n ≤ 1000 := by decide) : n ≤ sizeLine := Nat.le_trans h (by rw [sizeLine_eq]; decide)
end Sk

set_option maxHeartbeats 4000000
/-! own rules: a, *b = t; f[k](e ..) -/
namespace Sk
open PySem PySem.Spec PyProof.Rows L2
section
variable {prog : Program} {w : World} {A : Around} {E : Value → Shared → Prop} {s : Shared}
/-- the first item, and a new list of the others -/
theorem unpack_one_star {t : Addr} {items : Array Value} {targets : List (Bool × (Value → Sem Unit))} {Q : Unit → Shared → Prop} (hh : A.handled = none) (hl : IsTup s.heap t items) (h1 : 1 ≤ items.size) (hz : items.size ≤ 16384)
    (hn : targets.length = 2) (hstar : targets.findIdx? (·.1) = some 1)
    (h : ∀ (h' : Heap) (tk : Nat), (∀ b o, b ≠ s.heap.objs.size → s.heap.get? b = some o → h'.get? b = some o) →
      wpAny (model prog w) A (assignInOrder (targets.map (·.2)) (items.toList.take 1 ++ [.ref h'.objs.size])) Q E { s with heap := h'.push { cls := .type "list", data := .seq (items.toList.drop 1).toArray }, toks := tk }) :
    wpAny (model prog w) A (unpack (.ref t) targets) Q E s := by
  have hlt : t ≠ s.heap.objs.size := by obtain ⟨o, ho, _⟩ := hl; exact Nat.ne_of_lt (Heap.lt_size ho)
  unfold unpack
  rw [hn, hstar]
  refine wpAny_bind (wpAny_holding ?_)
  unfold unpackItems
  refine wpAny_bind ?_
  unfold notIterableAtAll
  refine wpAny_bind (wpAny_specialOf hl.typeIs slot_tuple_iter.lookup ?_)
  refine wpAny_pure ?_
  simp only [Bool.false_eq_true, if_false]
  refine wpAny_bind (wpAny_holding (iter_tuple hl ?_))
  refine wpAny_bind (wpAny_holding (draw_tuple hlt 1 0 _ _ ⟨_, Heap.get?_push_size _ rfl, rfl, rfl⟩ (hl.push _) (by omega) fun h₁ hit₁ hs₁ => ?_))
  have hl₁ : IsTup h₁ t items := (hl.push _).extBut hs₁.extBut hlt
  rw [Nat.zero_add] at hit₁
  have hit₁' := hit₁
  obtain ⟨oi, hoi, _⟩ := hit₁'
  have hl₁' := hl₁
  obtain ⟨ol, hol, _⟩ := hl₁'
  rw [List.drop_zero]
  have hfl : (items.toList.take 1).length = 1 := by rw [List.length_take, Array.length_toList]; omega
  rw [if_neg (show ¬ ((items.toList.take 1).length < 1) by rw [hfl]; omega)]
  refine wpAny_bind (wpAny_holding (PySem.W.kun_collect (s := { s with heap := h₁ }) (T := "tuple_iterator") (.inr (.inr (.inr rfl))) (Walks.tuple (A := A.in1) hh s.heap.objs.size t hlt items) (fun j u st => st.1.typeIs) (k := 1) h1 ⟨hit₁, hl₁⟩ (Heap.lt_size hoi) (Heap.lt_size hol) (fun h₂ tk hk => ?_) (by rw [sizeLine_eq]; omega)))
  have hrl : (items.toList.drop 1).length = items.size - 1 := by rw [List.length_drop, Array.length_toList]
  show wpAny _ _ (if (items.toList.drop 1).length < 2 - 1 - 1 then _ else _) _ _ _
  rw [if_neg (by omega)]
  show wpAny _ _ (newList ((items.toList.drop 1).take ((items.toList.drop 1).length - (2 - 1 - 1))) >>= fun d => pure (items.toList.take 1 ++ [d] ++ (items.toList.drop 1).drop ((items.toList.drop 1).length - (2 - 1 - 1)))) _ _ _
  have e1 : (items.toList.drop 1).take ((items.toList.drop 1).length - (2 - 1 - 1)) = items.toList.drop 1 := List.take_of_length_le (by omega)
  have e2 : (items.toList.drop 1).drop ((items.toList.drop 1).length - (2 - 1 - 1)) = [] := List.drop_of_length_le (by omega)
  rw [e1, e2]
  have he : ∀ b o, b ≠ s.heap.objs.size → s.heap.get? b = some o → h₂.get? b = some o := fun b o hb e => hk b o hb (hs₁.extBut b o hb (Heap.get?_push_of_some _ e))
  exact wpAny_bind (wpAny_newList (wpAny_pure (by rw [List.append_nil]; exact h h₂ tk he)) (by rw [hrl, sizeLine_eq]; omega))
end
/-- x, *r = a tuple: x its first item, r a new list of the others -/
def gStar (K : PySem.W.Frag) (t : TGs) : TG := fun v σ H Q => ∃ a x xs, v = .ref a ∧ SqT K H a (x :: xs) ∧ xs.length ≤ 16000 ∧ ∀ p, H p = none → t [x, .ref p] σ (upd H p (.lst xs)) Q
section
variable {X : Cx}
theorem pg_star {e1 e2 : Expr} {k : Nat} {p1 pos : Pos} {t : TGs} (hc : X.calm = true) (h : PGs X [e1, e2] t)
    (hn : (assignEach [e1, .Starred e2 p1] X.env).map (·.2) = (assignEach [e1, e2] X.env).map (·.2) := by rfl) (hl : (assignEach [e1, .Starred e2 p1] X.env).length = 2 := by rfl) (hst : (assignEach [e1, .Starred e2 p1] X.env).findIdx? (·.1) = some 1 := by rfl) :
    PG X (.Tuple [e1, .Starred e2 p1] k pos) (gStar X.K t) := by
  refine ⟨fun pins s σ H v u Q I r hw => ?_⟩
  obtain ⟨a, x, xs, e1, hq, hz, hw⟩ := hw
  subst e1
  cases r
  obtain ⟨its, rv, ht, hz2⟩ := I.tuple hq
  cases rv with
  | cons rx rr =>
    rename_i u us
    rw [PyProof.Rows.assign_Tuple]
    refine wpAny_bind (wpAny_standAt ?_)
    have hsz : (u :: us).toArray.size = us.length + 1 := by simp
    have hlu : us.length = xs.length := (Paired.length rr).symm
    refine unpack_one_star (I.ok.hd hc) ht (by rw [hsz]; omega) (by rw [hsz]; omega) hl hst fun h' tk hk => ?_
    rw [hn]
    have n1 : s.heap.get? h'.objs.size = none := by
      cases e : s.heap.get? h'.objs.size with
      | none => rfl
      | some o =>
        by_cases hb : h'.objs.size = s.heap.objs.size
        · rw [hb] at e
          exact absurd (Heap.lt_size e) (Nat.lt_irrefl _)
        · exact absurd (Heap.lt_size (hk _ _ hb e)) (Nat.lt_irrefl _)
    have keep : ∀ b o, s.heap.get? b = some o → (h'.push { cls := .type "list", data := .seq ((u :: us).toArray.toList.drop 1).toArray }).get? b = some o := fun b o e =>
      Heap.get?_push_of_some _ (hk b o (Nat.ne_of_lt (Heap.lt_size e)) e)
    have hn0 : H h'.objs.size = none := I.hok.gone n1
    have J := I.laidN (t' := tk) (o := .lst xs) keep n1 hn0 ⟨by rw [sizeLine_eq]; omega, us, 0, rr, by simpa using Heap.get?_push_size _ rfl⟩
    exact h.run pins _ σ _ [x, .ref h'.objs.size] _ Q J (.cons rx (.cons rfl .nil)) (hw _ hn0)
/-- what a def keeps, called by its value -/
structure Hel (P : Program) (w : World) (K : PySem.W.Frag) (mg : Str → Option Value) (base : Heap) (CX : CXT) (k : Nat) (f : Addr) (sp : Sp) : Prop where
  ex : ∃ fd ps, FnOk P w K mg base CX k f fd ps sp ∧ PySem.W.keepIn K (.ref f) = true ∧ Binds K fd ps []
def tCalV (S : Addr → Option Sp) (E : XK) (tf : TE) (t : TA) : TE := fun σ H Q => tf σ H fun x H1 => ∃ f sp, x = .ref f ∧ S f = some sp ∧ t σ H1 fun vs H2 => sp vs H2 Q E
/-- f[k](e, ..), f[k] one of several defs -/
theorem pe_calSub {CX : CXT} {k : Nat} {S : Addr → Option Sp} {E : XK} {a b e : Expr} {es : List Expr} {ap pos : Pos} {tf : TE} {t : TA} (A : ∀ f sp, S f = some sp → Hel X.prog X.w X.K X.mg X.base CX k f sp) (hr : Room k X.A) (hx : Passes CX X E) (hf : PE X (.Subscript a b ap) tf) (ha : PA X (e :: es) t)
    (he : starEach (e :: es) X.env = (false, eval e X.env) :: starEach es X.env := by rfl) (hpl : (backTo pos (starEach es X.env)).any (·.1) = false := by rfl) :
    PE X (.Call (.Subscript a b ap) (e :: es) [] pos) (tCalV S E tf t) := by
  refine ⟨fun pins s σ H Q I h => ?_⟩
  have ec : eval (.Call (.Subscript a b ap) (e :: es) [] pos) X.env = (do callWith pos (← eval (.Subscript a b ap) X.env) [] (backTo pos (starEach (e :: es) X.env)) (backToKw pos (keywordEach [] X.env))) := rfl
  rw [ec]
  refine wpAny_bind (thn (hf.run pins s σ H _ I h) fun u s1 ⟨v, H1, I1, r1, f, sp, ev, hS, q1⟩ => ?_)
  subst ev
  cases r1
  obtain ⟨fd, ps, F, hk, hb⟩ := (A f sp hS).ex
  refine PySem.W.callWith_K (h₀ := X.base) I.ok.mod.kin hk (thn (ha.run pos pins s1 σ H1 _ I1 q1) fun us s2 ⟨vs, H2, I2, r2, q2⟩ => ⟨I2.kIn, ?_⟩) he hpl
  have h2 := run_fn (ds := []) (dvs := []) (E := E) (Q := Q) (us := us) (vs := vs) F hr hb .nil hx I2 r2 (by rw [List.append_nil]; exact q2)
  exact h2
end
end Sk

set_option maxHeartbeats 4000000
/-! own rules: max(xs, default=d) of ints -/
namespace Sk
open PySem PySem.Spec PyProof.Rows L2
def rMaxDf (K : PySem.W.Frag) : List V → List V → Hp → VK → Prop := fun xs zs H Q => ∃ (a : Addr) (ns : List Int) (d : V), xs = [.ref a] ∧ zs = [d] ∧ SqL K H a (ns.map V.int) ∧ (ns = [] → Q d H) ∧ (∀ m, m ∈ ns → (∀ y ∈ ns, y ≤ m) → Q (.int m) H)
theorem dp_ints {K : PySem.W.Frag} {H : Hp} : ∀ ns : List Int, DpAll K H (ns.map V.int) (ns.map PyData.int)
  | [] => .nil
  | n :: r => .cons (.int n) (dp_ints r)
theorem maxOf_ge : ∀ (ys : List Int) (y : Int), y ≤ PySem.W.maxOf y ys ∧ (∀ z ∈ ys, z ≤ PySem.W.maxOf y ys) ∧ (PySem.W.maxOf y ys = y ∨ PySem.W.maxOf y ys ∈ ys)
  | [], y => ⟨Int.le_refl _, fun z hz => absurd hz (by simp), .inl rfl⟩
  | z :: r, y => by
    have e : PySem.W.maxOf y (z :: r) = PySem.W.maxOf (if PySem.W.DatumOrd.lt y z = true then z else y) r := rfl
    rw [e]
    have hl : PySem.W.DatumOrd.lt y z = decide (y < z) := rfl
    rw [hl]
    obtain ⟨h1, h2, h3⟩ := maxOf_ge r (if decide (y < z) = true then z else y)
    by_cases c : y < z
    · rw [decide_eq_true c, if_pos rfl] at h1 h2 h3 ⊢
      refine ⟨by omega, fun x hx => ?_, ?_⟩
      · rcases List.mem_cons.mp hx with rfl | hx
        · exact h1
        · exact h2 x hx
      · rcases h3 with h3 | h3
        · exact .inr (by rw [h3]; exact List.mem_cons_self)
        · exact .inr (List.mem_cons_of_mem _ h3)
    · rw [decide_eq_false c, if_neg Bool.false_ne_true] at h1 h2 h3 ⊢
      refine ⟨h1, fun x hx => ?_, ?_⟩
      · rcases List.mem_cons.mp hx with rfl | hx
        · omega
        · exact h2 x hx
      · rcases h3 with h3 | h3
        · exact .inl h3
        · exact .inr (List.mem_cons_of_mem _ h3)
theorem call_maxDf {X : Cx} (hc : X.calm = true) (hu : X.A.units + 64 < cLine) : CallRK X (.builtin "max") ["default"] (rMaxDf X.K) := by
  intro pins s σ H xs zs us ws Q I rx rz h
  obtain ⟨a, ns, d, rfl, rfl, hS, h0, h1⟩ := h
  obtain ⟨its, rv, pl, hz⟩ := I.list hS
  obtain ⟨as, rs⟩ := Dp.readsAll I _ _ its (dp_ints (K := X.K) (H := H) ns) rv
  have hl' : s.heap.IsList a its.toArray := by
    obtain ⟨o, m, e, c, dd, q⟩ := pl
    exact ⟨o, e, c, m, q⟩
  cases rx with
  | cons r1 rr =>
    cases rr
    cases r1
    cases rz with
    | cons r2 rr =>
      rename_i u us
      cases rr
      have hm : ns.map PyData.int = ns.map PySem.W.Datum.toD := rfl
      rw [hm] at rs
      refine PySem.W.max_list_datum_default (α := Int) (I.ok.hd hc) hl' (xs := ns) ⟨as, rs⟩ (by show X.A.units + 1 + 0 < cLine; omega) (fun e h' tk k => ?_) (fun y ys i v h' tk e hi hv k => ?_)
      · exact ⟨d, H, I.kept (t' := tk) k, r2, h0 e⟩
      · obtain ⟨bs, hb⟩ := hv
        obtain ⟨g1, g2, g3⟩ := maxOf_ge ys y
        subst e
        have hb' : Reads h' v (.int (PySem.W.maxOf y ys)) bs := hb
        obtain ⟨t, ev⟩ : ∃ t, v = Value.int (PySem.W.maxOf y ys) t := by
          cases hb' with
          | int i t => exact ⟨t, rfl⟩
        refine ⟨.int (PySem.W.maxOf y ys), H, I.kept (t' := tk) k, ⟨t, ev⟩, h1 _ ?_ fun z hz => ?_⟩
        · rcases g3 with g3 | g3
          · rw [g3]; exact List.mem_cons_self
          · exact List.mem_cons_of_mem _ g3
        · rcases List.mem_cons.mp hz with rfl | hz
          · exact g1
          · exact g2 z hz
end Sk

set_option maxHeartbeats 4000000
/-! fields, methods, new instances, dicts, comprehensions, locked walks: readings by name -/
namespace Sk
open PySem PySem.Spec PyProof.Rows L2
/-- a class of the program and names that it has not -/
structure ClsF (K : PySem.W.Frag) (C : Addr) (fs : List Str) : Prop where
  cl : Cls K C
  no : ∀ f ∈ fs, NoAttr K C f
def FldR (K : PySem.W.Frag) (f : Str) (x : V) (H : Hp) (Q : VK) : Prop := ∃ a C dx fs v, x = .ref a ∧ H a = some (.ins C dx fs) ∧ Cls K C ∧ NoAttr K C f ∧ fs.lookup f = some v ∧ Q v H
def FldS (K : PySem.W.Frag) (f : Str) (y x : V) (H : Hp) (Q : Hp → Prop) : Prop := ∃ a C dx fs, x = .ref a ∧ H a = some (.ins C dx fs) ∧ Cls K C ∧ NoAttr K C f ∧ fs.length < 1000 ∧ Q (upd H a (.ins C dx (putF f y fs)))
theorem look_eq {f : Str} {v : V} {r : List (Str × V)} : List.lookup f ((f, v) :: r) = some v := by simp [List.lookup]
theorem look_ne {f g : Str} {v : V} {r : List (Str × V)} (h : f ≠ g) : List.lookup f ((g, v) :: r) = List.lookup f r := by
  have e : (f == g) = false := by simpa using h
  simp [List.lookup, e]
theorem look_nil {f : Str} : List.lookup f ([] : List (Str × V)) = none := rfl
theorem putF_nil {f : Str} {v : V} : putF f v [] = [(f, v)] := rfl
theorem putF_eq {f : Str} {v x : V} {r : List (Str × V)} : putF f v ((f, x) :: r) = (f, v) :: r := if_pos rfl
theorem putF_c {f g : Str} {v x : V} {r r' : List (Str × V)} (h : g ≠ f) (e : putF f v r = r') : putF f v ((g, x) :: r) = (g, x) :: r' := by rw [← e]; exact if_neg h
theorem putF_ne {f g : Str} {v x : V} {r : List (Str × V)} (h : g ≠ f) : putF f v ((g, x) :: r) = (g, x) :: putF f v r := if_neg h
section
variable {K : PySem.W.Frag} {σ : L2.St} {H : Hp} {Q : VK} {D : Ends} {te tv td ty tx : TE} {f : Str}
theorem g_fld (h : te σ H fun x H1 => FldR K f x H1 Q) : tFld K te f σ H Q := h
theorem g_fldR {a C dx : Addr} {fs : List (Str × V)} {v : V} {gs : List Str} (h : H a = some (.ins C dx fs)) (c : ClsF K C gs) (m : f ∈ gs) (l : fs.lookup f = some v) (q : Q v H) : FldR K f (.ref a) H Q := ⟨a, C, dx, fs, v, rfl, h, c.cl, c.no f m, l, q⟩
theorem g_sfld (h : tv σ H fun y H1 => te σ H1 fun x H2 => FldS K f y x H2 fun H3 => D.nx σ H3) : sFld K te tv f D σ H := h
theorem g_fldS {a C dx : Addr} {fs gs' : List (Str × V)} {y : V} {gs : List Str} {R : Hp → Prop} (h : H a = some (.ins C dx fs)) (c : ClsF K C gs) (m : f ∈ gs) (l : fs.length < 1000) (e : putF f y fs = gs') (q : R (upd H a (.ins C dx gs'))) : FldS K f y (.ref a) H R :=
  ⟨a, C, dx, fs, rfl, h, c.cl, c.no f m, l, by rw [e]; exact q⟩
/-- d[k], d[k] = v, k in d, d.get(k), d.pop(k) -/
def DGetR (x y : V) (H : Hp) (Q : VK) : Prop := ∃ a v, x = .ref a ∧ DGet H a y (some v) ∧ Q v H
def DPutR (v x y : V) (H : Hp) (Q : Hp → Prop) : Prop := ∃ a H', x = .ref a ∧ DPut H a y v H' ∧ Q H'
def DInR (neg : Bool) (y x : V) (H : Hp) (Q : VK) : Prop := ∃ a o, x = .ref a ∧ DGet H a y o ∧ Q (.bl (if neg then !o.isSome else o.isSome)) H
theorem g_dget (h : td σ H fun x H1 => ty σ H1 fun y H2 => DGetR x y H2 Q) : tDGet td ty σ H Q := h
theorem g_dgetK {a : Addr} {kvs : List (Key × V)} {k : Key} {v : V} (h : H a = some (.dK kvs)) (e : valV kvs k = some v) (q : Q v H) : DGetR (.ref a) (kV k) H Q := ⟨a, v, rfl, e ▸ DGet.k h, q⟩
theorem g_dgetI {a : Addr} {kvs : List (Key × V)} {i : Int} {v : V} (h : H a = some (.dK kvs)) (e : valV kvs (Sum.inl i) = some v) (q : Q v H) : DGetR (.ref a) (.int i) H Q := g_dgetK (k := Sum.inl i) h e q
theorem g_dgetS {a : Addr} {kvs : List (Key × V)} {z : Str} {v : V} (h : H a = some (.dK kvs)) (e : valV kvs (Sum.inr z) = some v) (q : Q v H) : DGetR (.ref a) (.str z) H Q := g_dgetK (k := Sum.inr z) h e q
theorem g_dput (h : tv σ H fun v H1 => td σ H1 fun x H2 => ty σ H2 fun y H3 => DPutR v x y H3 fun H4 => D.nx σ H4) : sDPut td ty tv D σ H := h
theorem g_dputK {a : Addr} {kvs : List (Key × V)} {k : Key} {v : V} {R : Hp → Prop} (h : H a = some (.dK kvs)) (l : kvs.length < sizeLine) (q : R (upd H a (.dK (putK kvs k v)))) : DPutR v (.ref a) (kV k) H R := ⟨a, _, rfl, DPut.k h l, q⟩
theorem g_dputI {a : Addr} {kvs : List (Key × V)} {i : Int} {v : V} {R : Hp → Prop} (h : H a = some (.dK kvs)) (l : kvs.length < sizeLine) (q : R (upd H a (.dK (putK kvs (Sum.inl i) v)))) : DPutR v (.ref a) (.int i) H R := g_dputK (k := Sum.inl i) h l q
theorem g_dputS {a : Addr} {kvs : List (Key × V)} {z : Str} {v : V} {R : Hp → Prop} (h : H a = some (.dK kvs)) (l : kvs.length < sizeLine) (q : R (upd H a (.dK (putK kvs (Sum.inr z) v)))) : DPutR v (.ref a) (.str z) H R := g_dputK (k := Sum.inr z) h l q
theorem g_din (h : ty σ H fun y H1 => td σ H1 fun x H2 => DInR false y x H2 Q) : tDIn ty td σ H Q := h
theorem g_dnotin (h : ty σ H fun y H1 => td σ H1 fun x H2 => DInR true y x H2 Q) : tDNotIn ty td σ H Q := h
theorem g_dinK {a : Addr} {kvs : List (Key × V)} {k : Key} {neg : Bool} (h : H a = some (.dK kvs)) (q : Q (.bl (if neg then !(valV kvs k).isSome else (valV kvs k).isSome)) H) : DInR neg (kV k) (.ref a) H Q := ⟨a, _, rfl, DGet.k h, q⟩
theorem g_dinI {a : Addr} {kvs : List (Key × V)} {i : Int} {neg : Bool} (h : H a = some (.dK kvs)) (q : Q (.bl (if neg then !(valV kvs (Sum.inl i)).isSome else (valV kvs (Sum.inl i)).isSome)) H) : DInR neg (.int i) (.ref a) H Q := g_dinK (k := Sum.inl i) h q
theorem g_dinS {a : Addr} {kvs : List (Key × V)} {z : Str} {neg : Bool} (h : H a = some (.dK kvs)) (q : Q (.bl (if neg then !(valV kvs (Sum.inr z)).isSome else (valV kvs (Sum.inr z)).isSome)) H) : DInR neg (.str z) (.ref a) H Q := g_dinK (k := Sum.inr z) h q
def DPopR (x y : V) (H : Hp) (Q : VK) : Prop := ∃ a kvs k v, x = .ref a ∧ H a = some (.dK kvs) ∧ y = kV k ∧ valV kvs k = some v ∧ Q v (upd H a (.dK (dropK kvs k)))
theorem g_dnew (h : ∀ p, H p = none → Q (.ref p) (upd H p (.dK []))) : tDNewK σ H Q := h
theorem g_newD {H' : Hp} (h : ∀ p H', H p = none → Same H H' → H' p = some (.dK []) → Q (.ref p) H') : tDNewK σ H Q := fun p hp => h p _ hp (same_new hp) upd_same
end
/-! ### methods and new instances -/
structure Mtd (P : Program) (w : World) (K : PySem.W.Frag) (mg : Str → Option Value) (base : Heap) (CX : CXT) (k : Nat) (C : Addr) (m : Str) (ps : List Str) (sp : Sp) : Prop where
  ex : ∃ f fd, FnOk P w K mg base CX k f fd ps sp ∧ Meth K C m f ∧ Binds K fd ps [] ∧ Cls K C
def MetR (C : Addr) (m : Str) (x : V) (H : Hp) (R : Addr → Hp → Prop) : Prop := ∃ a dx fs, x = .ref a ∧ H a = some (.ins C dx fs) ∧ fs.lookup m = none ∧ R a H
def tMtd (C : Addr) (m : Str) (sp : Sp) (E : XK) (ta : TE) (t : TA) : TE := fun σ H Q => ta σ H fun x H1 => MetR C m x H1 fun a H1' => t σ H1' fun vs H2 => sp (.ref a :: vs) H2 Q E
section
variable {X : Cx} {CX : CXT} {k : Nat} {C : Addr} {m : Str} {ps : List Str} {sp : Sp} {E : XK} {o e : Expr} {es : List Expr} {apos pos p : Pos} {ta : TE} {t : TA} {x : Str}
theorem tMtd_eq : tMtd C m sp E ta t = tMeth C m sp [] E ta t := by
  funext σ H Q
  show ta σ H (fun x H1 => ∃ a dx fs, x = .ref a ∧ H1 a = some (.ins C dx fs) ∧ fs.lookup m = none ∧ t σ H1 fun vs H2 => sp (.ref a :: vs) H2 Q E) =
    ta σ H fun x H1 => ∃ a dx fs, x = .ref a ∧ H1 a = some (.ins C dx fs) ∧ fs.lookup m = none ∧ t σ H1 fun vs H2 => sp (x :: (vs ++ [])) H2 Q E
  congr 1
  funext x H1
  apply propext
  constructor
  · rintro ⟨a, dx, fs, rfl, h1, h2, h3⟩
    exact ⟨a, dx, fs, rfl, h1, h2, by simpa only [List.append_nil] using h3⟩
  · rintro ⟨a, dx, fs, rfl, h1, h2, h3⟩
    exact ⟨a, dx, fs, rfl, h1, h2, by simpa only [List.append_nil] using h3⟩
theorem pe_mtd {pl : Sem Bool} (c : Mtd X.prog X.w X.K X.mg X.base CX k C m ps sp) (hr : Room k X.A) (hx : Passes CX X E) (ho : PE X o ta) (ha : PA X (e :: es) t)
    (hst : starEach (e :: es) X.env = (false, eval e X.env) :: starEach es X.env := by rfl) (hpl : (backTo pos (starEach es X.env)).any (·.1) = false := by rfl)
    (ht : eval (.Call (.Attribute o m apos) (e :: es) [] pos) X.env = (do
      let ov ← eval o X.env
      standAt apos.atName
      let (f, first) ← holding [ov] (getMethod ov m pl)
      callWith pos f first (backTo pos (starEach (e :: es) X.env)) (backToKw pos (keywordEach [] X.env))) := by rfl) :
    PE X (.Call (.Attribute o m apos) (e :: es) [] pos) (tMtd C m sp E ta t) := by
  obtain ⟨f, fd, F, hm, hb, hc⟩ := c.ex
  rw [tMtd_eq]
  exact pe_meth ho hc hm F hr hb .nil hx ha hst hpl ht
theorem pe_mtd0 {pl : Sem Bool} (c : Mtd X.prog X.w X.K X.mg X.base CX k C m ps sp) (hr : Room k X.A) (hx : Passes CX X E) (ho : PE X o ta)
    (ht : eval (.Call (.Attribute o m apos) [] [] pos) X.env = (do
      let ov ← eval o X.env
      standAt apos.atName
      let (f, first) ← holding [ov] (getMethod ov m pl)
      callWith pos f first (backTo pos (starEach [] X.env)) (backToKw pos (keywordEach [] X.env))) := by rfl) :
    PE X (.Call (.Attribute o m apos) [] [] pos) (tMtd C m sp E ta tNil) := by
  obtain ⟨f, fd, F, hm, hb, hc⟩ := c.ex
  rw [tMtd_eq]
  exact pe_meth0 ho hc hm F hr hb .nil hx ht
structure Mkr (P : Program) (w : World) (K : PySem.W.Frag) (mg : Str → Option Value) (base : Heap) (CX : CXT) (k : Nat) (x : Str) (C : Addr) (ps : List Str) (sp : Sp) : Prop where
  ex : ∃ f fd, FnOk P w K mg base CX k f fd ps sp ∧ Mk K C f ∧ mg x = some (.ref C) ∧ Binds K fd ps []
/-- a new instance: its dict at dx, it at x; behind __init__ -/
def MkrR (C : Addr) (sp : Sp) (E : XK) (vs : List V) (H1 : Hp) (Q : VK) : Prop := ∀ x dx, H1 x = none → H1 dx = none → dx ≠ x → sp (.ref x :: vs) (upd (upd H1 dx (.own x)) x (.ins C dx [])) (fun v H3 => v = .non ∧ Q (.ref x) H3) E
def tMkr (C : Addr) (sp : Sp) (E : XK) (t : TA) : TE := fun σ H Q => t σ H fun vs H1 => MkrR C sp E vs H1 Q
theorem tMkr_eq {t : TA} : tMkr C sp E t = tMake C sp [] E t := by
  funext σ H Q
  show t σ H (fun vs H1 => ∀ x dx, H1 x = none → H1 dx = none → dx ≠ x → sp (.ref x :: vs) (upd (upd H1 dx (.own x)) x (.ins C dx [])) (fun v H3 => v = .non ∧ Q (.ref x) H3) E) =
    t σ H (fun vs H1 => ∀ x dx, H1 x = none → H1 dx = none → dx ≠ x → sp (.ref x :: (vs ++ [])) (upd (upd H1 dx (.own x)) x (.ins C dx [])) (fun v H3 => v = .non ∧ Q (.ref x) H3) E)
  simp only [List.append_nil]
theorem pe_mkr (c : Mkr X.prog X.w X.K X.mg X.base CX k x C ps sp) (hr : Room (k + 1) X.A) (hg : Gl X x) (hx : Passes CX X E) (ha : PA X (e :: es) t)
    (hdb : (x == ("__debug__" : Str)) = false := by decide) (he : starEach (e :: es) X.env = (false, eval e X.env) :: starEach es X.env := by rfl) (hpl : (backTo pos (starEach es X.env)).any (·.1) = false := by rfl) :
    PE X (.Call (.Name x p) (e :: es) [] pos) (tMkr C sp E t) := by
  obtain ⟨f, fd, F, hm, hg', hb⟩ := c.ex
  rw [tMkr_eq]
  exact pe_make hm F hr hg hg' hb .nil hx ha hdb he hpl
theorem pe_mkr0 (c : Mkr X.prog X.w X.K X.mg X.base CX k x C ps sp) (hr : Room (k + 1) X.A) (hg : Gl X x) (hx : Passes CX X E)
    (hdb : (x == ("__debug__" : Str)) = false := by decide) : PE X (.Call (.Name x p) [] [] pos) (tMkr C sp E tNil) := by
  obtain ⟨f, fd, F, hm, hg', hb⟩ := c.ex
  rw [tMkr_eq]
  exact pe_make0 hm F hr hg hg' hb .nil hx hdb
end
/-- the new instance, the heap by what is known of it -/
theorem mkrR_by {C : Addr} {sp : Sp} {E : XK} {vs : List V} {H1 : Hp} {Q : VK} (h : ∀ x dx H2, H1 x = none → H1 dx = none → Same H1 H2 → H2 x = some (.ins C dx []) → (∀ b, b ≠ x → b ≠ dx → H2 b = H1 b) → sp (.ref x :: vs) H2 (fun v H3 => v = .non ∧ Q (.ref x) H3) E) : MkrR C sp E vs H1 Q := fun x dx hx hdx ne =>
  h x dx _ hx hdx (fun b o e => by rw [upd_ne (ne_of_none e hx), upd_ne (ne_of_none e hdx)]; exact e) upd_same (fun b h1 h2 => by rw [upd_ne h1, upd_ne h2])
section
variable {K : PySem.W.Frag} {σ : L2.St} {H : Hp} {Q : VK} {D : Ends} {ta td te ty : TE} {t : TA}
theorem g_mtd {C : Addr} {m : Str} {sp : Sp} {E : XK} (h : ta σ H fun x H1 => MetR C m x H1 fun a H1' => t σ H1' fun vs H2 => sp (.ref a :: vs) H2 Q E) : tMtd C m sp E ta t σ H Q := h
theorem g_metR {C a dx : Addr} {m : Str} {fs : List (Str × V)} {R : Addr → Hp → Prop} (h : H a = some (.ins C dx fs)) (l : fs.lookup m = none) (q : R a H) : MetR C m (.ref a) H R := ⟨a, dx, fs, rfl, h, l, q⟩
theorem g_mkr {C : Addr} {sp : Sp} {E : XK} (h : t σ H fun vs H1 => MkrR C sp E vs H1 Q) : tMkr C sp E t σ H Q := h
/-! ### built-in types' methods -/
theorem g_bm {T : String} {r : V → List V → Hp → VK → Prop} (h : ta σ H fun x H1 => tyV K T x H1 ∧ t σ H1 fun xs H2 => r x xs H2 Q) : tBM K T r ta t σ H Q := h
theorem g_tyL {a : Addr} {xs : List V} {R : Prop} (h : H a = some (.lst xs)) (q : R) : tyV K "list" (.ref a) H ∧ R := ⟨.inl ⟨rfl, _, SqL.of h⟩, q⟩
theorem g_app {l : Addr} {xs : List V} {y : V} (h : H l = some (.lst xs)) (z : xs.length < sizeLine) (q : Q .non (upd H l (.lst (xs ++ [y])))) : rAppend (.ref l) [y] H Q := ⟨l, xs, y, rfl, rfl, h, z, q⟩
def DGet1R (x : V) (H1 : Hp) (ty : TE) (σ : L2.St) (Q : VK) : Prop := ∃ a, x = .ref a ∧ IsD H1 a ∧ ty σ H1 fun y H2 => ∃ o, DGet H2 a y o ∧ Q (o.getD .non) H2
theorem g_dget1 (h : td σ H fun x H1 => DGet1R x H1 ty σ Q) : tDGet1 td ty σ H Q := h
theorem isD_k {a : Addr} {kvs : List (Key × V)} (h : H a = some (.dK kvs)) : IsD H a := .inl ⟨kvs, .inl h⟩
def DPop1R (x : V) (H1 : Hp) (ty : TE) (σ : L2.St) (Q : VK) : Prop := ∃ a, x = .ref a ∧ IsD H1 a ∧ ty σ H1 fun y H2 => ∃ kvs k v, H2 a = some (.dK kvs) ∧ y = kV k ∧ valV kvs k = some v ∧ Q v (upd H2 a (.dK (dropK kvs k)))
theorem g_dpop1 (h : td σ H fun x H1 => DPop1R x H1 ty σ Q) : tDPop1 td ty σ H Q := h
/-! ### tuples and lists taken apart -/
theorem g_gTup {n : Nat} {u : TGs} {a : Addr} {xs : List V} {R : L2.St → Hp → Prop} (h : SqT K H a xs) (l : xs.length = n) (q : u xs σ H R) : gTup K n u (.ref a) σ H R := ⟨a, xs, rfl, h, l, q⟩
theorem g_gUnl {n : Nat} {u : TGs} {a : Addr} {xs : List V} {R : L2.St → Hp → Prop} (h : SqL K H a xs) (l : xs.length = n) (q : u xs σ H R) : gUnl K n u (.ref a) σ H R := ⟨a, xs, rfl, h, l, q⟩
theorem g_gCons {g : TG} {u : TGs} {v : V} {r : List V} {R : L2.St → Hp → Prop} (h : g v σ H fun σ' H' => u r σ' H' R) : gCons g u (v :: r) σ H R := ⟨v, r, rfl, h⟩
theorem g_gNil {R : L2.St → Hp → Prop} (h : R σ H) : gNil [] σ H R := ⟨rfl, h⟩
theorem g_gStar {u : TGs} {a : Addr} {x : V} {xs : List V} {R : L2.St → Hp → Prop} (h : SqT K H a (x :: xs)) (z : xs.length ≤ 16000) (q : ∀ p, H p = none → u [x, .ref p] σ (upd H p (.lst xs)) R) : gStar K u (.ref a) σ H R := ⟨a, x, xs, rfl, h, z, q⟩
end
end Sk

set_option maxHeartbeats 4000000
/-! rules with the written part said (for a comprehension's block) -/
namespace Sk
open PySem PySem.Spec PyProof.Rows L2
section
variable {X : Cx} (K : PySem.W.Frag) (hK : X.K = K)
include hK
theorem pg_tupK {es : List Expr} {k : Nat} {pos : Pos} {t : TGs} {n : Nat} (hc : X.calm = true) (h : PGs X es t) (hn : (assignEach es X.env).length = n := by rfl) (hst : (assignEach es X.env).findIdx? (·.1) = none := by rfl) : PG X (.Tuple es k pos) (gTup K n t) := hK ▸ pg_tup hc h hn hst
theorem pg_unlK {es : List Expr} {k : Nat} {pos : Pos} {t : TGs} {n : Nat} (hc : X.calm = true) (h : PGs X es t) (hn : (assignEach es X.env).length = n := by rfl) (hst : (assignEach es X.env).findIdx? (·.1) = none := by rfl) : PG X (.Tuple es k pos) (gUnl K n t) := hK ▸ pg_unl hc h hn hst
theorem pe_fldK {e : Expr} {f : Str} {pos : Pos} {ta : TE} (he : PE X e ta) (hb : attributeBase e f X.env (eval e X.env) = eval e X.env) : PE X (.Attribute e f pos) (tFld K ta f) := hK ▸ pe_fld he hb
theorem call_lenK : CallR X (.builtin "len") (rLenQ K) := hK ▸ call_lenQ
theorem op_inK : OpR X (compareOp .In) (rIn K false) := hK ▸ op_in_seq
theorem op_notInK : OpR X (compareOp .NotIn) (rIn K true) := hK ▸ op_notIn_seq
theorem op_eqDK (hu : X.A.units + 64 < cLine) : OpR X (compareOp .Eq) (rEqD K) := hK ▸ op_eqD hu
theorem op_neDK (hu : X.A.units + 64 < cLine) : OpR X (compareOp .NotEq) (rNeD K) := hK ▸ op_neD hu
theorem call_isiK' : CallR X (.builtin "isinstance") (rIsi K) := hK ▸ call_isi
theorem call_anyK (hc : X.calm = true) : CallR X (.builtin "any") (rAny K) := hK ▸ cr_any hc
theorem call_allK (hc : X.calm = true) : CallR X (.builtin "all") (rAll K) := hK ▸ cr_all hc
theorem sl_listK : SlR X (rSlL K) := hK ▸ sl_list
theorem sl_tupK : SlR X (rSlT K) := hK ▸ sl_tup
theorem pe_bmK {o e : Expr} {es : List Expr} {name : Str} {T : String} {id : String} {apos cpos : Pos} {r : V → List V → Hp → VK → Prop} {to : TE} {t : TA} (pa : PlainAttrs T) (slot : Slot T name id) (hty : typeOf (.builtin id) = pure (.type "method_descriptor")) (hm : MtR X id r) (ho : PE X o to) (ha : PA X (e :: es) t)
    (hbase : attributeBase o name X.env (eval o X.env) = eval o X.env := by rfl)
    (hfew : ((backTo cpos (starEach (e :: es) X.env)).all (fun x => !x.1) && (backToKw cpos (keywordEach [] X.env)).all (fun x => x.1.isSome)
      && decide ((e :: es).length + ([] : List Keyword).length + (if ([] : List Keyword).isEmpty then 0 else 1) < 30)) = true := by rfl) (hline : (apos.endLine == cpos.line) = true := by rfl)
    (hs : starEach (e :: es) X.env = (false, eval e X.env) :: starEach es X.env := by rfl) (hplain : (backTo cpos (starEach es X.env)).any (·.1) = false := by rfl) :
    PE X (.Call (.Attribute o name apos) (e :: es) [] cpos) (tBM K T r to t) := hK ▸ pe_bm (hs := hs) (hplain := hplain) pa slot hty hm ho ha hbase hfew hline
end
theorem free_upd {H : Hp} {p S : Addr} {o : HO} (h : upd H p o S = none) : S ≠ p ∧ H S = none := by
  by_cases e : S = p
  · subst e; rw [upd_same] at h; cases h
  · rw [upd_ne e] at h; exact ⟨e, h⟩
/-! ### comprehensions over lists -/
def LcBody (g : TG) (tt : TT) (te : TE) (vs : List Nat) (σ : L2.St) (x : V) (H : Hp) (R : Option V → Hp → Prop) : Prop :=
  g x (wipe σ vs) H fun σ2 H2 => wipe σ2 vs = wipe σ vs ∧ tt σ2 H2 fun b H3 => if b = true then te σ2 H3 fun y H4 => R (some y) H4 else R none H3
def LcR (J : It) (g : TG) (tt : TT) (te : TE) (vs : List Nat) (σ : L2.St) (Q : VK) (H1 : Hp) : Prop := ∀ D, H1 D = none → ∃ W : Nat → Nat → Hp → Prop, (∃ m, W 0 m (upd H1 D (.lst []))) ∧ ∀ i m H, W i m H →
  (J.stop i H ∧ Q (.ref D) H) ∨ (J.go i H ∧ ∃ Nx : Hp → Prop, (∀ H', Nx H' → ∃ m', m' < m ∧ W (i + 1) m' H') ∧ ∀ x H', J.yld i H x H' → g x (wipe σ vs) H' fun σ2 H2 => wipe σ2 vs = wipe σ vs ∧ tt σ2 H2 fun b H3 =>
    if b = true then te σ2 H3 fun y H4 => ∃ acc, H4 D = some (.lst acc) ∧ acc.length < sizeLine ∧ Nx (upd H4 D (.lst (acc ++ [y]))) else Nx H3)
def LcL (K : PySem.W.Frag) (g : TG) (tt : TT) (te : TE) (vs : List Nat) (σ : L2.St) (Q : VK) : V → Hp → Prop := fun x H1 => ∃ a, x = .ref a ∧ (∃ xs, SqL K H1 a xs) ∧ LcR (Itl K a) g tt te vs σ Q H1
def LcRg1 (g : TG) (tt : TT) (te : TE) (vs : List Nat) (σ : L2.St) (Q : VK) : List V → Hp → Prop := fun us H1 => ∃ j : Int, us = [.int j] ∧ -(2 ^ 62) ≤ j ∧ j < 2 ^ 62 ∧ LcR (Itr 0 j.toNat) g tt te vs σ Q H1
section
variable {K : PySem.W.Frag} {σ : L2.St} {H : Hp} {Q : VK} {g : TG} {tt : TT} {te tl : TE} {ta : TA} {vs : List Nat}
theorem g_lcL (h : tl σ H fun x H1 => LcL K g tt te vs σ Q x H1) : tLc (iList K tl) g tt te vs σ H Q := h
theorem lcL_flat {a : Addr} {xs : List V} (hx : SqL K H a xs) (f : V → Option V) (hz : xs.length < sizeLine)
    (hs : ∀ (i : Nat) x H', xs[i]? = some x → Same H H' → ∀ R, (∀ H'', Same H' H'' → R (f x) H'') → LcBody g tt te vs σ x H' R)
    (hd : ∀ D H', H D = none → Same H H' → H' D = some (.lst (xs.filterMap f)) → Q (.ref D) H') : LcL K g tt te vs σ Q (.ref a) H := by
  refine ⟨a, rfl, ⟨xs, hx⟩, fun D hD => lc_list (fun i H' => Same H H' ∧ H' D = some (.lst ((xs.take i).filterMap f))) ⟨same_new hD, upd_same⟩ (fun i H' _ p => p.1.seq hx) ?_ (fun H' p => hd D H' hD p.1 (by rw [p.2, List.take_length]))⟩
  rintro i x H' hi ⟨s1, e1⟩
  have hlt : i < xs.length := (List.getElem?_eq_some_iff.mp hi).1
  have et : xs.take (i + 1) = xs.take i ++ [x] := by rw [List.take_succ, hi]; rfl
  have hl : ((xs.take i).filterMap f).length < sizeLine := Nat.lt_of_le_of_lt (Nat.le_trans (List.length_filterMap_le _ _) (by rw [List.length_take]; omega)) hz
  exact hs i x H' hi s1 (fun r H4 => match r with
    | some y => ∃ acc, H4 D = some (.lst acc) ∧ acc.length < sizeLine ∧ (Same H (upd H4 D (.lst (acc ++ [y]))) ∧ upd H4 D (.lst (acc ++ [y])) D = some (.lst ((xs.take (i + 1)).filterMap f)))
    | none => Same H H4 ∧ H4 D = some (.lst ((xs.take (i + 1)).filterMap f))) fun H'' s2 => by
      have e2 := s2 _ _ e1
      cases hf : f x with
      | some y =>
        refine ⟨_, e2, hl, fun b o e => ?_, ?_⟩
        · rw [upd_ne (ne_of_none e hD)]
          exact s2 _ _ (s1 _ _ e)
        · rw [upd_same, et, List.filterMap_append]
          simp [hf]
      | none =>
        refine ⟨s1.trans s2, ?_⟩
        rw [e2, et, List.filterMap_append]
        simp [hf]
/-- the elements by a word P of a part G of the heap that does not change any more -/
theorem lcL_by {a : Addr} {xs : List V} (hx : SqL K H a xs) (P : Nat → List V → Hp → Prop) (hz : xs.length < sizeLine) (G0 : Hp) (hG0 : Same G0 H) (h0 : P 0 [] G0)
    (hs : ∀ (i : Nat) x acc G H', xs[i]? = some x → Same H H' → Same G0 G → Same G H' → P i acc G → ∀ R : Option V → Hp → Prop,
      (∀ r H'' G', Same H' H'' → Same G G' → Same G' H'' → (∀ b, H' b ≠ none → G' b = G b) → (match r with | some y => P (i + 1) (acc ++ [y]) G' | none => P (i + 1) acc G') → R r H'') → LcBody g tt te vs σ x H' R)
    (hd : ∀ D acc G H', H D = none → Same H H' → Same G0 G → Same G H' → G D = none → H' D = some (.lst acc) → P xs.length acc G → acc.length ≤ xs.length → (∀ b, H b ≠ none → G b = G0 b) → Q (.ref D) H') : LcL K g tt te vs σ Q (.ref a) H := by
  refine ⟨a, rfl, ⟨xs, hx⟩, fun D hD => lc_list (fun i H' => Same H H' ∧ ∃ acc G, Same G0 G ∧ Same G H' ∧ G D = none ∧ H' D = some (.lst acc) ∧ P i acc G ∧ acc.length ≤ i ∧ ∀ b, H b ≠ none → G b = G0 b) ?_ (fun i H' _ p => p.1.seq hx) ?_ ?_⟩
  · refine ⟨same_new hD, [], G0, Same.refl _, hG0.trans (same_new hD), ?_, upd_same, h0, Nat.le_refl _, fun _ _ => rfl⟩
    cases e : G0 D with
    | none => rfl
    | some o => rw [hG0 _ _ e] at hD; cases hD
  · rintro i x H' hi ⟨s1, acc, G, g1, g2, g3, e1, p, hl, ho⟩
    have hlt : i < xs.length := (List.getElem?_eq_some_iff.mp hi).1
    refine hs i x acc G H' hi s1 g1 g2 p (fun r H4 => match r with
      | some y => ∃ acc, H4 D = some (.lst acc) ∧ acc.length < sizeLine ∧ (Same H (upd H4 D (.lst (acc ++ [y]))) ∧ ∃ acc' G, Same G0 G ∧ Same G (upd H4 D (.lst (acc ++ [y]))) ∧ G D = none ∧ upd H4 D (.lst (acc ++ [y])) D = some (.lst acc') ∧ P (i + 1) acc' G ∧ acc'.length ≤ i + 1 ∧ ∀ b, H b ≠ none → G b = G0 b)
      | none => Same H H4 ∧ ∃ acc' G, Same G0 G ∧ Same G H4 ∧ G D = none ∧ H4 D = some (.lst acc') ∧ P (i + 1) acc' G ∧ acc'.length ≤ i + 1 ∧ ∀ b, H b ≠ none → G b = G0 b) fun r H'' G' s2 k1 k2 k3 k4 => ?_
    have gD : G' D = none := by rw [k3 D (by rw [e1]; simp), g3]
    have e2 := s2 _ _ e1
    have ho' : ∀ b, H b ≠ none → G' b = G0 b := fun b hb => by
      have hb' : H' b ≠ none := by
        cases e : H b with
        | none => exact (hb e).elim
        | some o => rw [s1 _ _ e]; simp
      rw [k3 b hb', ho b hb]
    cases r with
    | some y =>
      refine ⟨acc, e2, by omega, fun b o e => ?_, acc ++ [y], G', g1.trans k1, fun b o e => ?_, gD, upd_same, k4, by rw [List.length_append]; simp; omega, ho'⟩
      · rw [upd_ne (ne_of_none e hD)]
        exact s2 _ _ (s1 _ _ e)
      · rw [upd_ne (ne_of_none e gD)]
        exact k2 _ _ e
    | none => exact ⟨s1.trans s2, acc, G', g1.trans k1, k2, gD, e2, k4, by omega, ho'⟩
  · rintro H' ⟨s1, acc, G, g1, g2, g3, e1, p, hl, ho⟩
    exact hd D acc G H' hD s1 g1 g2 g3 e1 p hl ho
theorem g_lcRg1 (h : ta σ H fun us H1 => LcRg1 g tt te vs σ Q us H1) : tLc (iRng1 ta) g tt te vs σ H Q := h
end
end Sk

set_option maxHeartbeats 4000000
/-! locked walks over dicts; copies of dicts; comprehensions with a list of results -/
namespace Sk
open PySem PySem.Spec PyProof.Rows L2
theorem g_nn {A : Prop} (h : A) : V.non = V.non ∧ A := ⟨rfl, h⟩
theorem ne_val {H : Hp} {a b : Addr} {u v : HO} (h : H a = some u) (h' : H b = some v) (n : u ≠ v) : a ≠ b := fun z => n (by subst z; rw [h] at h'; injection h')
theorem same_lock {H : Hp} {C : Addr} {u x : HO} {H' : Hp} (hC : H C = some u) (s : Same (upd H C x) H') : Same H (upd H' C u) := fun b o e => by
  by_cases c : b = C
  · subst c; rw [upd_same]; rw [hC] at e; exact e
  · rw [upd_ne c]; exact s _ _ (by rw [upd_ne c]; exact e)
theorem same_upd {H : Hp} {p : Addr} {o : HO} (h : H p = none) : Same H (upd H p o) := same_new h
section
variable {K : PySem.W.Frag} {σ : L2.St} {H : Hp} {D : Ends} {g : TG} {tb : TS} {td : TE} {C : Addr} {kvs : List (Key × V)}
/-- for k, v in d.items(): only reads and new things within -/
theorem forItems (hC : H C = some (.dK kvs)) (ht : ∀ od R, R (.ref C) (upd H C (.frz od (.dK kvs))) → td σ (upd H C (.frz od (.dK kvs))) R) (Pv : Nat → L2.St → Prop) (h0 : Pv 0 σ)
    (hs : ∀ i k v σ' H1 T od (E : Ends), kvs[i]? = some (k, v) → Same (upd H C (.frz od (.dK kvs))) H1 → H1 T = some (.tup [kV k, v]) → Pv i σ' →
      (∀ σ3 H3, Same H1 H3 → Pv (i + 1) σ3 → E.nx σ3 H3) → (∀ σ3 H3, Same H1 H3 → Pv (i + 1) σ3 → E.ct σ3 H3) → (∀ w H3, Same H1 H3 → (∀ H', Same H H' → D.rt w H') → E.rt w H3) → (∀ σ3 H3, Same H1 H3 → (∀ H', Same H H' → D.nx σ3 H') → E.bk σ3 H3) → g (.ref T) σ' H1 fun σ2 H2 => tb E σ2 H2)
    (hd : ∀ σ' H', Same H H' → Pv kvs.length σ' → D.nx σ' H') : tLock (tFor (iItems td) g tb) D σ H := by
  refine ⟨C, .dK kvs, hC, True.intro, fun od => ?_⟩
  refine ht od _ ⟨C, od, kvs, rfl, upd_same, ?_⟩
  refine ⟨fun i m σ' H' => m = kvs.length - i ∧ i ≤ kvs.length ∧ Same (upd H C (.frz od (.dK kvs))) H' ∧ Pv i σ', ⟨_, rfl, Nat.zero_le _, Same.refl _, h0⟩, ?_⟩
  rintro i m σ' H' ⟨rfl, hi, s1, p⟩
  have eC : H' C = some (.frz od (.dK kvs)) := s1 _ _ upd_same
  by_cases hlt : i < kvs.length
  · refine .inr ⟨⟨eC, hlt⟩, fun σ3 H3 => Same H' H3 ∧ Pv (i + 1) σ3, fun σ3 H3 q => ⟨_, ?_, rfl, hlt, s1.trans q.1, q.2⟩, ?_⟩
    · omega
    rintro x H1 ⟨T, k, v, e1, rfl, e2, rfl⟩
    have s0 : Same H' (upd H' T (.tup [kV k, v])) := same_new e2
    refine hs i k v σ' (upd H' T (.tup [kV k, v])) T od _ e1 (s1.trans s0) upd_same p (fun σ3 H3 q q2 => ⟨s0.trans q, q2⟩) (fun σ3 H3 q q2 => ⟨s0.trans q, q2⟩) (fun w H3 q q2 => ?_) (fun σ3 H3 q q2 => ?_)
    · have s3 := s1.trans (s0.trans q)
      exact ⟨s3 _ _ upd_same, q2 _ (same_lock hC s3)⟩
    · have s3 := s1.trans (s0.trans q)
      exact ⟨s3 _ _ upd_same, q2 _ (same_lock hC s3)⟩
  · have ei : i = kvs.length := by omega
    subst ei
    exact .inl ⟨⟨eC, Nat.le_refl _⟩, eC, hd _ _ (same_lock hC s1) p⟩
/-- for k in d: -/
theorem forKeys (hC : H C = some (.dK kvs)) (ht : ∀ od R, R (.ref C) (upd H C (.frz od (.dK kvs))) → td σ (upd H C (.frz od (.dK kvs))) R) (Pv : Obj → Nat → L2.St → Hp → Prop) (mC : ∀ od i σ' H', Pv od i σ' H' → H' C = some (.frz od (.dK kvs))) (h0 : ∀ od, Pv od 0 σ (upd H C (.frz od (.dK kvs))))
    (hs : ∀ i k v σ' H1 od (E : Ends), kvs[i]? = some (k, v) → Pv od i σ' H1 → (∀ σ3 H3, Pv od (i + 1) σ3 H3 → E.nx σ3 H3) → (∀ σ3 H3, Pv od (i + 1) σ3 H3 → E.ct σ3 H3) → g (kV k) σ' H1 fun σ2 H2 => tb E σ2 H2)
    (hd : ∀ σ' H' od, Pv od kvs.length σ' H' → D.nx σ' (upd H' C (.dK kvs))) : tLock (tFor (iKeys td) g tb) D σ H := by
  refine ⟨C, .dK kvs, hC, True.intro, fun od => ?_⟩
  refine ht od _ ⟨C, od, rfl, .inl ⟨kvs, upd_same, ?_⟩⟩
  refine ⟨fun i m σ' H' => m = kvs.length - i ∧ i ≤ kvs.length ∧ Pv od i σ' H', ⟨_, rfl, Nat.zero_le _, h0 od⟩, ?_⟩
  rintro i m σ' H' ⟨rfl, hi, p⟩
  have eC : H' C = some (.frz od (.dK kvs)) := mC _ _ _ _ p
  by_cases hlt : i < kvs.length
  · refine .inr ⟨⟨eC, hlt⟩, fun σ3 H3 => Pv od (i + 1) σ3 H3, fun σ3 H3 q => ⟨_, ?_, rfl, hlt, q⟩, ?_⟩
    · omega
    rintro x H1 ⟨rfl, k, v, e1, rfl⟩
    exact hs i k v σ' H1 od _ e1 p (fun σ3 H3 q => q) (fun σ3 H3 q => q)
  · have ei : i = kvs.length := by omega
    subst ei
    exact .inl ⟨⟨eC, Nat.le_refl _⟩, eC, hd _ _ _ p⟩
end
theorem g_dgetF {H : Hp} {Q : VK} {a : Addr} {kvs : List (Key × V)} {k : Key} {v : V} {od : Obj} (h : H a = some (.frz od (.dK kvs))) (e : valV kvs k = some v) (q : Q v H) : DGetR (.ref a) (kV k) H Q := ⟨a, v, rfl, e ▸ (.inl ⟨kvs, k, .inr ⟨od, h⟩, rfl, rfl⟩ : DGet H a (kV k) (valV kvs k)), q⟩
/-! ### a dict comprehension over the locked pairs of a dict -/
def DcBody (g : TG) (tt : TT) (tk tv : TE) (vs : List Nat) (σ : L2.St) (x : V) (H : Hp) (R : Option (V × V) → Hp → Prop) : Prop :=
  g x (wipe σ vs) H fun σ2 H2 => wipe σ2 vs = wipe σ vs ∧ tt σ2 H2 fun b H3 => if b = true then tk σ2 H3 fun y H4 => tv σ2 H4 fun z H5 => R (some (y, z)) H5 else R none H3
def accK (f : Key × V → Option V) (kvs acc : List (Key × V)) : List (Key × V) := kvs.foldl (fun a q => match f q with | some v => putK a q.1 v | none => a) acc
section
variable {σ : L2.St} {H : Hp} {Q : VK} {g : TG} {tt : TT} {tk tv td : TE} {vs : List Nat} {C : Addr} {kvs : List (Key × V)}
theorem accK_len (f : Key × V → Option V) : ∀ (kvs acc : List (Key × V)), (accK f kvs acc).length ≤ acc.length + kvs.length
  | [], acc => by show acc.length ≤ acc.length + 0; omega
  | p :: r, acc => by
    have h := accK_len f r (match f p with | some v => putK acc p.1 v | none => acc)
    have h2 : (match f p with | some v => putK acc p.1 v | none => acc).length ≤ acc.length + 1 := by
      split
      · exact length_putK _ _ _
      · omega
    show (accK f r (match f p with | some v => putK acc p.1 v | none => acc)).length ≤ acc.length + (r.length + 1)
    omega
theorem lockDc (hC : H C = some (.dK kvs)) (hz : kvs.length < sizeLine) (ht : ∀ od R, R (.ref C) (upd H C (.frz od (.dK kvs))) → td σ (upd H C (.frz od (.dK kvs))) R) (f : Key × V → Option V)
    (hs : ∀ (i : Nat) (k : Key) (v : V) (H1 : Hp) (T : Addr) (od : Obj) (R : Option (V × V) → Hp → Prop), kvs[i]? = some (k, v) → Same (upd H C (.frz od (.dK kvs))) H1 → H1 T = some (.tup [kV k, v]) → (∀ H3, Same H1 H3 → R ((f (k, v)).map fun z => (kV k, z)) H3) → DcBody g tt tk tv vs σ (.ref T) H1 R)
    (hd : ∀ D H', H D = none → Same H H' → H' D = some (.dK (accK f kvs [])) → Q (.ref D) H') : tLockE (tDc (iItems td) g tt tk tv vs) σ H Q := by
  refine ⟨C, .dK kvs, hC, True.intro, fun od => ?_⟩
  refine ht od _ ⟨C, od, kvs, rfl, upd_same, fun D hD => ?_⟩
  have dC : D ≠ C := fun z => by rw [z, upd_same] at hD; cases hD
  have hD0 : H D = none := by rw [upd_ne dC] at hD; exact hD
  refine ⟨fun i m H' => m = kvs.length - i ∧ i ≤ kvs.length ∧ Same (upd H C (.frz od (.dK kvs))) H' ∧ H' D = some (.dK (accK f (kvs.take i) [])), ⟨_, rfl, Nat.zero_le _, same_new hD, upd_same⟩, ?_⟩
  rintro i m H' ⟨rfl, hi, s1, eD⟩
  have eC : H' C = some (.frz od (.dK kvs)) := s1 _ _ upd_same
  by_cases hlt : i < kvs.length
  · refine .inr ⟨⟨eC, hlt⟩, fun H3 => Same (upd H C (.frz od (.dK kvs))) H3 ∧ H3 D = some (.dK (accK f (kvs.take (i + 1)) [])), fun H3 q => ⟨_, ?_, rfl, hlt, q.1, q.2⟩, ?_⟩
    · omega
    rintro x H1 ⟨T, k, v, e1, rfl, e2, rfl⟩
    have s0 : Same H' (upd H' T (.tup [kV k, v])) := same_new e2
    have et : kvs.take (i + 1) = kvs.take i ++ [(k, v)] := by rw [List.take_succ, e1]; rfl
    have ea : accK f (kvs.take (i + 1)) [] = (match f (k, v) with | some z => putK (accK f (kvs.take i) []) k z | none => accK f (kvs.take i) []) := by
      unfold accK
      rw [et, List.foldl_append]
      rfl
    have hl := accK_len f (kvs.take i) []
    rw [List.length_take] at hl
    refine hs i k v (upd H' T (.tup [kV k, v])) T od (fun r H5 => match r with
      | some (y, z) => ∃ kvs' k', y = kV k' ∧ H5 D = some (.dK kvs') ∧ kvs'.length < sizeLine ∧ (Same (upd H C (.frz od (.dK kvs))) (upd H5 D (.dK (putK kvs' k' z))) ∧ upd H5 D (.dK (putK kvs' k' z)) D = some (.dK (accK f (kvs.take (i + 1)) [])))
      | none => Same (upd H C (.frz od (.dK kvs))) H5 ∧ H5 D = some (.dK (accK f (kvs.take (i + 1)) []))) e1 (s1.trans s0) upd_same fun H3 s3 => ?_
    have e3 : H3 D = some (.dK (accK f (kvs.take i) [])) := s3 _ _ (s0 _ _ eD)
    cases hf : f (k, v) with
    | some z =>
      rw [hf] at ea
      refine ⟨_, k, rfl, e3, ?_, fun b o e => ?_, ?_⟩
      · simp at hl; omega
      · have bD : b ≠ D := ne_of_none e hD
        rw [upd_ne bD]
        exact s3 _ _ (s0 _ _ (s1 _ _ e))
      · rw [upd_same, ea]
    | none =>
      rw [hf] at ea
      exact ⟨s1.trans (s0.trans s3), by rw [e3, ea]⟩
  · have ei : i = kvs.length := by omega
    subst ei
    refine .inl ⟨⟨eC, Nat.le_refl _⟩, eC, hd D _ hD0 (same_lock hC s1) ?_⟩
    rw [upd_ne dC, eD, List.take_length]
end
/-! ### comprehension over a list with a list of results -/
section
variable {K : PySem.W.Frag} {σ : L2.St} {H : Hp} {Q : VK} {g : TG} {tt : TT} {te tl : TE} {vs : List Nat}
theorem lcL_to {a : Addr} {xs : List V} (hx : SqL K H a xs) (ys : List (Option V)) (hl : ys.length = xs.length) (hz : xs.length < sizeLine)
    (hs : ∀ (i : Nat) x y H', xs[i]? = some x → ys[i]? = some y → Same H H' → ∀ R, (∀ H'', Same H' H'' → R y H'') → LcBody g tt te vs σ x H' R)
    (hd : ∀ D H', H D = none → Same H H' → H' D = some (.lst (ys.filterMap id)) → Q (.ref D) H') : LcL K g tt te vs σ Q (.ref a) H := by
  refine ⟨a, rfl, ⟨xs, hx⟩, fun D hD => lc_list (fun i H' => Same H H' ∧ H' D = some (.lst ((ys.take i).filterMap id))) ⟨same_new hD, upd_same⟩ (fun i H' _ p => p.1.seq hx) ?_ (fun H' p => hd D H' hD p.1 (by rw [p.2, ← hl, List.take_length]))⟩
  rintro i x H' hi ⟨s1, e1⟩
  have hlt : i < xs.length := (List.getElem?_eq_some_iff.mp hi).1
  have hy : ys[i]? = some (ys[i]'(by omega)) := List.getElem?_eq_getElem _
  generalize ys[i]'(by omega) = y at hy
  have et : ys.take (i + 1) = ys.take i ++ [y] := by rw [List.take_succ, hy]; rfl
  have hl2 : ((ys.take i).filterMap id).length < sizeLine := Nat.lt_of_le_of_lt (Nat.le_trans (List.length_filterMap_le _ _) (by rw [List.length_take]; omega)) hz
  exact hs i x y H' hi hy s1 (fun r H4 => match r with
    | some y => ∃ acc, H4 D = some (.lst acc) ∧ acc.length < sizeLine ∧ (Same H (upd H4 D (.lst (acc ++ [y]))) ∧ upd H4 D (.lst (acc ++ [y])) D = some (.lst ((ys.take (i + 1)).filterMap id)))
    | none => Same H H4 ∧ H4 D = some (.lst ((ys.take (i + 1)).filterMap id))) fun H'' s2 => by
      have e2 := s2 _ _ e1
      cases y with
      | some y =>
        refine ⟨_, e2, hl2, fun b o e => ?_, ?_⟩
        · rw [upd_ne (ne_of_none e hD)]
          exact s2 _ _ (s1 _ _ e)
        · rw [upd_same, et, List.filterMap_append]
          simp
      | none =>
        refine ⟨s1.trans s2, ?_⟩
        rw [e2, et, List.filterMap_append]
        simp
end
/-! ### calls of built-ins by name -/
section
variable {X : Cx} {K : PySem.W.Frag} {σ : L2.St} {H : Hp} {Q : VK}
def rDictD : List V → Hp → VK → Prop := fun xs H Q => ∃ (a : Addr) (kvs : List (Key × V)), xs = [.ref a] ∧ Rd H a (.dK kvs) ∧ ∀ p, H p = none → Q (.ref p) (upd H p (.dK kvs))
theorem call_dictDQ : CallR X (.type "dict") rDictD := call_dictD
theorem g_dictD {a : Addr} {kvs : List (Key × V)} (h : H a = some (.dK kvs)) (q : ∀ p, H p = none → Q (.ref p) (upd H p (.dK kvs))) : rDictD [.ref a] H Q := ⟨a, kvs, rfl, Rd.of h, q⟩
def rDictP (K : PySem.W.Frag) : List V → Hp → VK → Prop := fun xs H Q => ∃ (a : Addr) (ps : List Addr) (kvs : List (Key × V)), xs = [.ref a] ∧ SqL K H a (ps.map V.ref) ∧ Paired (fun p kv => SqT K H p [kV kv.1, kv.2]) ps kvs ∧ ∀ p, H p = none → Q (.ref p) (upd H p (.dK (mergeK [] kvs)))
theorem call_dictPQ (hc : X.calm = true) : CallR X (.type "dict") (rDictP X.K) := call_dictP hc
def rSortD : List V → Hp → VK → Prop := fun xs H Q => ∃ (a : Addr) (kvs : List (Key × V)) (ks : List Str), xs = [.ref a] ∧ Rd H a (.dK kvs) ∧ kvs.map (·.1) = ks.map Sum.inr ∧ ks.length < 64 ∧
    ∀ ys p, ys.Perm ks → sortedS ys = true → H p = none → Q (.ref p) (upd H p (.lst (ys.map V.str)))
theorem call_sortDQ (hc : X.calm = true) : CallR X (.builtin "sorted") rSortD := call_sortedD hc
def rSortDI : List V → Hp → VK → Prop := fun xs H Q => ∃ (a : Addr) (kvs : List (Key × V)) (ks : List Int), xs = [.ref a] ∧ Rd H a (.dK kvs) ∧ kvs.map (·.1) = ks.map Sum.inl ∧ ks.length < 64 ∧
    ∀ (ys : List Int) (p : Addr), ys.Perm ks → ys.Pairwise (· ≤ ·) → H p = none → Q (.ref p) (upd H p (.lst (ys.map V.int)))
theorem call_sortDIQ (hc : X.calm = true) : CallR X (.builtin "sorted") rSortDI := call_sortedDI hc
theorem risingS_pw : ∀ (l : List Str) (p : Str), risingS p l = true → (p :: l).Pairwise fun a b => ¬ b.cps.toList < a.cps.toList
  | [], p, _ => List.pairwise_singleton _ _
  | x :: r, p, h => by
    have h' : (!ltCps x.cps.toList p.cps.toList && risingS x r) = true := h
    rw [Bool.and_eq_true] at h'
    have ih := risingS_pw r x h'.2
    have hp : ¬ x.cps.toList < p.cps.toList := by
      have := h'.1
      rw [ltCps_eq] at this
      simpa using this
    refine List.pairwise_cons.mpr ⟨fun y hy => ?_, ih⟩
    rcases List.mem_cons.mp hy with e | e
    · rw [e]; exact hp
    · have hxy := (List.pairwise_cons.mp ih).1 y e
      intro z
      exact hxy (Std.lt_of_lt_of_le z (List.not_lt.mp hp))
theorem sortedS_pw {l : List Str} (h : sortedS l = true) : l.Pairwise fun a b => ¬ b.cps.toList < a.cps.toList := by
  cases l with
  | nil => exact List.Pairwise.nil
  | cons x r => exact risingS_pw r x h
end
end Sk

set_option maxHeartbeats 4000000
/-! slices, membership, any, comparisons of texts: readings by name -/
namespace Sk
open PySem PySem.Spec PyProof.Rows L2
theorem fm_some {α : Type} (f : α → V) : ∀ xs : List α, (xs.map fun x => some (f x)).filterMap id = xs.map f
  | [] => rfl
  | x :: r => by rw [List.map_cons, List.filterMap_cons_some (f := id) (a := some (f x)) (b := f x) rfl, fm_some f r, List.map_cons]
theorem free_same {H H' : Hp} {a : Addr} (s : Same H H') (h : H' a = none) : H a = none := by
  cases e : H a with
  | none => rfl
  | some o => rw [s _ _ e] at h; cases h
theorem cutV_drop (xs : List V) (n : Nat) : cutV xs (some (n : Int)) none = xs.drop n := by
  unfold cutV
  rw [HT.sIx_nat, HT.sIx_none]
  by_cases h : n ≤ xs.length
  · rw [Nat.min_eq_left h, List.take_of_length_le (by rw [List.length_drop]; exact Nat.le_refl _)]
  · rw [Nat.min_eq_right (by omega), Nat.sub_self, List.take_zero, List.drop_eq_nil_of_le (by omega)]
theorem cutV_take (xs : List V) (n : Nat) : cutV xs none (some (n : Int)) = xs.take n := by
  unfold cutV
  rw [HT.sIx_nat, HT.sIx_none, List.drop_zero, Nat.sub_zero]
  by_cases h : n ≤ xs.length
  · rw [Nat.min_eq_left h]
  · rw [Nat.min_eq_right (by omega), List.take_of_length_le (by omega), List.take_of_length_le (by omega)]
theorem inV_strs (k : Str) : ∀ l : List Str, inV (.str k) (l.map V.str) = decide (k ∈ l)
  | [] => by simp [inV]
  | x :: r => by
    have ih := inV_strs k r
    unfold inV at ih ⊢
    rw [List.map_cons, List.any_cons, ih]
    by_cases c : k = x
    · subst c; simp [eqV]
    · have c' : ¬ x = k := fun z => c z.symm
      simp [eqV, c, c']
theorem inV_ints (k : Int) : ∀ l : List Int, inV (.int k) (l.map V.int) = decide (k ∈ l)
  | [] => by simp [inV]
  | x :: r => by
    have ih := inV_ints k r
    unfold inV at ih ⊢
    rw [List.map_cons, List.any_cons, ih]
    by_cases c : k = x
    · subst c; simp [eqV]
    · have c' : ¬ x = k := fun z => c z.symm
      simp [eqV, c, c']
theorem flat_strs (l : List Str) : (l.map V.str).all flatV = true := by induction l with
  | nil => rfl
  | cons x r ih => rw [List.map_cons, List.all_cons, ih]; rfl
theorem flat_ints (l : List Int) : (l.map V.int).all flatV = true := by induction l with
  | nil => rfl
  | cons x r ih => rw [List.map_cons, List.all_cons, ih]; rfl
section
variable {K : PySem.W.Frag} {σ : L2.St} {H : Hp} {Q : VK} {D : Ends} {te tb ta tc td : TE} {tl th : TO}
theorem g_sl {r : V → Option Int → Option Int → Hp → VK → Prop} (h : te σ H fun x H1 => tl σ H1 fun l H2 => th σ H2 fun u H3 => r x l u H3 Q) : tSl r te tl th σ H Q := h
theorem g_yesT {R : Bool → Hp → Prop} (h : R true H) : tYes σ H R := h
theorem g_rU {f : Int → V} {i : Int} (h : Q (f i) H) : rU f (.int i) H Q := ⟨i, rfl, h⟩
theorem g_poN {R : Option Int → Hp → Prop} (h : R none H) : tNoPart σ H R := h
theorem g_poS {R : Option Int → Hp → Prop} (h : te σ H fun x H1 => ∃ k : Int, x = .int k ∧ R (some k) H1) : tPart te σ H R := h
theorem g_slL {a : Addr} {xs : List V} {lo hi : Option Int} (h : H a = some (.lst xs)) (q : ∀ p, H p = none → Q (.ref p) (upd H p (.lst (cutV xs lo hi)))) : rSlL K (.ref a) lo hi H Q := ⟨a, xs, rfl, SqL.of h, q⟩
theorem g_slFrom {a : Addr} {xs : List V} {n : Nat} (h : H a = some (.lst xs)) (q : ∀ p, H p = none → Q (.ref p) (upd H p (.lst (xs.drop n)))) : rSlL K (.ref a) (some (n : Int)) none H Q := ⟨a, xs, rfl, SqL.of h, by rw [cutV_drop]; exact q⟩
theorem g_slTo {a : Addr} {xs : List V} {n : Nat} (h : H a = some (.lst xs)) (q : ∀ p, H p = none → Q (.ref p) (upd H p (.lst (xs.take n)))) : rSlL K (.ref a) none (some (n : Int)) H Q := ⟨a, xs, rfl, SqL.of h, by rw [cutV_take]; exact q⟩
theorem g_inStrs {a : Addr} {k : Str} {l : List Str} (h : H a = some (.lst (l.map V.str))) (q : Q (.bl (decide (k ∈ l))) H) : rIn K false (.str k) (.ref a) H Q :=
  ⟨a, _, rfl, .inl (SqL.of h), rfl, flat_strs l, by rw [inV_strs]; exact q⟩
theorem g_inInts {a : Addr} {k : Int} {l : List Int} (h : H a = some (.lst (l.map V.int))) (q : Q (.bl (decide (k ∈ l))) H) : rIn K false (.int k) (.ref a) H Q :=
  ⟨a, _, rfl, .inl (SqL.of h), rfl, flat_ints l, by rw [inV_ints]; exact q⟩
theorem g_notinStrs {a : Addr} {k : Str} {l : List Str} (h : H a = some (.lst (l.map V.str))) (q : Q (.bl (!decide (k ∈ l))) H) : rIn K true (.str k) (.ref a) H Q :=
  ⟨a, _, rfl, .inl (SqL.of h), rfl, flat_strs l, by rw [inV_strs]; exact q⟩
theorem g_notinInts {a : Addr} {k : Int} {l : List Int} (h : H a = some (.lst (l.map V.int))) (q : Q (.bl (!decide (k ∈ l))) H) : rIn K true (.int k) (.ref a) H Q :=
  ⟨a, _, rfl, .inl (SqL.of h), rfl, flat_ints l, by rw [inV_ints]; exact q⟩
theorem g_any {a : Addr} {bs : List Bool} (h : H a = some (.lst (bs.map V.bl))) (q : Q (.bl (bs.any id)) H) : rAny K [.ref a] H Q := ⟨a, bs, rfl, SqL.of h, q⟩
def rLtS : R2 := fun x y H Q => ∃ i j, x = .str i ∧ y = .str j ∧ Q (.bl (decide (i.cps.toList < j.cps.toList))) H
def rLeS : R2 := fun x y H Q => ∃ i j, x = .str i ∧ y = .str j ∧ Q (.bl (!decide (j.cps.toList < i.cps.toList))) H
theorem op_ltSQ {X : Cx} : OpR X (compareOp .Lt) rLtS := op_lt_str
theorem op_leSQ {X : Cx} : OpR X (compareOp .LtE) rLeS := op_le_str
theorem g_ltS {i j : Str} (q : Q (.bl (decide (i.cps.toList < j.cps.toList))) H) : rLtS (.str i) (.str j) H Q := ⟨i, j, rfl, rfl, q⟩
theorem g_leS {i j : Str} (q : Q (.bl (!decide (j.cps.toList < i.cps.toList))) H) : rLeS (.str i) (.str j) H Q := ⟨i, j, rfl, rfl, q⟩
theorem g_intk {i : Int} {R : Int → Prop} (q : R i) : ∃ k : Int, V.int i = .int k ∧ R k := ⟨i, rfl, q⟩
theorem eqv_true {d e : PyData} (h : d = e) (r : PyData.eqv d d = true) : PyData.eqv d e = true := h ▸ r
end
end Sk

set_option maxHeartbeats 4000000
/-! f[k](e, ..): what the def keeps is found at the call -/
namespace Sk
open PySem PySem.Spec PyProof.Rows L2
def tCalH (P : Program) (w : World) (K : PySem.W.Frag) (mg : Str → Option Value) (base : Heap) (CX : CXT) (k : Nat) (E : XK) (tf : TE) (t : TA) : TE := fun σ H Q => tf σ H fun x H1 => ∃ f sp, x = .ref f ∧ Hel P w K mg base CX k f sp ∧ t σ H1 fun vs H2 => sp vs H2 Q E
section
variable {X : Cx}
theorem pe_calH {CX : CXT} {k : Nat} {E : XK} {a b e : Expr} {es : List Expr} {ap pos : Pos} {tf : TE} {t : TA} (hr : Room k X.A) (hx : Passes CX X E) (hf : PE X (.Subscript a b ap) tf) (ha : PA X (e :: es) t)
    (he : starEach (e :: es) X.env = (false, eval e X.env) :: starEach es X.env := by rfl) (hpl : (backTo pos (starEach es X.env)).any (·.1) = false := by rfl) :
    PE X (.Call (.Subscript a b ap) (e :: es) [] pos) (tCalH X.prog X.w X.K X.mg X.base CX k E tf t) := by
  refine ⟨fun pins s σ H Q I h => ?_⟩
  have ec : eval (.Call (.Subscript a b ap) (e :: es) [] pos) X.env = (do callWith pos (← eval (.Subscript a b ap) X.env) [] (backTo pos (starEach (e :: es) X.env)) (backToKw pos (keywordEach [] X.env))) := rfl
  rw [ec]
  refine wpAny_bind (thn (hf.run pins s σ H _ I h) fun u s1 ⟨v, H1, I1, r1, f, sp, ev, hS, q1⟩ => ?_)
  subst ev
  cases r1
  obtain ⟨fd, ps, F, hk, hb⟩ := hS.ex
  refine PySem.W.callWith_K (h₀ := X.base) I.ok.mod.kin hk (thn (ha.run pos pins s1 σ H1 _ I1 q1) fun us s2 ⟨vs, H2, I2, r2, q2⟩ => ⟨I2.kIn, ?_⟩) he hpl
  exact run_fn (ds := []) (dvs := []) (E := E) (Q := Q) (us := us) (vs := vs) F hr hb .nil hx I2 r2 (by rw [List.append_nil]; exact q2)
end
theorem Cal.hel {P : Program} {w : World} {K : PySem.W.Frag} {mg : Str → Option Value} {base : Heap} {CX : CXT} {k : Nat} {x : Str} {ps : List Str} {sp : Sp} {f : Addr} (c : Cal P w K mg base CX k x ps sp) (m : mg x = some (.ref f)) : Hel P w K mg base CX k f sp := by
  obtain ⟨f', fd, F, hm, hk, hb⟩ := c.ex
  rw [m] at hm
  cases hm
  exact ⟨fd, ps, F, hk, hb⟩
section
variable {P : Program} {w : World} {K : PySem.W.Frag} {mg : Str → Option Value} {base : Heap} {CX : CXT} {k : Nat} {E : XK} {tf ta tb : TE} {t : TA} {σ : L2.St} {H : Hp} {Q : VK}
theorem g_calH (h : tf σ H fun x H1 => ∃ f sp, x = .ref f ∧ Hel P w K mg base CX k f sp ∧ t σ H1 fun vs H2 => sp vs H2 Q E) : tCalH P w K mg base CX k E tf t σ H Q := h
theorem g_kdct {p : Addr} {z : Str} {v : V} (h : KDct K w p z v) (q : Q v H) : rIxD K w (.ref p) (.str z) H Q := ⟨p, z, v, rfl, rfl, h, q⟩
end
/-! ### for i, x in enumerate(list) -/
def ForE (K : PySem.W.Frag) (g : TG) (tb : TS) (D : Ends) (σ : L2.St) : List V → Hp → Prop := fun vs H => ∃ a xs, vs = [.ref a] ∧ SqL K H a xs ∧ FB (Ite K a) g tb D σ H
section
variable {K : PySem.W.Frag} {σ : L2.St} {H : Hp} {D : Ends} {g : TG} {tb : TS} {ta : TA}
theorem g_forE (h : ta σ H fun vs H1 => ForE K g tb D σ vs H1) : tFor (iEnum K ta) g tb D σ H := h
theorem forE_by {a : Addr} {xs : List V} (hx : SqL K H a xs) (Pv : Nat → L2.St → Hp → Prop) (h0 : Pv 0 σ H) (hl : ∀ i σ' H', i ≤ xs.length → Pv i σ' H' → SqL K H' a xs)
    (hs : ∀ (i : Nat) x σ' H' T, xs[i]? = some x → Pv i σ' H' → H' T = none → g (.ref T) σ' (upd H' T (.tup [.int i, x])) fun σ2 H2 => tb { D with nx := Pv (i + 1), ct := Pv (i + 1), bk := D.nx } σ2 H2) (hd : ∀ σ' H', Pv xs.length σ' H' → D.nx σ' H') : ForE K g tb D σ [.ref a] H := by
  refine ⟨a, xs, rfl, hx, fun i m σ' H' => m = xs.length - i ∧ i ≤ xs.length ∧ Pv i σ' H', ⟨_, rfl, Nat.zero_le _, h0⟩, ?_⟩
  rintro i m σ' H' ⟨rfl, hi, p⟩
  have hq := hl i σ' H' hi p
  by_cases hlt : i < xs.length
  · refine .inr ⟨⟨xs, _, hq, List.getElem?_eq_getElem hlt⟩, Pv (i + 1), fun σ3 H3 q => ⟨_, ?_, rfl, hlt, q⟩, ?_⟩
    · omega
    rintro v H1 ⟨T, x, rfl, hT, rfl, hxi⟩
    exact hs i x σ' H' T (hxi xs hq) p hT
  · have ei : i = xs.length := by omega
    subst ei
    exact .inl ⟨⟨xs, hq, Nat.le_refl _⟩, hd _ _ p⟩
end
end Sk

set_option maxHeartbeats 4000000
/-! the well of drawn numbers; texts that are short and plain -/
namespace Sk
open PySem PySem.Spec PyProof.Rows L2
def spCell (K : PySem.W.Frag) : Sp := fun vs H Q _ => ∃ (a : Addr) (ns : List Int) (k : Int), vs = [.ref a, .int k] ∧ SqL K H a (ns.map V.int) ∧ ns.length ≤ 63 ∧ 0 ≤ k ∧ ∀ c : Int, Q (.int c) H
def spStir : Sp := fun vs H Q _ => ∃ s t : Int, vs = [.int s, .int t] ∧ (0 ≤ s ∧ s < 2 ^ 160 ∧ 0 ≤ t ∧ t < 2 ^ 30) ∧ ∀ r : Int, Q (.int r) H
/-- a well at a, of which less than n + 1 times more was stirred -/
def Well (H : Hp) (a : Addr) (n : Int) : Prop := ∃ x s t : Int, H a = some (.lst [.int x, .int s, .int t]) ∧ (0 ≤ s ∧ s < 2 ^ 160 ∧ 0 ≤ t ∧ t ≤ n)
def But (a : Addr) (H H' : Hp) : Prop := ∀ b o, b ≠ a → H b = some o → H' b = some o
def spWell : Sp := fun vs H Q _ => ∃ c k : Int, vs = [.int c, .int k] ∧ (0 ≤ k ∧ k < 2 ^ 20) ∧ ∀ (a : Addr) (H' : Hp), H a = none → Same H H' → Well H' a 0 → Q (.ref a) H'
def spDraw : Sp := fun vs H Q _ => ∃ (a : Addr) (m n : Int), vs = [.ref a, .int m] ∧ Well H a n ∧ (0 < m ∧ m < 2 ^ 100) ∧ n < 1000000 ∧
  ∀ (r : Int) (H' : Hp), 0 ≤ r → r < m → But a H H' → Well H' a (n + 1) → Q (.int r) H'
theorem But.trans {a : Addr} {H H' H'' : Hp} (h : But a H H') (h' : But a H' H'') : But a H H'' := fun b o n e => h' b o n (h b o n e)
theorem But.refl {a : Addr} {H : Hp} : But a H H := fun _ _ _ e => e
theorem But.of {a : Addr} {H H' : Hp} (h : Same H H') : But a H H' := fun b o _ e => h b o e
theorem But.seen {a : Addr} {H H' : Hp} {b : Addr} {o : HO} (h : But a H H') (e : H b = some o) (n : b ≠ a) : H' b = some o := h b o n e
theorem Well.same {H H' : Hp} {a : Addr} {n : Int} (h : Well H a n) (s : Same H H') : Well H' a n := by
  obtain ⟨x, s1, t, e, b⟩ := h
  exact ⟨x, s1, t, s _ _ e, b⟩
theorem Well.mono {H : Hp} {a : Addr} {n m : Int} (h : Well H a n) (l : n ≤ m) : Well H a m := by
  obtain ⟨x, s1, t, e, b⟩ := h
  exact ⟨x, s1, t, e, by omega⟩
theorem Well.live {H : Hp} {a : Addr} {n : Int} (h : Well H a n) : H a ≠ none := by
  obtain ⟨x, s1, t, e, b⟩ := h
  rw [e]; simp
/-! ### texts -/
/-- only plain code points, at most n of them -/
structure Tx (n : Nat) (x : Str) : Prop where
  ok : PyData.strOk x = true
  le : x.length ≤ n
theorem strOk_iff {x : Str} : PyData.strOk x = true ↔ ∀ c ∈ x.cps.toList, c < 0x110000 := by
  unfold PyData.strOk
  rw [← Array.all_toList, List.all_eq_true]
  simp
theorem Tx.app {n m : Nat} {x y : Str} (h : Tx n x) (h' : Tx m y) : Tx (n + m) (x ++ y) := by
  refine ⟨strOk_iff.mpr fun c hc => ?_, ?_⟩
  · have e : (x ++ y).cps.toList = x.cps.toList ++ y.cps.toList := by
      show (x.cps ++ y.cps).toList = _
      rw [Array.toList_append]
    rw [e] at hc
    rcases List.mem_append.mp hc with z | z
    · exact strOk_iff.mp h.ok c z
    · exact strOk_iff.mp h'.ok c z
  · show (x.cps ++ y.cps).size ≤ _
    rw [Array.size_append]
    have h1 : x.cps.size ≤ n := h.le
    have h2 : y.cps.size ≤ m := h'.le
    omega
theorem Tx.mono {n m : Nat} {x : Str} (h : Tx n x) (l : n ≤ m) : Tx m x := ⟨h.ok, Nat.le_trans h.le l⟩
theorem Tx.cut {n : Nat} {x : Str} (h : Tx n x) (lo hi : Option Int) : Tx n (cutS x lo hi) := by
  refine ⟨strOk_iff.mpr fun c hc => ?_, ?_⟩
  · have hc' : c ∈ (x.cps.toList.drop (HT.sIx x.length 0 lo)).take (HT.sIx x.length x.length hi - HT.sIx x.length 0 lo) := hc
    exact strOk_iff.mp h.ok c (List.mem_of_mem_drop (List.mem_of_mem_take hc'))
  · show ((x.cps.toList.drop _).take _).toArray.size ≤ n
    rw [List.size_toArray, List.length_take, List.length_drop]
    have : x.cps.toList.length ≤ n := h.le
    omega
theorem Tx.cutTo {n : Nat} {x : Str} (h : Tx n x) (k : Nat) : Tx k (cutS x none (some (k : Int))) := by
  refine ⟨(h.cut _ _).ok, ?_⟩
  show ((x.cps.toList.drop _).take _).toArray.size ≤ k
  rw [List.size_toArray, List.length_take, List.length_drop, HT.sIx_nat, HT.sIx_none]
  omega
theorem Tx.one {c : Nat} (h : c < 0x110000) : Tx 1 ⟨#[c]⟩ := ⟨strOk_iff.mpr fun d hd => by
  have : d = c := by simpa using hd
  rw [this]; exact h, Nat.le_refl _⟩
theorem Tx.nil : Tx 0 Str.empty := ⟨strOk_iff.mpr fun d hd => (List.not_mem_nil hd).elim, Nat.le_refl _⟩
theorem Tx.join : ∀ ys : List Str, (∀ y ∈ ys, Tx 1 y) → Tx ys.length (Str.join Str.empty ys)
  | [], _ => Tx.nil
  | [y], h => h y (by simp)
  | y :: z :: r, h => by
    have h1 := (h y (by simp)).app Tx.nil
    have h2 := Tx.join (z :: r) fun a ha => h a (List.mem_cons_of_mem _ ha)
    have := h1.app h2
    refine this.mono ?_
    show 1 + 0 + (z :: r).length ≤ (z :: r).length + 1
    omega
theorem glued_aux : ∀ (ys : List Str) (acc : Array Nat) (n : Nat), (∀ c ∈ acc.toList, c < 0x110000) → acc.size ≤ n → (∀ y ∈ ys, Tx 1 y) → (∀ c ∈ (ys.foldl (fun a p => a ++ Str.empty.cps ++ p.cps) acc).toList, c < 0x110000) ∧ (ys.foldl (fun a p => a ++ Str.empty.cps ++ p.cps) acc).size ≤ n + ys.length
  | [], acc, n, h, l, _ => ⟨h, l⟩
  | y :: r, acc, n, h, l, hy => by
    have h1 := hy y List.mem_cons_self
    have h2 := glued_aux r (acc ++ Str.empty.cps ++ y.cps) (n + 1) (fun c hc => by
      simp only [Array.toList_append, List.mem_append] at hc
      rcases hc with (z | z) | z
      · exact h c z
      · exact (List.not_mem_nil z).elim
      · exact strOk_iff.mp h1.ok c z) (by
      have : y.cps.size ≤ 1 := h1.le
      have e : Str.empty.cps.size = 0 := rfl
      rw [Array.size_append, Array.size_append, e]
      omega) fun z hz => hy z (List.mem_cons_of_mem _ hz)
    refine ⟨h2.1, Nat.le_trans h2.2 ?_⟩
    rw [List.length_cons]
    omega
theorem Tx.glued {ys : List Str} (h : ∀ y ∈ ys, Tx 1 y) : Tx ys.length (Txt.join Str.empty ys) := by
  cases ys with
  | nil => exact Tx.nil
  | cons y r =>
    have h1 := h y List.mem_cons_self
    have h2 := glued_aux r y.cps 1 (strOk_iff.mp h1.ok) h1.le fun z hz => h z (List.mem_cons_of_mem _ hz)
    exact ⟨strOk_iff.mpr h2.1, by
      have := h2.2
      show (r.foldl (fun a p => a ++ Str.empty.cps ++ p.cps) y.cps).size ≤ _
      rw [List.length_cons]
      omega⟩
theorem pi_listK {X : Cx} (K : PySem.W.Frag) (hK : X.K = K) {tg l : Expr} {tl : TE} (hl : PE X l tl) : PI X tg l (iList K tl) := hK ▸ pi_list hl
theorem g_pairC {tk tv : TE} {r : List (TE × TE)} {σ : L2.St} {H : Hp} {Q : List (V × V) → Hp → Prop} (h : tk σ H fun x H1 => tv σ H1 fun y H2 => tPairs r σ H2 fun ps H3 => Q ((x, y) :: ps) H3) : tPairs ((tk, tv) :: r) σ H Q := h
theorem g_pairN {σ : L2.St} {H : Hp} {Q : List (V × V) → Hp → Prop} (h : Q [] H) : tPairs [] σ H Q := h
theorem g_disp {trs : List (TE × TE)} {σ : L2.St} {H : Hp} {Q : VK} (h : ∀ p, H p = none → tPairs trs σ (upd H p (.dK [])) fun ps H2 => H2 p = some (.dK []) ∧ ∃ kvs : List (Key × V), ps = kvs.map (fun kv => (kV kv.1, kv.2)) ∧ kvs.length ≤ 15 ∧ Q (.ref p) (upd H2 p (.dK (mergeK [] kvs)))) : tDisp trs σ H Q := h
theorem g_ckw {r : List V → List V → Hp → VK → Prop} {t tk : TA} {σ : L2.St} {H : Hp} {Q : VK} (h : t σ H fun vs H1 => tk σ H1 fun zs H2 => r vs zs H2 Q) : tCKw r t tk σ H Q := h
/-! ### a place to stop: what holds behind a statement is said once -/
def tMark (t : TS) : TS := fun D σ H => t D σ H
theorem ps_mark {X : Cx} {st : Stmt} {t : TS} (h : PS X st t) : PS X st (tMark t) := h
theorem g_mark {t : TS} {D : Ends} {σ : L2.St} {H : Hp} (h : t D σ H) : tMark t D σ H := h
theorem g_mid {t : TS} {D : Ends} {σ : L2.St} {H : Hp} (Mid : L2.St → Hp → Prop) (rest : ∀ σ' H', Mid σ' H' → D.nx σ' H') (h : ∀ N : L2.St → Hp → Prop, (∀ σ' H', Mid σ' H' → N σ' H') → t { D with nx := N } σ H) : tMark t D σ H := h D.nx rest
/-! ### comprehensions over range(n) -/
section
variable {K : PySem.W.Frag} {σ : L2.St} {H : Hp} {Q : VK} {g : TG} {tt : TT} {te : TE} {vs : List Nat}
theorem lcRg_by {n : Nat} {j : Int} (e : j = (n : Int)) (hn : n ≤ 100000) (R : Nat → List V → Hp → Prop) (h0 : R 0 [] H) (hl : ∀ i acc H', i ≤ n → R i acc H' → acc.length ≤ i) (hst : ∀ D i acc H' o, H D = none → R i acc H' → R i acc (upd H' D o))
    (hs : ∀ D i acc H', H D = none → i < n → R i acc H' → H' D ≠ none → ∀ Rr : Option V → Hp → Prop, (∀ y H'', R (i + 1) (acc ++ [y]) H'' → H'' D = H' D → Rr (some y) H'') → LcBody g tt te vs σ (.int (i : Int)) H' Rr)
    (hd : ∀ D acc H', H D = none → R n acc H' → H' D = some (.lst acc) → Q (.ref D) H') : LcRg1 g tt te vs σ Q [.int j] H := by
  subst e
  refine ⟨(n : Int), rfl, by omega, by omega, fun D hD => ?_⟩
  rw [Int.toNat_natCast]
  refine lc_range (lo := 0) (n := n) (fun i H' => ∃ acc, R i acc H' ∧ H' D = some (.lst acc)) ⟨[], hst D 0 [] H _ hD h0, upd_same⟩ (fun i H' hi ⟨acc, r, eD⟩ => ?_) (fun H' ⟨acc, r, eD⟩ => hd D acc H' hD r eD)
  rw [Int.zero_add]
  have la := hl i acc H' (by omega) r
  exact hs D i acc H' hD hi r (by rw [eD]; simp) (fun y H4 => match y with
    | some y => ∃ acc, H4 D = some (.lst acc) ∧ acc.length < sizeLine ∧ ∃ acc', R (i + 1) acc' (upd H4 D (.lst (acc ++ [y]))) ∧ upd H4 D (.lst (acc ++ [y])) D = some (.lst acc')
    | none => ∃ acc', R (i + 1) acc' H4 ∧ H4 D = some (.lst acc')) fun y H'' r' e2 => ⟨acc, e2.trans eD, by rw [sizeLine_eq]; omega, acc ++ [y], hst D _ _ _ _ hD r', upd_same⟩
theorem lcRg_to {n : Nat} {j : Int} (e : j = (n : Int)) (hn : n ≤ 100000) (f : Nat → V)
    (hs : ∀ (i : Nat) H', i < n → Same H H' → ∀ R : Option V → Hp → Prop, (∀ H'', Same H' H'' → R (some (f i)) H'') → LcBody g tt te vs σ (.int (i : Int)) H' R)
    (hd : ∀ D H', H D = none → Same H H' → H' D = some (.lst ((List.range n).map f)) → Q (.ref D) H') : LcRg1 g tt te vs σ Q [.int j] H := by
  refine lcRg_by e hn (fun i acc H' => acc = (List.range i).map f ∧ Same H H') ⟨rfl, Same.refl _⟩ (fun i acc H' _ r => by rw [r.1]; simp) (fun D i acc H' o hD r => ⟨r.1, fun b u eb => by rw [upd_ne (ne_of_none eb hD)]; exact r.2 _ _ eb⟩) ?_ ?_
  · intro D i acc H' hD hi r hl Rr k
    refine hs i H' hi r.2 Rr fun H'' s => k _ _ ⟨?_, r.2.trans s⟩ ?_
    · rw [r.1, List.range_succ, List.map_append]
      rfl
    · cases eD : H' D with
      | none => exact (hl eD).elim
      | some o => exact s _ _ eD
  · intro D acc H' hD r eD
    exact hd D H' hD r.2 (by rw [eD, r.1])
end
theorem atI_ex {xs : List V} {r : Int} (h0 : 0 ≤ r) (h1 : r < xs.length) : ∃ v, v ∈ xs ∧ atI xs r = some v := by
  have hj : r.toNat < xs.length := by omega
  have e : r = ((r.toNat : Nat) : Int) := by omega
  refine ⟨xs[r.toNat], List.getElem_mem hj, ?_⟩
  have := atI_nat (xs := xs) (List.getElem?_eq_getElem hj)
  rwa [← e] at this
/-- the letters -/
abbrev abc : Str := "abcdefghijklmnopqrstuvwxyz"
theorem abc_at : ∀ k : Nat, k < 26 → atI abc.cps.toList (k : Int) = some (97 + k) := by decide +kernel
def chr (k : Nat) : Str := ⟨#[97 + k]⟩
theorem Tx.chr {k : Nat} (h : k < 26) : Tx 1 (Sk.chr k) := Tx.one (by omega)
section
variable {K : PySem.W.Frag} {σ : L2.St} {H : Hp} {Q : VK} {te tv : TE}
theorem g_ixS {z : Str} {i : Int} {c : Nat} (l : z.length ≤ sizeLine) (h : atI z.cps.toList i = some c) (q : Q (.str ⟨#[c]⟩) H) : rIxS (.str z) (.int i) H Q := ⟨z, i, c, rfl, rfl, l, h, q⟩
theorem g_abc {i : Int} (h0 : 0 ≤ i) (h1 : i < 26) (q : Q (.str (Sk.chr i.toNat)) H) : rIxS (.str abc) (.int i) H Q := g_ixS (by rw [sizeLine_eq]; decide +kernel) (by
  have e : i = ((i.toNat : Nat) : Int) := by omega
  rw [e]
  exact abc_at i.toNat (by omega)) q
def rAddS : R2 := fun x y H Q => ∃ i j, x = .str i ∧ y = .str j ∧ i.length + j.length ≤ sizeLine ∧ Q (.str (i ++ j)) H
theorem op_addSQ {X : Cx} : OpR X (binaryOp .Add) rAddS := op_add_str
theorem g_addS {x y : Str} {n m : Nat} (hx : Tx n x) (hy : Tx m y) (l : n + m ≤ 1000) (q : Q (.str (x ++ y)) H) : rAddS (.str x) (.str y) H Q := ⟨x, y, rfl, rfl, by have := hx.le; have := hy.le; rw [sizeLine_eq]; omega, q⟩
theorem g_slS {z : Str} {lo hi : Option Int} {n : Nat} (h : Tx n z) (l : n ≤ 1000) (q : Q (.str (cutS z lo hi)) H) : rSlS (.str z) lo hi H Q := ⟨z, rfl, by have := h.le; rw [sizeLine_eq]; omega, q⟩
def rJoin (K : PySem.W.Frag) : V → List V → Hp → VK → Prop := fun x xs H Q => ∃ a p, ∃ ys : List Str, x = .str a ∧ xs = [.ref p] ∧ (SqL K H p (ys.map V.str) ∨ SqT K H p (ys.map V.str)) ∧
  (ys.map (·.length)).sum + ys.length * a.length ≤ 16777216 ∧ Q (.str (Txt.join a ys)) H
theorem pe_joinQ {X : Cx} {o e : Expr} {to te : TE} {apos pos : Pos} (ho : PE X o to) (he : PE X e te) (hs : starEach [e] X.env = [(false, eval e X.env)] := by rfl) (hbase : attributeBase o "join" X.env (eval o X.env) = eval o X.env := by rfl) (hline : (apos.endLine == pos.line) = true := by rfl) :
    PE X (.Call (.Attribute o "join" apos) [e] [] pos) (tM1 (rJoin X.K) to te) := pe_join ho he hs hbase hline
def TyS1 (x : V) (te : TE) (σ : L2.St) (H : Hp) (R : V → Hp → Prop) : Prop := (∃ a, x = .str a) ∧ te σ H R
theorem g_m1 {r : V → List V → Hp → VK → Prop} (h : tv σ H fun x H1 => TyS1 x te σ H1 fun y H2 => r x [y] H2 Q) : tM1 r tv te σ H Q := h
theorem g_tyS1 {z : Str} {R : V → Hp → Prop} (h : te σ H R) : TyS1 (.str z) te σ H R := ⟨⟨z, rfl⟩, h⟩
theorem sum_le_len : ∀ ys : List Str, (∀ y ∈ ys, Tx 1 y) → (ys.map (·.length)).sum ≤ ys.length
  | [], _ => Nat.le_refl _
  | y :: r, h => by
    have h1 := (h y List.mem_cons_self).le
    have h2 := sum_le_len r fun z hz => h z (List.mem_cons_of_mem _ hz)
    rw [List.map_cons, List.sum_cons, List.length_cons]
    omega
theorem g_join {p : Addr} {ys : List Str} (hp : H p = some (.lst (ys.map V.str))) (h : ∀ y ∈ ys, Tx 1 y) (l : ys.length ≤ 1000) (q : Q (.str (Txt.join Str.empty ys)) H) : rJoin K (.str (Str.ofString "")) [.ref p] H Q :=
  ⟨Str.empty, p, ys, by decide +kernel, rfl, .inl (SqL.of hp), by
    have := sum_le_len ys h
    have e : Str.empty.length = 0 := rfl
    rw [e]
    omega, q⟩
theorem g_ixEx {p : Addr} {xs : List V} {r : Int} (h : H p = some (.lst xs)) (h0 : 0 ≤ r) (h1 : r < xs.length) (q : ∀ v, v ∈ xs → Q v H) : rIxL K (.ref p) (.int r) H Q := by
  obtain ⟨v, hv, ev⟩ := atI_ex h0 h1
  exact g_ixL h ev (q v hv)
def rLenS : List V → Hp → VK → Prop := fun xs H Q => ∃ z, xs = [.str z] ∧ z.length ≤ sizeLine ∧ Q (.int z.length) H
theorem call_lenSQ {X : Cx} : CallR X (.builtin "len") rLenS := call_len_str
theorem g_lenS {z : Str} {n : Nat} (h : Tx n z) (l : n ≤ 1000) (q : Q (.int z.length) H) : rLenS [.str z] H Q := ⟨z, rfl, by have := h.le; rw [sizeLine_eq]; omega, q⟩
def rLenD : List V → Hp → VK → Prop := fun xs H Q => ∃ a kvs, xs = [V.ref a] ∧ H a = some (.dK kvs) ∧ Q (.int kvs.length) H
theorem call_lenDQ {X : Cx} : CallR X (.builtin "len") rLenD := call_lenD
theorem g_lenD {a : Addr} {kvs : List (Key × V)} (h : H a = some (.dK kvs)) (q : Q (.int kvs.length) H) : rLenD [.ref a] H Q := ⟨a, kvs, rfl, h, q⟩
/-- texts as data -/
def strsD (xs : List Str) : List PyData := xs.map PyData.str
theorem strsDp {K : PySem.W.Frag} {H : Hp} : ∀ xs : List Str, DpAll K H (xs.map V.str) (strsD xs)
  | [] => .nil
  | x :: r => .cons (.str x) (strsDp r)
theorem strs_lay : ∀ xs : List Str, (∀ x ∈ xs, PyData.strOk x = true) → PyData.canLayAll0 (strsD xs) = true ∧ PyData.depthAll (strsD xs) = 0
  | [], _ => ⟨rfl, rfl⟩
  | x :: r, h => by
    have ih := strs_lay r fun y hy => h y (List.mem_cons_of_mem _ hy)
    constructor
    · show (PyData.strOk x && PyData.canLayAll0 (strsD r)) = true
      rw [h x List.mem_cons_self, ih.1]; rfl
    · show max 0 (PyData.depthAll (strsD r)) = 0
      rw [ih.2]; rfl
theorem strs_shaped {xs : List Str} (h : ∀ x ∈ xs, PyData.strOk x = true) : SeqAt.shaped (.list (strsD xs)) = true := by
  obtain ⟨h1, h2⟩ := strs_lay xs h
  show (PyData.canLayAll0 (strsD xs) && decide (PyData.depthAll (strsD xs) + 1 ≤ 64)) = true
  rw [h1, h2]
  rfl
end
end Sk

set_option maxHeartbeats 4000000
/-! d == {} -/
namespace Sk
open PySem PySem.Spec PyProof.Rows L2
def rEqE : R2 := fun x y H Q => ∃ a b ks, x = .ref a ∧ y = .ref b ∧ H a = some (.dK ks) ∧ H b = some (.dK []) ∧ Q (.bl (decide (ks = []))) H
theorem op_eqE {X : Cx} (hu : X.A.units < cLine) : OpR X (compareOp .Eq) rEqE := by
  intro pins s σ H x y v u Q I rx ry h
  obtain ⟨a, b, ks, e1, e2, ea, eb, q⟩ := h
  by_cases hk : ks = []
  · subst hk
    exact op_eq_dictA hu pins s σ H x y v u Q I rx ry ⟨a, b, [], [], e1, e2, ea, eb, rfl, fun _ z => (List.not_mem_nil z).elim, by simpa using q⟩
  · subst e1 e2
    obtain rfl : v = Value.ref a := rx
    obtain rfl : u = Value.ref b := ry
    obtain ⟨_, ya, va, ra, da⟩ := (show ObjOk X.prog X.w H s.heap a (.dK ks) from I.hok a _ ea)
    obtain ⟨_, yb, vb, rb, db⟩ := (show ObjOk X.prog X.w H s.heap b (.dK []) from I.hok b _ eb)
    have hb0 : vb.length = 0 := by rw [← rb.length]; rfl
    have ha0 : va.length ≠ 0 := by rw [← ra.length]; exact fun z => hk (List.length_eq_zero_iff.mp z)
    rw [decide_eq_false hk] at q
    exact PySem.W.keq_eq (knd := mixKind X.prog X.w) (r := true) ya yb da db hu (fun hl => absurd (hl.trans hb0) ha0) (fin_bl I q (by simp; omega))
theorem g_eqE {H : Hp} {Q : VK} {a b : Addr} {ks : List (Key × V)} (h1 : H a = some (.dK ks)) (h2 : H b = some (.dK [])) (q : Q (.bl (decide (ks = []))) H) : rEqE (.ref a) (.ref b) H Q := ⟨a, b, ks, rfl, rfl, h1, h2, q⟩
end Sk

set_option maxHeartbeats 4000000
/-! a def called by keywords alone; rules for a block with the written part said; a comprehension that lays new things -/
namespace Sk
open PySem PySem.Spec PyProof.Rows L2
structure CalK (P : Program) (w : World) (K : PySem.W.Frag) (mg : Str → Option Value) (base : Heap) (CX : CXT) (k : Nat) (x : Str) (ps ks : List Str) (sp : Sp) : Prop where
  ex : ∃ f fd, FnOk P w K mg base CX k f fd ps sp ∧ mg x = some (.ref f) ∧ PySem.W.keepIn K (.ref f) = true ∧ KBn K fd ps 0 ks (fun _ ws => ws) (fun _ zs => zs)
def tCalK (n : Nat) (sp : Sp) (E : XK) (tk : TA) : TE := fun σ H Q => tk σ H fun zs H2 => zs.length = n ∧ sp zs H2 Q E
theorem pe_calK0 {X : Cx} {CX : CXT} {k : Nat} {x : Str} {ps ks : List Str} {sp : Sp} {E : XK} {p pos : Pos} {kws : List Keyword} {tk : TA} (c : CalK X.prog X.w X.K X.mg X.base CX k x ps ks sp) (hr : Room k X.A) (hg : Gl X x) (hx : Passes CX X E) (hkw : PK X kws tk)
    (hall : (backToKw pos (keywordEach kws X.env)).all (·.1.isSome) = true := by rfl) (hks : (backToKw pos (keywordEach kws X.env)).filterMap (·.1) = ks := by rfl) (hdb : (x == ("__debug__" : Str)) = false := by decide)
    (hpl : ((backTo pos (starEach [] X.env)).any (·.1) || (backToKw pos (keywordEach kws X.env)).any (·.1.isNone)) = false := by rfl) : PE X (.Call (.Name x p) [] kws pos) (tCalK ks.length sp E tk) := by
  obtain ⟨f, fd, F, hm, hk, hb⟩ := c.ex
  refine ⟨fun pins s σ H Q I h => ?_⟩
  refine wpAny_Call_Name_kw (ld_glob I hg hm ?_ hdb)
  refine PySem.W.callWith_KW0 (h₀ := X.base) I.ok.mod.kin hk hall (thn (hkw.run pos pins s σ H _ I h) fun ws s2 ⟨zs, H2, I2, rz, l2, q2⟩ => ⟨I2.kIn, ?_⟩) hpl
  rw [hks]
  exact run_fnN (us := []) (vs := []) F hr hb hx I2 .nil rz rfl l2 q2
theorem g_calK {n : Nat} {sp : Sp} {E : XK} {tk : TA} {σ : L2.St} {H : Hp} {Q : VK} (h : tk σ H fun zs H2 => zs.length = n ∧ sp zs H2 Q E) : tCalK n sp E tk σ H Q := h
theorem FunD.kbn {K : PySem.W.Frag} {x qual : Str} {params : Arguments} {body : List Stmt} {scope : Scope} {kws : List (Str × V)} {f : Addr} {fd : FuncData} {ps ks : List Str} (F : FunD K x qual params body scope [] kws f fd)
    (h : ∀ (kV doc pm : Value) (an : Option Addr) (cdv ct : Value) (ws : List Value), ws.length = ks.length → bindArgs (PySem.W.fnOf x qual params body scope .none kV doc pm an cdv ct) ⟨[], ks.zip ws⟩ = pure (ps.zip ws)) : KBn K fd ps 0 ks (fun _ ws => ws) (fun _ zs => zs) := by
  obtain ⟨oc, od, dV, kV, doc, pm, an, cdv, ct, osl, rfl, lk, hcd, hD, hK⟩ := F.ex
  rcases hD with ⟨_, rfl⟩ | ⟨e, _⟩
  · refine ⟨fun s us ws _ l1 l2 => ?_, fun _ r => r⟩
    have eu : us = [] := List.length_eq_zero_iff.mp l1
    subst eu
    exact .of_eq (h kV doc pm an cdv ct ws l2)
  · exact absurd rfl e
section
variable {X : Cx} (K : PySem.W.Frag) (hK : X.K = K)
include hK
theorem sl_tupAK : SlR X (rSlA K) := hK ▸ sl_tupA
theorem op_catAK : OpR X (binaryOp .Add) (rCatA K) := hK ▸ op_catA
def rListOf (K : PySem.W.Frag) : List V → Hp → VK → Prop := fun xs H Q => ∃ p ys, xs = [.ref p] ∧ (SqL K H p ys ∨ SqT K H p ys) ∧ ∀ l, H l = none → Q (.ref l) (upd H l (.lst ys))
theorem call_list_ofK : CallR X (.type "list") (rListOf K) := hK ▸ call_list_of
end
section
variable {K : PySem.W.Frag} {σ : L2.St} {H : Hp} {Q : VK} {g : TG} {tt : TT} {te : TE} {vs : List Nat}
theorem lcL_new {a : Addr} {xs : List V} (hx : SqL K H a xs) (hz : xs.length < sizeLine) (R : Addr → Nat → List V → Hp → Prop) (h0 : ∀ D, H D = none → R D 0 [] (upd H D (.lst []))) (hq : ∀ D i acc H', H D = none → R D i acc H' → SqL K H' a xs) (hl : ∀ D i acc H', i ≤ xs.length → R D i acc H' → acc.length ≤ i)
    (hs : ∀ D (i : Nat) x acc H', H D = none → xs[i]? = some x → R D i acc H' → H' D = some (.lst acc) → ∀ Rr : Option V → Hp → Prop, (∀ y H'', H'' D = some (.lst acc) → R D (i + 1) (acc ++ [y]) (upd H'' D (.lst (acc ++ [y]))) → Rr (some y) H'') → LcBody g tt te vs σ x H' Rr)
    (hd : ∀ D acc H', H D = none → R D xs.length acc H' → H' D = some (.lst acc) → Q (.ref D) H') : LcL K g tt te vs σ Q (.ref a) H := by
  refine ⟨a, rfl, ⟨xs, hx⟩, fun D hD => lc_list (fun i H' => i ≤ xs.length ∧ ∃ acc, R D i acc H' ∧ H' D = some (.lst acc)) ⟨Nat.zero_le _, [], h0 D hD, upd_same⟩ (fun i H' _ ⟨_, acc, r, _⟩ => hq D i acc H' hD r) ?_ (fun H' ⟨_, acc, r, e⟩ => hd D acc H' hD r e)⟩
  rintro i x H' hi ⟨_, acc, r, e1⟩
  have hlt : i < xs.length := (List.getElem?_eq_some_iff.mp hi).1
  have la := hl D i acc H' (by omega) r
  exact hs D i x acc H' hD hi r e1 (fun r' H4 => match r' with
    | some y => ∃ acc, H4 D = some (.lst acc) ∧ acc.length < sizeLine ∧ (i + 1 ≤ xs.length ∧ ∃ acc', R D (i + 1) acc' (upd H4 D (.lst (acc ++ [y]))) ∧ upd H4 D (.lst (acc ++ [y])) D = some (.lst acc'))
    | none => i + 1 ≤ xs.length ∧ ∃ acc', R D (i + 1) acc' H4 ∧ H4 D = some (.lst acc')) fun y H'' e2 r2 => ⟨acc, e2, by omega, by omega, _, r2, upd_same⟩
end
end Sk

set_option maxHeartbeats 4000000
/-! sorted of lists of data, of a dict with tuple keys -/
namespace Sk
open PySem PySem.Spec PyProof.Rows L2
/-- an item and what it reads as -/
abbrev Zd : Type := V × PyData
abbrev zLe : Zd → Zd → Bool := PySem.W.dataLe false (fun z : Zd => z.2)
structure ZsOk (K : PySem.W.Frag) (H : Hp) (zs : List Zd) : Prop where
  dp : ∀ z ∈ zs, Dp K H z.1 z.2
  al : PySem.W.AllAlike (zs.map (·.2))
  so : PySem.W.Sortable (zs.map (·.2))
  dep : ∀ z ∈ zs, z.2.depth ≤ 50
  len : zs.length ≤ 1000
def rSortDt (K : PySem.W.Frag) : List V → Hp → VK → Prop := fun vs H Q => ∃ (a : Addr) (zs : List Zd), vs = [.ref a] ∧ SqL K H a (zs.map (·.1)) ∧ ZsOk K H zs ∧ ∀ p, H p = none → Q (.ref p) (upd H p (.lst ((zs.mergeSort zLe).map (·.1))))
theorem eachV : ∀ {zs : List Zd} {us : List Value}, Vals (zs.map (·.1)) us → PySem.W.EachIs (fun v (z : Zd) => RelV z.1 v) us zs
  | [], _, h => by cases h; exact .nil
  | z :: r, _, h => by
    cases h with
    | cons h1 h2 => exact .cons h1 (eachV h2)
theorem valsE : ∀ {zs : List Zd} {us : List Value}, PySem.W.EachIs (fun v (z : Zd) => RelV z.1 v) us zs → Vals (zs.map (·.1)) us
  | _, _, .nil => .nil
  | _, _, .cons h1 h2 => .cons h1 (valsE h2)
section
variable {X : Cx} {pins : List (Addr × Obj)} {σ : L2.St} {H : Hp} {s : Shared}
theorem eachR (I : Inv X pins σ H s) : ∀ {zs : List Zd} {us : List Value}, (∀ z ∈ zs, Dp X.K H z.1 z.2) → Vals (zs.map (·.1)) us → PySem.W.EachIs (fun v (z : Zd) => ∃ as, Reads s.heap v z.2 as) us zs
  | [], _, _, h => by cases h; exact .nil
  | z :: r, _, d, h => by
    cases h with
    | cons h1 h2 => exact .cons (Dp.reads I _ _ _ (d z List.mem_cons_self) h1) (eachR I (fun y hy => d y (List.mem_cons_of_mem _ hy)) h2)
end
theorem cr_sortedDt {X : Cx} (hu : X.A.units + 64 < cLine) : CallR X (.builtin "sorted") (rSortDt X.K) := by
  intro pins s σ H vs us Q I r h
  obtain ⟨a, zs, rfl, hs, ok, q⟩ := h
  obtain ⟨its, rv, hl, _⟩ := I.list hs
  rw [Vals.ref1 r]
  refine PySem.W.sorted_data (enc := fun z : Zd => z.2) hl.isList (eachV rv) (eachR I ok.dp rv) ok.al ok.so (by rw [sizeLine_eq]; have := ok.len; omega) (fun z hz => by have := ok.dep z hz; omega) fun out hlen he => ?_
  obtain ⟨ep, he'⟩ := PyProof.Rows.sortedAll_at s.heap its (List.toArray out)
  have hz : ((zs.mergeSort zLe).map (·.1)).length ≤ sizeLine := by rw [List.length_map, List.length_mergeSort, sizeLine_eq]; have := ok.len; omega
  exact ⟨.ref _, upd H (s.heap.objs.size + 1) (.lst ((zs.mergeSort zLe).map (·.1))), I.laid (t' := s.toks) (fun _ _ => PyProof.Rows.sortedAll_old) (Nat.le_succ _) ⟨hz, out, ep, valsE he, he'⟩, rfl, q _ (I.hok.fresh (Nat.le_succ _))⟩
/-! ### sorted of what is walked -/
section
open PySem.Calls PyProof.V
variable {prog : Program} {w : World} {A : Around} {E : Value → Shared → Prop} {s : Shared}
/-- list.sort of a new list whose items were there before -/
theorem sort_new {h' : Heap} {tk : Tok} {vs : List Value} {zs : List Zd} {Q : Value → Shared → Prop} (kp : ∀ b o, s.heap.get? b = some o → h'.get? b = some o) (e : PySem.W.EachIs (fun v (z : Zd) => RelV z.1 v) vs zs) (er : PySem.W.EachIs (fun v (z : Zd) => ∃ as, Reads s.heap v z.2 as) vs zs)
    (al : PySem.W.AllAlike (zs.map (·.2))) (so : PySem.W.Sortable (zs.map (·.2))) (hl : zs.length ≤ sizeLine) (hu : ∀ z ∈ zs, A.units + 1 + z.2.depth < cLine)
    (h : ∀ (h2 : Heap) (out : List Value) (c : Nat), (∀ b o, h'.get? b = some o → h2.get? b = some o) → Vals ((zs.mergeSort zLe).map (·.1)) out → h2.get? h'.objs.size = some { cls := .type "list", dict := none, data := .seq out.toArray c, slots := #[] } → Q .none { s with heap := h2, toks := tk }) :
    wpAny (model prog w) A (call (.builtin "list.sort") [.ref h'.objs.size]) Q E { s with heap := h'.push { cls := .type "list", data := .seq vs.toArray }, toks := tk } := by
  have ho : (h'.push { cls := .type "list", data := .seq vs.toArray }).get? h'.objs.size = some (seqObj "list" vs.toArray 0) := Heap.get?_push_size _ rfl
  have old : ∀ b o, s.heap.get? b = some o → (PySem.W.sortingHeap (h'.push { cls := .type "list", data := .seq vs.toArray }) h'.objs.size vs).get? b = some o := fun b o eb =>
    PySem.W.sortingHeap_old (Nat.ne_of_lt (Heap.lt_size (kp b o eb))) (Heap.get?_push_of_some _ (kp b o eb))
  have er' : PySem.W.EachIs (fun v (z : Zd) => ∃ as, Reads (PySem.W.sortingHeap (h'.push { cls := .type "list", data := .seq vs.toArray }) h'.objs.size vs) v z.2 as) vs zs := er.mono fun _ _ ⟨as, r⟩ => ⟨as, PyProof.Rows.Reads.keeps old r⟩
  refine wpAny_call_entry slot_list_sort ⟨_, ho, rfl⟩ entry_list_sort (PySem.W.list_sort_vals (κ := PySem.W.dataKind (PySem.W.sortingHeap (h'.push { cls := .type "list", data := .seq vs.toArray }) h'.objs.size vs) (zs.map fun z : Zd => z.2)) ho
    (PySem.W.SortsAt.data (s := { s with heap := PySem.W.sortingHeap (h'.push { cls := .type "list", data := .seq vs.toArray }) h'.objs.size vs, toks := tk }) (PySem.W.each_map (R := fun v d => ∃ as, Reads (PySem.W.sortingHeap (h'.push { cls := .type "list", data := .seq vs.toArray }) h'.objs.size vs) v d as) (fun z : Zd => z.2) er') al so (PySem.W.bound_map (enc := fun z : Zd => z.2) hu)) (by rw [e.length]; exact hl) ⟨.none, rfl, ?_⟩) (PyProof.Rows.args_list_sort _)
  obtain ⟨c, hc⟩ := PyProof.Rows.sortedHeap_at (out := (PySem.W.sortVals (PySem.W.dataKind (PySem.W.sortingHeap (h'.push { cls := .type "list", data := .seq vs.toArray }) h'.objs.size vs) (zs.map fun z : Zd => z.2)) false vs vs).toArray) ho
  refine h _ _ c (fun b o eb => ?_) (valsE (PySem.W.sortVals_data (enc := fun z : Zd => z.2) false e er' al)) hc
  rw [PyProof.Rows.sortedHeap_old (Nat.ne_of_lt (Heap.lt_size eb)) (by rw [PyProof.Rows.size_push']; exact Nat.lt_succ_of_lt (Heap.lt_size eb))]
  exact Heap.get?_push_of_some _ eb
/-- sorted(r), r walked by K; what is drawn reads as data -/
theorem sorted_src {T : String} {r d : Addr} {n : Nat} {P : Nat → Value → Prop} {OK : Heap → Prop} {Q : Value → Shared → Prop} (K : PySem.W.KdlSrc prog w T r d n P OK) (hh : A.handled = none) (hok : OK s.heap) (hn : n ≤ sizeLine)
    (h : ∀ (vs : List Value), vs.length = n → (∀ (j : Nat) (v : Value), vs[j]? = some v → P j v) → ∃ zs : List Zd, PySem.W.EachIs (fun v (z : Zd) => RelV z.1 v) vs zs ∧ PySem.W.EachIs (fun v (z : Zd) => ∃ as, Reads s.heap v z.2 as) vs zs ∧ PySem.W.AllAlike (zs.map (·.2)) ∧ PySem.W.Sortable (zs.map (·.2)) ∧ (∀ z ∈ zs, A.units + 2 + z.2.depth < cLine) ∧
      ∀ (h' h2 : Heap) (tk : Tok) (out : List Value) (c : Nat), (∀ b o, s.heap.get? b = some o → h'.get? b = some o) → (∀ b o, h'.get? b = some o → h2.get? b = some o) → Vals ((zs.mergeSort zLe).map (·.1)) out → h2.get? h'.objs.size = some { cls := .type "list", dict := none, data := .seq out.toArray c, slots := #[] } → Q (.ref h'.objs.size) { s with heap := h2, toks := tk }) :
    wpAny (model prog w) A (call (.builtin "sorted") [.ref r]) Q E s := by
  refine call_function_entry kind_sorted plain_sorted entry_sorted (args_sorted1 _) ?_
  unfold Builtin.«sorted»
  refine wpAny_bind (m := checkCount "sorted" 1 1 _) (wpAny_pure ?_)
  refine wpAny_bind (PySem.W.kdu_collect (A := A.in1) K hh hok hn fun h' tk acc hk hacc => ?_)
  have hl : acc.toList.length = n := by rw [Array.length_toList]; exact hacc.1
  obtain ⟨zs, e, er, al, so, hu, q⟩ := h acc.toList hl (fun j v e => hacc.2 j v (by rw [← Array.getElem?_toList]; exact e))
  refine wpAny_bind (wpAny_newList ?_ (by rw [hl]; exact hn))
  refine wpAny_bind (wpAny_holding (wpAny_mono (sort_new (A := A.in1) (s := s) (h' := h') (tk := tk) (Q := fun _ s' => Q (.ref h'.objs.size) s') hk e er al so (by rw [← e.length, hl]; exact hn) (fun z hz => by have := hu z hz; show A.units + 1 + 1 + _ < _; omega) fun h2 out c k2 hv hc => q h' h2 tk out c hk k2 hv hc) (fun _ s' x => ?_) fun _ _ e => e))
  exact wpAny_pure ⟨_, rfl, x⟩
end
/-! ### sorted of a dict with tuple keys -/
def keyD : L2.Key → PyData
  | .inl i => .int i
  | .inr x => .str x
def tupD (k : List L2.Key) : PyData := .tuple (k.map keyD)
theorem keyD_dp {K : PySem.W.Frag} {H : Hp} (k : L2.Key) : Dp K H (kV k) (keyD k) := by cases k with
  | inl i => exact .int i
  | inr x => exact .str x
theorem keysDp {K : PySem.W.Frag} {H : Hp} : ∀ ks : List L2.Key, DpAll K H (ks.map kV) (ks.map keyD)
  | [] => .nil
  | k :: r => .cons (keyD_dp k) (keysDp r)
theorem keyD_dep : ∀ ks : List L2.Key, PyData.depthAll (ks.map keyD) = 0
  | [] => by simp [PyData.depthAll]
  | k :: r => by
    have ih := keyD_dep r
    cases k <;> simp [PyData.depthAll, PyData.depth, keyD, ih]
theorem tupD_dep (k : List L2.Key) : (tupD k).depth = 1 := by
  unfold tupD
  simp [PyData.depth, keyD_dep]
def rSortDT : List V → Hp → VK → Prop := fun vs H Q => ∃ (a : Addr) (kvs : List (List L2.Key × V)), vs = [.ref a] ∧ Rd H a (.dT kvs) ∧ PySem.W.AllAlike (kvs.map fun p => tupD p.1) ∧ PySem.W.Sortable (kvs.map fun p => tupD p.1) ∧ kvs.length ≤ 1000 ∧
  ∀ (p : Addr) (zs : List Zd), H p = none → zs.map (·.2) = kvs.map (fun p => tupD p.1) → (∀ z ∈ zs, ∃ b k, z = (.ref b, tupD k) ∧ H b = some (.tup (k.map kV))) → Q (.ref p) (upd H p (.lst ((zs.mergeSort zLe).map (·.1))))
theorem cr_sortedDT {X : Cx} (hc : X.calm = true) (hu : X.A.units + 64 < cLine) : CallR X (.builtin "sorted") rSortDT := by
  intro pins s σ H vs us Q I r h
  obtain ⟨d, kvs, rfl, hd, al, so, hl, q⟩ := h
  obtain ⟨u, rfl, rx⟩ := r.one
  cases rx
  obtain ⟨z, hs, ks, pr, o, es, ep, ho, hx, hdt, he, hn⟩ := (show ObjOk X.prog X.w H s.heap d (.dT kvs) from hd.ok I.hok)
  have l1 : es.size = ks.length := size_of_entries he
  have l2 : kvs.length = ks.length := Paired.length pr
  have zk : ∀ {kvs : List (List L2.Key × V)} {ks : List (List L2.Key × Addr × Value)}, KT H kvs ks → (ks.map fun x => ((V.ref x.2.1, tupD x.1) : Zd)).map (·.2) = kvs.map fun p => tupD p.1 := by
    intro kvs ks pr
    induction pr with
    | nil => rfl
    | cons h t ih =>
      rw [List.map_cons, List.map_cons, List.map_cons, ih, h.1]
  have zm : ∀ {kvs : List (List L2.Key × V)} {ks : List (List L2.Key × Addr × Value)}, KT H kvs ks → ∀ z ∈ (ks.map fun x => ((V.ref x.2.1, tupD x.1) : Zd)), ∃ b k, z = (.ref b, tupD k) ∧ H b = some (.tup (k.map kV)) := by
    intro kvs ks pr
    induction pr with
    | nil => exact fun _ z => (List.not_mem_nil z).elim
    | @cons a b as bs h t ih =>
      intro z hz
      rcases List.mem_cons.mp hz with e | e
      · exact ⟨b.2.1, b.1, e, by rw [← h.1]; exact h.2.1⟩
      · exact ih z e
  have e2 := zk pr
  have e3 := zm pr
  have eaF : ∀ vs : List Value, vs.length = es.size → (∀ (j : Nat) (v : Value), vs[j]? = some v → ∃ en, es[j]? = some en ∧ v = en.key) → vs = ks.map fun x => Value.ref x.2.1 := by
    intro vs lv hv
    apply List.ext_getElem?
    intro j
    rw [List.getElem?_map]
    cases hj : vs[j]? with
    | none =>
      have h1 := List.getElem?_eq_none_iff.mp hj
      rw [List.getElem?_eq_none (by omega)]
      all_goals rfl
    | some v =>
      obtain ⟨en, hen, hv'⟩ := hv j v hj
      have qe := entry_at he j
      rw [hen] at qe
      cases hb : ks[j]? with
      | none =>
        rw [hb] at qe
        exact nomatch (show some en = none from qe)
      | some b =>
        rw [hb] at qe
        have e2 : en = entryOfKey (tupleKind (mixKind X.prog X.w)) b := Option.some.inj qe
        rw [hv', e2]
        all_goals rfl
  refine sorted_src (kdl_raw hs hx hdt) (I.ok.hd hc) ho (by rw [sizeLine_eq]; omega) fun vs lv hv => ⟨ks.map fun x => ((V.ref x.2.1, tupD x.1) : Zd), ?_, ?_, by rw [e2]; exact al, by rw [e2]; exact so, fun z hz => ?_, fun h' h2 tk out c k1 k2 rv hc2 => ?_⟩
  · have ea := eaF vs lv hv
    subst ea
    exact eachV (zs := ks.map fun x => ((V.ref x.2.1, tupD x.1) : Zd)) (by rw [List.map_map]; exact (show Vals (ks.map fun x => V.ref x.2.1) (ks.map fun x => Value.ref x.2.1) from by
      have := vals_refs (ks.map fun x => x.2.1)
      rw [List.map_map, List.map_map] at this
      exact this))
  · have ea := eaF vs lv hv
    subst ea
    refine eachR I (fun z hz => ?_) (by rw [List.map_map]; exact (show Vals (ks.map fun x => V.ref x.2.1) (ks.map fun x => Value.ref x.2.1) from by
      have := vals_refs (ks.map fun x => x.2.1)
      rw [List.map_map, List.map_map] at this
      exact this))
    obtain ⟨b, k, rfl, hb⟩ := e3 z hz
    exact .tup (SqT.of hb) (keysDp k)
  · obtain ⟨b, k, rfl, hb⟩ := e3 z hz
    show X.A.units + 2 + (tupD k).depth < cLine
    rw [tupD_dep]
    omega
  · have hz : (((ks.map fun x => ((V.ref x.2.1, tupD x.1) : Zd)).mergeSort zLe).map (·.1)).length ≤ sizeLine := by rw [List.length_map, List.length_mergeSort, List.length_map, sizeLine_eq]; omega
    have I1 := I.kept (t' := tk) k1
    exact ⟨.ref h'.objs.size, upd H h'.objs.size (.lst (((ks.map fun x => ((V.ref x.2.1, tupD x.1) : Zd)).mergeSort zLe).map (·.1))), I1.laid (t' := tk) k2 (Nat.le_refl _) ⟨hz, out, c, rv, hc2⟩, rfl, q _ _ (I1.hok.fresh (Nat.le_refl _)) e2 e3⟩
end Sk

set_option maxHeartbeats 4000000
/-! set(list of texts), sorted(set of texts) -/
namespace Sk
open PySem PySem.Spec PyProof.Rows L2
/-- one more member -/
def addK (l : List Str) (k : Str) : List Str := if k ∈ l then l else k :: l
/-- the members of a list, each once -/
def setL (ts : List Str) : List Str := ts.foldl addK []
theorem mem_addK (l : List Str) (k x : Str) : x ∈ addK l k ↔ x ∈ l ∨ x = k := by
  unfold addK
  by_cases c : k ∈ l
  · rw [if_pos c]
    exact ⟨.inl, fun h => h.elim id (fun e => e ▸ c)⟩
  · rw [if_neg c, List.mem_cons]
    exact Or.comm
theorem nd_addK {l : List Str} (h : l.Nodup) (k : Str) : (addK l k).Nodup := by
  unfold addK
  by_cases c : k ∈ l
  · rw [if_pos c]; exact h
  · rw [if_neg c]; exact List.nodup_cons.mpr ⟨c, h⟩
theorem len_addK (l : List Str) (k : Str) : (addK l k).length ≤ l.length + 1 := by
  unfold addK
  by_cases c : k ∈ l
  · rw [if_pos c]; omega
  · rw [if_neg c]; exact Nat.le_refl _
theorem mem_foldK : ∀ (ts l : List Str) (x : Str), x ∈ ts.foldl addK l ↔ x ∈ l ∨ x ∈ ts
  | [], l, x => by simp
  | t :: ts, l, x => by
    rw [List.foldl_cons, mem_foldK ts, mem_addK, List.mem_cons]
    exact or_assoc
theorem nd_foldK : ∀ (ts l : List Str), l.Nodup → (ts.foldl addK l).Nodup
  | [], _, h => h
  | t :: ts, l, h => by
    rw [List.foldl_cons]
    exact nd_foldK ts _ (nd_addK h t)
theorem len_foldK : ∀ (ts l : List Str), (ts.foldl addK l).length ≤ l.length + ts.length
  | [], l => Nat.le_refl _
  | t :: ts, l => by
    rw [List.foldl_cons, List.length_cons]
    have a := len_foldK ts (addK l t)
    have b := len_addK l t
    omega
theorem mem_setL (ts : List Str) (x : Str) : x ∈ setL ts ↔ x ∈ ts := by
  unfold setL
  rw [mem_foldK]
  simp
theorem nd_setL (ts : List Str) : (setL ts).Nodup := nd_foldK ts [] List.nodup_nil
theorem len_setL (ts : List Str) : (setL ts).length ≤ ts.length := by
  have := len_foldK ts []
  rw [List.length_nil, Nat.zero_add] at this
  exact this
/-- the set's object -/
structure TxAt (P : Program) (w : World) (h : Heap) (a : Addr) (l : List Str) : Prop where
  ex : ∃ D : Froz.SD, h.get? a = some (Froz.sObj "set" D) ∧ Froz.TxOk P w D l ∧ Ris D.2.2.place.toList ∧ (w.params.followText "set-order" = true ∨ D.2.2.led = true)
section
variable {P : Program} {w : World} {A : Around} {E : Value → Shared → Prop} {s : Shared}
theorem TxAt.at {h h' : Heap} {a : Addr} {l : List Str} (T : TxAt P w h a l) (k : ∀ o, h.get? a = some o → h'.get? a = some o) : TxAt P w h' a l := by
  obtain ⟨D, ho, r⟩ := T.ex
  exact ⟨D, k _ ho, r⟩
theorem tx_led (ep : Nat) (es1 : Array (Int × Value)) (t2 : SetTable) (wd : Bool) (r : Ris t2.place.toList) (hl : w.params.followText "set-order" = true ∨ t2.led = true) :
    Ris (Froz.tailTx ep es1 t2 wd).2.2.place.toList ∧ (w.params.followText "set-order" = true ∨ (Froz.tailTx ep es1 t2 wd).2.2.led = true) := by
  unfold Froz.tailTx
  by_cases c : (!wd && t2.tooFull) = true
  · rw [if_pos c]
    exact ⟨relayAll_ris t2 es1 _, hl.imp id fun z => by
      show (relayAll t2 es1 _).2.1.led = true
      rw [relayAll_led]; exact z⟩
  · rw [if_neg c]
    exact ⟨r, hl⟩
theorem tx_add {a : Addr} {l : List Str} {k : Str} {u : Tok} {Q : Bool → Shared → Prop} (T : TxAt P w s.heap a l) (hb : l.length + 1 < scanBound)
    (h : ∀ b h', Heap.SameBut a s.heap h' → TxAt P w h' a (addK l k) → Q b { s with heap := h' }) : wpAny (model P w) A (setAddHashed a (.str k u) (hashStr w k)) Q E s := by
  obtain ⟨D, ho, F, hr, hl⟩ := T.ex
  by_cases c : k ∈ l
  · have ek : addK l k = l := if_pos c
    obtain ⟨es, ep, t⟩ := D
    have hd : (Froz.sObj "set" (es, ep, t)).data = .set es ep t := rfl
    have hsz : es.size = l.length := F.sz
    have hb0 : es.size < scanBound := by omega
    have hel : ElemsOf (strKind P w) es.toList := F.el
    have hkey : (strKind P w).is k (.str k u) = true := Froz.is_str k u
    unfold setAddHashed setAddHashedIn
    refine wpAny_holding (wpAny_bind (wpAny_setState_of ho hd F.fit ?_))
    dsimp only
    rw [byScan_of rfl hb0 hel]
    simp only [↓reduceIte]
    unfold setAddByScan
    refine wpAny_bind ?_
    refine wpAny_bind (wpAny_rule ?_)
    refine wpAny_bind (wpAny_setScan_of (knd := strKind P w) (k := k) hkey ho hd F.fit hel ?_)
    cases hfi : List.findIdx? (fun e => (strKind P w).is k e.2) es.toList with
    | none =>
      obtain ⟨e, he, q⟩ := (F.mem k).mp c
      have d := List.findIdx?_eq_none_iff.mp hfi e he
      rw [q] at d
      cases d
    | some j =>
      dsimp only
      refine wpAny_pure (wpAny_pure ?_)
      exact h _ s.heap (Heap.SameBut.refl a s.heap) (by rw [ek]; exact ⟨_, ho, F, hr, hl⟩)
  · have ek : addK l k = k :: l := if_neg c
    refine Froz.add_x ho F c hb (h true _ (Heap.SameBut.update s.heap a _) ?_)
    rw [ek]
    obtain ⟨es, ep, t⟩ := D
    have hr1 := layNew_ris t es (hashStr w k) (.str k u) hr
    have hl1 := layNew_led t es (hashStr w k) (.str k u)
    have hl2 : w.params.followText "set-order" = true ∨ (layNew t es (hashStr w k) (.str k u)).2.1.led = true := hl.imp id fun z => by rw [hl1]; exact z
    refine ⟨_, Froz.get_upd _ ho rfl, Froz.add_ok u F, ?_⟩
    refine tx_led _ _ _ _ ?_ ?_
    · split <;> exact hr1
    · split <;> exact hl2
theorem strs_at {vs : List Value} {ts : List Str} (h : StrsAre vs ts) : ∀ (i : Nat) (v : Value), vs[i]? = some v → ∃ k t, ts[i]? = some k ∧ v = .str k t := by
  induction h with
  | nil => exact fun i v e => by simp at e
  | cons x t r ih =>
    intro i v e
    cases i with
    | zero =>
      rw [List.getElem?_cons_zero] at e
      exact ⟨_, _, rfl, (Option.some.inj e).symm⟩
    | succ i =>
      rw [List.getElem?_cons_succ] at e
      exact ih i v e
theorem set_update_strs {I : Addr} {fp wr : List Addr} {G : Array GenState → Array GenState → Prop} {n : Nat} {Pv : Nat → Value → Prop} {St : Nat → Shared → Prop} {R : Result → Shared → Prop}
    (W : WalksS P w A.in1 I fp wr G n Pv St) (S : Addr) (hSf : S ∉ fp) (ts : List Str) (hn : n = ts.length) (hb : ts.length + 1 < scanBound) (hval : ∀ i v, Pv i v → ∃ k t, ts[i]? = some k ∧ v = .str k t) :
    ∀ (k i : Nat) (s : Shared), n - i = k → i ≤ n → St i s → TxAt P w s.heap S (setL (ts.take i)) →
      (∀ s', Moved (S :: wr) G s s' → TxAt P w s'.heap S (setL ts) → R (.ok (.ret .none)) s') →
      codeAny (model P w) A (.builtin "set.update.loop" ⟨[.ref S, .ref I], []⟩) R s := by
  have hSw : S ∉ wr := fun h => hSf (W.sub _ h)
  have hsub : ∀ b ∈ wr, b ∈ S :: wr := fun b hb => List.mem_cons_of_mem _ hb
  intro k
  induction k with
  | zero =>
    intro i s hk' hi hst hS hR
    have hin : i = n := by omega
    subst hin
    refine codeAny_builtin F.entry_set_update_loop ?_
    rw [Around.under_plainId F.plain_set_update_loop _]
    show wpAny _ A.in1 (pyNext (.ref I) >>= _) _ _ s
    refine wpAny_bind (W.done s _ _ hst fun s' hm => ?_)
    show wpAny _ A.in1 (ret Value.none) _ _ s'
    have e : ts.take i = ts := List.take_of_length_le (by omega)
    rw [e] at hS
    exact wpAny_pure (hR s' (hm.mono hsub) (hS.at fun o e => hm.heap S o hSw e))
  | succ k ih =>
    intro i s hk' hi hst hS hR
    have hlt : i < n := by omega
    refine codeAny_builtin F.entry_set_update_loop ?_
    rw [Around.under_plainId F.plain_set_update_loop _]
    show wpAny _ A.in1 (pyNext (.ref I) >>= _) _ _ s
    refine wpAny_bind (W.item i s _ _ hlt hst fun v s' hP hst' hm => ?_)
    obtain ⟨z, t, hz, rfl⟩ := hval i v hP
    have hS' : TxAt P w s'.heap S (setL (ts.take i)) := hS.at fun o e => hm.heap S o hSw e
    show wpAny _ A.in1 (holding [Value.str z t] (setAdd S (.str z t)) >>= _) _ _ s'
    refine wpAny_bind (wpAny_holding ?_)
    unfold setAdd
    refine wpAny_holding ?_
    refine wpAny_bind ((strKind P w).pyHash (k := z) (strKind_is _ _ _ _) ?_)
    have hl0 : (setL (ts.take i)).length ≤ i := Nat.le_trans (len_setL _) (by rw [List.length_take]; exact Nat.min_le_left _ _)
    refine tx_add (s := { s' with toks := s'.toks + 1 }) hS' (by omega) fun b h' hsb hS2 => ?_
    have hS3 : TxAt P w h' S (setL (ts.take (i + 1))) := by
      have e : setL (ts.take (i + 1)) = addK (setL (ts.take i)) z := by
        unfold setL
        rw [List.take_add_one, hz, List.foldl_append]
        rfl
      rw [e]
      exact hS2
    refine wpAny_pure ⟨plainId_quiet F.plain_set_update_loop _, ih (i + 1) _ (by omega) hlt (W.frame _ s' _ _ hst' (Nat.le_succ _) fun b hb o e => ?_) hS3 fun s'' hm'' hS'' => ?_⟩
    · rw [hsb.2 b (fun h : b = S => hSf (by rw [← h]; exact hb))]; exact e
    · refine hR s'' (Moved.trans W.gtrans ((hm.mono hsub).then_heap (Nat.le_succ _) fun b o hb e => ?_) hm'') hS''
      rw [hsb.2 b (fun h : b = S => hb (by rw [h]; exact List.mem_cons_self))]; exact e
/-- the empty set as it is made -/
abbrev setO0 (w : World) : Obj := { cls := .type "set", dict := none, data := .set #[] 0 (.fresh 0 0 (!w.params.followText "set-order")) }
theorem tx_fresh {h : Heap} {a : Addr} (ho : h.get? a = some (setO0 w)) : TxAt P w h a [] :=
  ⟨(#[], 0, .fresh 0 0 (!w.params.followText "set-order")), ho, Froz.TxOk.nil (by rfl), List.Pairwise.nil, by
    show _ ∨ (!w.params.followText "set-order") = true
    cases w.params.followText "set-order"
    · exact .inr rfl
    · exact .inl rfl⟩
set_option maxHeartbeats 3200000 in
/-- set(xs), a list of texts -/
theorem call_set_strs {l : Addr} {items : Array Value} (ts : List Str) {Q : Value → Shared → Prop} (hh : A.handled = none) (hl : s.heap.IsList l items) (hit : StrsAre items.toList ts) (hb : ts.length + 1 < scanBound)
    (h : ∀ (h' : Heap) (tk : Nat), TxAt P w h' s.heap.objs.size (setL ts) → (∀ b o, s.heap.get? b = some o → h'.get? b = some o) → Q (.ref s.heap.objs.size) { s with heap := h', toks := tk }) :
    wpAny (model P w) A (call (.type "set") [.ref l]) Q E s := by
  have hisz : items.size = ts.length := by
    have q := StrsAre.length hit
    rw [Array.length_toList] at q
    exact q
  obtain ⟨c, tl, hmro⟩ := F.called_set.mro
  have hmade := F.called_set.made
  have hsub := F.called_set.sub
  refine wpAny_call (codeAny_of_tree ?_)
  show wpAny _ _ (callAny (.type "set") _) _ _ _
  refine wpAny_pure ⟨Code.quiet_builtin _ (by decide +kernel), codeAny_builtin F.entry_type_call ?_⟩
  rw [Around.under_plain (weight_type_call_type "set" [.ref l] []) rfl]
  have h1 := F.called_set.notType
  have h2 := F.called_set.canCreate
  have hct := F.typeCall_set_1 (.ref l)
  repeat (any_goals (first | assumption | wp_step))
  refine codeAny_mono (code_set_led1 (.ref l) (E := E) (Q₁ := fun obj s₁ => obj = .ref s.heap.objs.size ∧ s₁ = { s with heap := s.heap.push (setO0 w) }) ⟨rfl, rfl⟩) fun r s₁ hr => ?_
  cases r with
  | error e => exact hr
  | ok fl =>
    cases fl with
    | ret obj =>
      obtain ⟨rfl, rfl⟩ := hr
      have hS : (s.heap.push (setO0 w)).get? s.heap.objs.size = some (setO0 w) := Heap.get?_push_size _ rfl
      have hT : Shared.TypeIs { s with heap := s.heap.push (setO0 w) } (.ref s.heap.objs.size) "set" := ⟨_, hS, rfl⟩
      have hli := F.called_set.init.lookup
      have hbi := F.called_set.init.bind (.ref s.heap.objs.size)
      repeat (any_goals (first | assumption | wp_step))
      refine codeAny_mono (codeAny_call_builtin (R := wants (fun r s₂ => r = .none ∧ ∃ h' tk, s₂ = { s with heap := h', toks := tk } ∧ TxAt P w h' s.heap.objs.size (setL ts) ∧
          (∀ b o, s.heap.get? b = some o → h'.get? b = some o)) E) F.called_set.init.plain F.entry_set_init (check_set_init_1 hT ?_)) fun r₂ s₂ hr₂ => ?_
      · obtain ⟨ol, hol, hcl, nl, hdl⟩ := hl
        obtain ⟨ocls, odict, odata, oslots⟩ := ol
        simp only at hcl hdl
        subst hcl; subst hdl
        have hol' : (s.heap.push (setO0 w)).get? l = some { cls := .type "list", dict := odict, data := .seq items nl, slots := oslots } := Heap.get?_push_of_some _ hol
        have hsls := F.sub_list_set
        have hslf := F.sub_list_frozenset
        have hne : (Value.type "list" == Value.type "dict") = false := by decide
        have hl1 : (s.heap.push (setO0 w)).IsList l items := ⟨_, hol', rfl, nl, rfl⟩
        unfold Builtin.«set.__init__» noKeywords Builtin.Frozenset.updateFrom
        generalize hPI : pyIter = PI
        wp_walk
        subst hPI
        refine wpAny_pyIter_list hl1 ?_
        refine wpAny_bind (wpAny_runValue ?_)
        have hlS : l < s.heap.objs.size := Heap.lt_size hol
        have hh3 : A.in1.in1.in1.handled = none := by simp [hh]
        have hz1 : (s.heap.push (setO0 w)).objs.size = s.heap.objs.size + 1 := Heap.size_push ..
        have hneI : l ≠ (s.heap.push (setO0 w)).objs.size := by
          rw [Heap.size_push]; exact Nat.ne_of_lt (Nat.lt_succ_of_lt hlS)
        have hSf : s.heap.objs.size ∉ [(s.heap.push (setO0 w)).objs.size, l] := by
          rw [Heap.size_push]; simp only [List.mem_cons, List.mem_singleton, List.not_mem_nil, or_false, not_or]
          exact ⟨Nat.ne_of_lt (Nat.lt_succ_self _), Nat.ne_of_gt hlS⟩
        have hval : ∀ (i : Nat) (v : Value), items[i]? = some v → ∃ k t, ts[i]? = some k ∧ v = .str k t := fun i v hv => strs_at hit i v (by rw [Array.getElem?_toList]; exact hv)
        refine set_update_strs ((Walks.list hh3 _ l hneI items).toS) s.heap.objs.size
          hSf ts hisz hb hval (items.size - 0) 0 _ (by omega) (Nat.zero_le _)
          ⟨⟨_, Heap.get?_push_size _ rfl, rfl, rfl⟩, (hl1.push _)⟩ ?hS0 ?hR
        case hS0 => exact tx_fresh (Heap.get?_push_of_some _ hS)
        case hR =>
          intro s' hm hS'
          obtain ⟨h', g2, d', tk', os'⟩ := s'
          have eg : g2 = s.gens := hm.gens
          have ed : d' = s.drawn := hm.drawn
          have eo : os' = s.os := hm.os
          subst eg; subst ed; subst eo
          show wpAny _ _ _ _ _ _
          refine wpAny_pure ?_
          show wpAny _ _ (ret Value.none) _ _ _
          refine wpAny_pure ⟨rfl, h', tk', rfl, hS', fun b o e => ?_⟩
          have hb0 : b < s.heap.objs.size := Heap.lt_size e
          have hb1 : b ≠ s.heap.objs.size := Nat.ne_of_lt hb0
          have hb2 : b ≠ (s.heap.push (setO0 w)).objs.size := by
            rw [Heap.size_push]; exact Nat.ne_of_lt (Nat.lt_succ_of_lt hb0)
          exact hm.heap b o (by simp only [List.mem_cons, List.mem_singleton, List.not_mem_nil, or_false, not_or]; exact ⟨hb1, hb2⟩) (Heap.get?_push_of_some _ (Heap.get?_push_of_some _ e))
      · cases r₂ with
        | error e => exact hr₂
        | ok fl₂ =>
          cases fl₂ with
          | ret r =>
            obtain ⟨rfl, h', tk, rfl, hS', hk'⟩ := hr₂
            repeat (any_goals (first | assumption | wp_step))
            exact h _ _ hS' hk'
          | _ => exact hr₂.elim
    | _ => exact hr.elim
end
/-! ### as an object -/
def SetX (P : Program) (w : World) (a : Addr) (l : List Str) : HO := .ext fun h => TxAt P w h a l
theorem setX_new {P : Program} {w : World} {H : Hp} {h : Heap} {a : Addr} {l : List Str} (T : TxAt P w h a l) : ObjOk P w H h a (SetX P w a l) := by
  obtain ⟨D, ho, r⟩ := T.ex
  exact ⟨T, ⟨_, ho⟩, fun h1 h2 p k => TxAt.at p fun o e => k o e⟩
def rSetX (K : PySem.W.Frag) (P : Program) (w : World) : List V → Hp → VK → Prop := fun vs H Q => ∃ (a : Addr) (ts : List Str), vs = [.ref a] ∧ SqL K H a (ts.map V.str) ∧ ts.length ≤ 1000 ∧ ∀ p, H p = none → Q (.ref p) (upd H p (SetX P w p (setL ts)))
theorem strs_of : ∀ {ts : List Str} {us : List Value}, Vals (ts.map V.str) us → StrsAre us ts
  | [], _, .nil => .nil
  | x :: r, _, .cons h t => by
    obtain ⟨tk, rfl⟩ := h
    exact .cons x tk (strs_of t)
section
variable {X : Cx}
theorem cr_setX (hc : X.calm = true) : CallR X (.type "set") (rSetX X.K X.prog X.w) := by
  intro pins s σ H vs us Q I r h
  obtain ⟨l, ts, rfl, hl, hn, q⟩ := h
  rw [Vals.ref1 r]
  obtain ⟨its, rv, pl, hz⟩ := I.list hl
  refine call_set_strs (P := X.prog) (w := X.w) ts (I.ok.hd hc) pl.isList (strs_of rv) (by unfold scanBound; omega) fun h' tk T k => ?_
  exact ⟨.ref s.heap.objs.size, upd H s.heap.objs.size (SetX X.prog X.w s.heap.objs.size (setL ts)), I.laid (t' := tk) k (Nat.le_refl _) (setX_new T), rfl, q _ (I.hok.fresh (Nat.le_refl _))⟩
end
/-! ### sorted of it -/
def strLe (x y : Str) : Bool := decide (x.cps.toList ≤ y.cps.toList)
def rSortX (P : Program) (w : World) : List V → Hp → VK → Prop := fun vs H Q => ∃ (a : Addr) (l : List Str), vs = [.ref a] ∧ H a = some (SetX P w a l) ∧ l.Nodup ∧ l.length ≤ 1000 ∧ ∀ p, H p = none → Q (.ref p) (upd H p (.lst ((l.mergeSort strLe).map V.str)))

theorem strLe_trans (x y z : Str) : strLe x y = true → strLe y z = true → strLe x z = true := by
  unfold strLe
  rw [decide_eq_true_eq, decide_eq_true_eq, decide_eq_true_eq]
  exact fun a b => List.le_trans a b
theorem strLe_total (x y : Str) : (strLe x y || strLe y x) = true := by
  unfold strLe
  rw [Bool.or_eq_true, decide_eq_true_eq, decide_eq_true_eq]
  exact List.le_total _ _
theorem strLe_anti {x y : Str} : strLe x y = true → strLe y x = true → x = y := by
  unfold strLe
  rw [decide_eq_true_eq, decide_eq_true_eq]
  intro a b
  have e : x.cps.toList = y.cps.toList := List.le_antisymm a b
  obtain ⟨a⟩ := x
  obtain ⟨b⟩ := y
  exact congrArg Str.mk (Array.toList_inj.mp e)
theorem perm_sorted {l r : List Str} (p : l.Perm r) : l.mergeSort strLe = r.mergeSort strLe := by
  refine List.Perm.eq_of_pairwise (le := fun a b => strLe a b = true) (fun a b _ _ => strLe_anti) ?_ ?_ ?_
  · exact List.pairwise_mergeSort strLe_trans strLe_total l
  · exact List.pairwise_mergeSort strLe_trans strLe_total r
  · exact (List.mergeSort_perm l strLe).trans (p.trans (List.mergeSort_perm r strLe).symm)
theorem perm_of_sub : ∀ (l t : List Str), l.Nodup → (∀ k ∈ l, k ∈ t) → t.length ≤ l.length → t.Perm l
  | [], t, _, _, h => by
    rw [List.eq_nil_of_length_eq_zero (Nat.le_zero.mp h)]
  | k :: l, t, nd, sub, h => by
    obtain ⟨n1, n2⟩ := List.nodup_cons.mp nd
    have hk := sub k List.mem_cons_self
    have p := List.perm_cons_erase hk
    have hl := p.length_eq
    rw [List.length_cons] at hl h
    refine p.trans ((perm_of_sub l (t.erase k) n2 (fun y hy => ?_) (by omega)).cons k)
    exact (List.mem_erase_of_ne (fun e => n1 (by rw [← e]; exact hy))).mpr (sub y (List.mem_cons_of_mem _ hy))
theorem zs_sorted (ys : List Str) : ((ys.map fun y => ((V.str y, .str y) : Zd)).mergeSort zLe).map (·.1) = (ys.mergeSort strLe).map V.str := by
  have e : (ys.map fun y => ((V.str y, .str y) : Zd)).mergeSort zLe = (ys.mergeSort strLe).map fun y => ((V.str y, .str y) : Zd) := by
    rw [← List.map_mergeSort]
    intro a _ b _
    have q := congrFun (congrFun (PySem.W.dataLe_str (fun x : Str => x)) a) b
    exact q.symm
  rw [e, List.map_map]
  rfl
theorem strs_each : ∀ {vs : List Value} {ys : List Str}, StrsAre vs ys → PySem.W.EachIs (fun v (z : Zd) => RelV z.1 v) vs (ys.map fun y => ((V.str y, .str y) : Zd))
  | _, _, .nil => .nil
  | _, _, .cons x t r => .cons ⟨t, rfl⟩ (strs_each r)
theorem strs_reads {h : Heap} : ∀ {vs : List Value} {ys : List Str}, StrsAre vs ys → PySem.W.EachIs (fun v (z : Zd) => ∃ as, Reads h v z.2 as) vs (ys.map fun y => ((V.str y, .str y) : Zd))
  | _, _, .nil => .nil
  | _, _, .cons x t r => .cons ⟨_, .str x t⟩ (strs_reads r)
theorem strs_text {P : Program} {w : World} : ∀ {es : List (Int × Value)}, ElemsOf (strKind P w) es → ∃ ys : List Str, StrsAre (es.map (·.2)) ys ∧ ∀ k, k ∈ ys ↔ ∃ e ∈ es, (strKind P w).is k e.2 = true
  | [], _ => ⟨[], .nil, fun k => by simp⟩
  | e :: es, h => by
    obtain ⟨ys, a, b⟩ := strs_text (es := es) fun x hx => h x (List.mem_cons_of_mem _ hx)
    obtain ⟨⟨k, hk, _⟩, _⟩ := h e List.mem_cons_self
    obtain ⟨t, et⟩ := Value.isStrOf_shape hk
    refine ⟨k :: ys, by rw [List.map_cons, et]; exact .cons k t a, fun k' => ?_⟩
    rw [List.mem_cons, b k']
    constructor
    · rintro (rfl | ⟨x, hx, q⟩)
      · exact ⟨e, List.mem_cons_self, hk⟩
      · exact ⟨x, List.mem_cons_of_mem _ hx, q⟩
    · rintro ⟨x, hx, q⟩
      rcases List.mem_cons.mp hx with z | z
      · rw [z] at q
        exact .inl ((strKind P w).inj e.2 k' k q hk)
      · exact .inr ⟨x, z, q⟩
theorem strs_perm : ∀ {vs us : List Value}, vs.Perm us → ∀ {ys : List Str}, StrsAre us ys → ∃ zs, StrsAre vs zs ∧ zs.Perm ys := by
  intro vs us p
  induction p with
  | nil => exact fun h => ⟨_, h, List.Perm.refl _⟩
  | cons x p ih =>
    intro ys h
    cases h with
    | cons y t h =>
      obtain ⟨zs, a, b⟩ := ih h
      exact ⟨y :: zs, .cons y t a, b.cons y⟩
  | swap x y l =>
    intro ys h
    cases h with
    | cons a t h =>
      cases h with
      | cons b u h => exact ⟨b :: a :: _, .cons b u (.cons a t h), List.Perm.swap a b _⟩
  | trans p q ih1 ih2 =>
    intro ys h
    obtain ⟨zs, a, b⟩ := ih2 h
    obtain ⟨us, c, d⟩ := ih1 a
    exact ⟨us, c, d.trans b⟩
section
variable {X : Cx}
theorem cr_sortX (hc : X.calm = true) (hu : X.A.units + 64 < cLine) : CallR X (.builtin "sorted") (rSortX X.prog X.w) := by
  intro pins s σ H vs us Q I r h
  obtain ⟨a, l, rfl, ha, nd, hn, q⟩ := h
  rw [Vals.ref1 r]
  have T : TxAt X.prog X.w s.heap a l := (I.hok a _ ha).1
  obtain ⟨D, ho, TO, hr, hl⟩ := T.ex
  obtain ⟨es, ep, t⟩ := D
  have hsz : es.size = l.length := TO.sz
  refine Calls.call_function_entry kind_sorted plain_sorted entry_sorted (args_sorted1 _) ?_
  unfold Builtin.«sorted»
  refine wpAny_bind (m := checkCount "sorted" 1 1 _) (wpAny_pure ?_)
  refine wpAny_bind (collect_set (A := X.A.in1) (I.ok.hd hc) ⟨_, ho, rfl, rfl⟩ TO.fit (show es.size < 4096 by omega) hr hl fun s1 vs k1 hz g1 o1 pm => ?_)
  obtain ⟨ys, sa, ym⟩ := strs_text TO.el
  obtain ⟨zs, sz, pz⟩ := strs_perm pm sa
  have ly : ys.length = l.length := by
    rw [← StrsAre.length sa, List.length_map, Array.length_toList]
    exact hsz
  have pl : zs.Perm l := pz.trans (perm_of_sub l ys nd (fun k hk => (ym k).mpr ((TO.mem k).mp hk)) (by omega))
  have lv : vs.length = l.length := by rw [StrsAre.length sz, pl.length_eq]
  have lz : (zs.map fun y => ((V.str y, .str y) : Zd)).length ≤ sizeLine := by rw [List.length_map, pl.length_eq, sizeLine_eq]; omega
  have eq2 : (zs.map fun y => ((V.str y, .str y) : Zd)).map (·.2) = zs.map fun y => PyData.str y := by rw [List.map_map]; rfl
  refine wpAny_bind (wpAny_newList ?_ (by rw [lv, sizeLine_eq]; omega))
  refine wpAny_bind (wpAny_holding (wpAny_mono (sort_new (A := X.A.in1) (s := s1) (h' := s1.heap) (tk := s1.toks) (zs := zs.map fun y => ((V.str y, .str y) : Zd))
    (Q := fun _ s' => ∃ u H', Inv X pins σ H' s' ∧ RelV u (.ref s1.heap.objs.size) ∧ Q u H') (fun b o e => e) (strs_each sz) (strs_reads sz)
    (by rw [eq2]; exact PySem.W.AllAlike.of fun _ _ => rfl) (by rw [eq2]; exact PySem.W.Sortable.others (fun _ => ⟨fun z => (by cases z), fun _ z => (by cases z)⟩)) lz (fun z hz => by
      obtain ⟨y, _, rfl⟩ := List.mem_map.mp hz
      show X.A.units + 1 + 1 + 0 < cLine
      omega) fun h2 out c k2 rv hc2 => ?_) (fun _ s' x => wpAny_pure ⟨_, rfl, ?_⟩) fun _ _ e => e))
  · rw [zs_sorted, perm_sorted pl] at rv
    have hlen : ((l.mergeSort strLe).map V.str).length ≤ sizeLine := by rw [List.length_map, List.length_mergeSort, sizeLine_eq]; omega
    have hnp : H s1.heap.objs.size = none := I.hok.fresh hz
    have kk : ∀ b o, s.heap.get? b = some o → h2.get? b = some o := fun b o e => k2 b o (k1 b o e)
    refine ⟨.ref s1.heap.objs.size, upd H s1.heap.objs.size (.lst ((l.mergeSort strLe).map V.str)), ?_, rfl, q _ hnp⟩
    have J : Inv X pins σ (upd H s1.heap.objs.size (.lst ((l.mergeSort strLe).map V.str))) { s with heap := h2, gens := s1.gens, drawn := s1.drawn, toks := s1.toks } :=
      I.call (ch := []) (Un.laid kk hz hnp) (I.hok.laid kk hz ⟨hlen, out, c, rv, hc2⟩) (by rw [g1]; exact I.bare) (fun _ z => nomatch z)
    have e : ({ s1 with heap := h2, toks := s1.toks } : Shared) = { s with heap := h2, gens := s1.gens, drawn := s1.drawn, toks := s1.toks } := by
      obtain ⟨a1, a2, a3, a4, a5⟩ := s1
      subst o1
      rfl
    rw [e]
    exact J
  · exact x
end
end Sk

set_option maxHeartbeats 4000000
/-! sorted of texts, of a dict with text keys; extend by a tuple; comprehensions over range with a test -/
namespace Sk
open PySem PySem.Spec PyProof.Rows L2
theorem strs_alike (ys : List Str) : PySem.W.AllAlike ((ys.map fun y => ((V.str y, .str y) : Zd)).map (·.2)) := by
  have eq2 : (ys.map fun y => ((V.str y, .str y) : Zd)).map (·.2) = ys.map fun y => PyData.str y := by rw [List.map_map]; rfl
  rw [eq2]; exact PySem.W.AllAlike.of fun _ _ => rfl
theorem strs_sortable (ys : List Str) : PySem.W.Sortable ((ys.map fun y => ((V.str y, .str y) : Zd)).map (·.2)) := by
  have eq2 : (ys.map fun y => ((V.str y, .str y) : Zd)).map (·.2) = ys.map fun y => PyData.str y := by rw [List.map_map]; rfl
  rw [eq2]; exact PySem.W.Sortable.others (fun _ => ⟨fun z => (by cases z), fun _ z => (by cases z)⟩)
theorem strs_fst (ys : List Str) : (ys.map fun y => ((V.str y, .str y) : Zd)).map (·.1) = ys.map V.str := by rw [List.map_map]; rfl
def rSortSs (K : PySem.W.Frag) : List V → Hp → VK → Prop := fun vs H Q => ∃ (a : Addr) (ts : List Str), vs = [.ref a] ∧ SqL K H a (ts.map V.str) ∧ ts.length ≤ 1000 ∧ ∀ p, H p = none → Q (.ref p) (upd H p (.lst ((ts.mergeSort strLe).map V.str)))
theorem cr_sortedSs {X : Cx} (hu : X.A.units + 64 < cLine) : CallR X (.builtin "sorted") (rSortSs X.K) := by
  intro pins s σ H vs us Q I r h
  obtain ⟨a, ts, rfl, hs, hl, q⟩ := h
  refine cr_sortedDt hu pins s σ H _ us Q I r ⟨a, ts.map fun y => ((V.str y, .str y) : Zd), rfl, by rw [strs_fst]; exact hs, ⟨fun z hz => ?_, strs_alike ts, strs_sortable ts, fun z hz => ?_, by rw [List.length_map]; exact hl⟩, fun p hp => by rw [zs_sorted]; exact q p hp⟩
  · obtain ⟨y, _, rfl⟩ := List.mem_map.mp hz
    exact .str y
  · obtain ⟨y, _, rfl⟩ := List.mem_map.mp hz
    exact Nat.zero_le _
def rSortDS : List V → Hp → VK → Prop := fun vs H Q => ∃ (a : Addr) (kvs : List (Key × V)) (ts : List Str), vs = [.ref a] ∧ Rd H a (.dK kvs) ∧ kvs.map (·.1) = ts.map Sum.inr ∧ ts.length ≤ 1000 ∧ ∀ p, H p = none → Q (.ref p) (upd H p (.lst ((ts.mergeSort strLe).map V.str)))
theorem mix_str {P : Program} {w : World} {x : Str} {v : Value} (h : (mixKind P w).is (Sum.inr x) v = true) : ∃ t, v = .str x t := Value.isStrOf_shape h
theorem cr_sortedDS {X : Cx} (hc : X.calm = true) (hu : X.A.units + 64 < cLine) : CallR X (.builtin "sorted") rSortDS := by
  intro pins s σ H vs us Q I r h
  obtain ⟨d, kvs, ts, rfl, hd, ek, hl, q⟩ := h
  obtain ⟨u, rfl, rx⟩ := r.one
  cases rx
  obtain ⟨z, lo, xs, rel, dd⟩ := dk_rd I.hok hd
  obtain ⟨ep, hat⟩ := dd.dictAt
  have hkeys : xs.map (·.1) = ts.map Sum.inr := rel.keys.symm.trans ek
  have hxl : xs.length = ts.length := by have := congrArg List.length hkeys; simpa using this
  refine sorted_src (PySem.W.kdl_dict (knd := mixKind X.prog X.w) (kvs := xs) (ep := ep) lo) (I.ok.hd hc) hat (by rw [sizeLine_eq]; omega) fun vs lv hv => ?_
  have sa : StrsAre vs ts := L2.strs_at (by omega) fun j v e => by
    obtain ⟨k, x, e1, e2⟩ := hv j v e
    have e3 : (xs.map (·.1))[j]? = some k := by rw [List.getElem?_map, e1]; all_goals rfl
    rw [hkeys, List.getElem?_map] at e3
    cases e4 : ts[j]? with
    | none => rw [e4] at e3; cases e3
    | some y =>
      rw [e4] at e3
      have e5 : Sum.inr y = k := Option.some.inj e3
      subst e5
      obtain ⟨t, ev⟩ := Value.isStrOf_shape (x := y) (v := v) e2
      exact ⟨y, t, rfl, ev⟩
  refine ⟨ts.map fun y => ((V.str y, .str y) : Zd), strs_each sa, strs_reads sa, strs_alike ts, strs_sortable ts, fun z hz => ?_, fun h' h2 tk out c k1 k2 rv hc2 => ?_⟩
  · obtain ⟨y, _, rfl⟩ := List.mem_map.mp hz
    show X.A.units + 2 + 0 < cLine
    omega
  · rw [zs_sorted] at rv
    have hz : ((ts.mergeSort strLe).map V.str).length ≤ sizeLine := by rw [List.length_map, List.length_mergeSort, sizeLine_eq]; omega
    have I1 := I.kept (t' := tk) k1
    exact ⟨.ref h'.objs.size, upd H h'.objs.size (.lst ((ts.mergeSort strLe).map V.str)), I1.laid (t' := tk) k2 (Nat.le_refl _) ⟨hz, out, c, rv, hc2⟩, rfl, q _ (I1.hok.fresh (Nat.le_refl _))⟩
/-! ### spans: pairs of texts -/
abbrev Sp2 : Type := Str × Str
def spD (p : Sp2) : PyData := .tuple [.str p.1, .str p.2]
def spLe (p q : Sp2) : Bool := PySem.W.dataLe false (fun z : Sp2 => spD z) p q
def SpAt (H : Hp) (v : V) (p : Sp2) : Prop := ∃ b, v = .ref b ∧ H b = some (.tup [.str p.1, .str p.2])
theorem SpAt.same {H H' : Hp} (s : Same H H') {v : V} {p : Sp2} (h : SpAt H v p) : SpAt H' v p := by
  obtain ⟨b, e, hb⟩ := h
  exact ⟨b, e, s _ _ hb⟩
theorem sp_alike (ps : List Sp2) : PySem.W.AllAlike (ps.map spD) := PySem.W.AllAlike.of fun b b' => by simp [spD, PySem.W.alike, PySem.W.alikeAll]
theorem sp_sortable (ps : List Sp2) : PySem.W.Sortable (ps.map spD) := PySem.W.Sortable.tuples fun b => ⟨_, _, rfl⟩
theorem z_sorted {zs : List Zd} {ps : List Sp2} (e : zs.map (·.2) = ps.map spD) : (zs.mergeSort zLe).map (·.2) = (ps.mergeSort spLe).map spD := by
  have e1 : (zs.mergeSort zLe).map (·.2) = (zs.map (·.2)).mergeSort (PySem.W.dataLe false fun d : PyData => d) := List.map_mergeSort fun _ _ _ _ => rfl
  have e2 : (ps.mergeSort spLe).map spD = (ps.map spD).mergeSort (PySem.W.dataLe false fun d : PyData => d) := List.map_mergeSort fun _ _ _ _ => rfl
  rw [e1, e2, e]
theorem sp_paired {H : Hp} : ∀ {zs : List Zd} {ps : List Sp2}, zs.map (·.2) = ps.map spD → (∀ z ∈ zs, ∃ b p, z = (.ref b, spD p) ∧ H b = some (.tup [.str p.1, .str p.2])) → Paired (SpAt H) (zs.map (·.1)) ps
  | [], [], _, _ => .nil
  | [], p :: ps, e, _ => by cases e
  | z :: zs, [], e, _ => by cases e
  | z :: zs, p :: ps, e, h => by
    rw [List.map_cons, List.map_cons] at e
    injection e with e1 e2
    obtain ⟨b, p', rfl, hb⟩ := h z List.mem_cons_self
    have ep : p' = p := by
      have : spD p' = spD p := e1
      obtain ⟨x, y⟩ := p
      obtain ⟨x', y'⟩ := p'
      unfold spD at this
      injection this with this
      injection this with a b
      injection a with a
      injection b with b
      injection b with b
      have a' : x' = x := a
      have b' : y' = y := b
      rw [a', b']
    exact .cons ⟨b, rfl, by rw [← ep]; exact hb⟩ (sp_paired e2 fun y hy => h y (List.mem_cons_of_mem _ hy))
abbrev kP (p : Sp2) : List Key := [Sum.inr p.1, Sum.inr p.2]
theorem kP_tup (p : Sp2) : tupD (kP p) = spD p := rfl
def rSortSp : List V → Hp → VK → Prop := fun vs H Q => ∃ (a : Addr) (kvs : List (List Key × V)) (ps : List Sp2), vs = [.ref a] ∧ Rd H a (.dT kvs) ∧ kvs.map (·.1) = ps.map kP ∧ ps.length ≤ 1000 ∧ ∀ (p : Addr) (ys : List V), H p = none → Paired (SpAt H) ys (ps.mergeSort spLe) → Q (.ref p) (upd H p (.lst ys))
theorem cr_sortedSp {X : Cx} (hc : X.calm = true) (hu : X.A.units + 64 < cLine) : CallR X (.builtin "sorted") rSortSp := by
  intro pins s σ H vs us Q I r h
  obtain ⟨a, kvs, ps, rfl, ha, ek, hl, q⟩ := h
  have e0 : kvs.map (fun p => tupD p.1) = ps.map spD := by
    have : kvs.map (fun p => tupD p.1) = (kvs.map (·.1)).map tupD := by rw [List.map_map]; rfl
    rw [this, ek, List.map_map]; rfl
  have el : kvs.length = ps.length := by have := congrArg List.length ek; simpa using this
  refine cr_sortedDT hc hu pins s σ H _ us Q I r ⟨a, kvs, rfl, ha, by rw [e0]; exact sp_alike ps, by rw [e0]; exact sp_sortable ps, by omega, fun p zs hp ez hz => q p _ hp ?_⟩
  refine sp_paired (z_sorted (ez.trans e0)) fun z hz' => ?_
  have hm : z ∈ zs := List.mem_mergeSort.mp hz'
  obtain ⟨b, k, rfl, hb⟩ := hz z hm
  have hmem : tupD k ∈ zs.map (·.2) := List.mem_map.mpr ⟨_, hm, rfl⟩
  rw [ez.trans e0] at hmem
  obtain ⟨p, _, ep⟩ := List.mem_map.mp hmem
  have ek2 : k = kP p := by
    have e1 : tupD k = tupD (kP p) := ep.symm
    unfold tupD at e1
    injection e1 with e1
    have inj : ∀ {x y : List Key}, x.map keyD = y.map keyD → x = y := by
      intro x
      induction x with
      | nil => intro y e; cases y with
        | nil => rfl
        | cons _ _ => cases e
      | cons i x ih => intro y e; cases y with
        | nil => cases e
        | cons j y =>
          rw [List.map_cons, List.map_cons] at e
          injection e with e1 e2
          rw [ih e2]
          congr 1
          cases i <;> cases j <;> first | (injection e1 with e1; rw [e1]) | cases e1
    exact inj e1
  subst ek2
  exact ⟨b, p, by rw [kP_tup], hb⟩
def rSortSl (K : PySem.W.Frag) : List V → Hp → VK → Prop := fun vs H Q => ∃ (a : Addr) (xs : List V) (ps : List Sp2), vs = [.ref a] ∧ SqL K H a xs ∧ Paired (SpAt H) xs ps ∧ ps.length ≤ 1000 ∧ ∀ (p : Addr) (ys : List V), H p = none → Paired (SpAt H) ys (ps.mergeSort spLe) → Q (.ref p) (upd H p (.lst ys))
theorem sp_zip {H : Hp} : ∀ {xs : List V} {ps : List Sp2}, Paired (SpAt H) xs ps → ∃ zs : List Zd, zs.map (·.1) = xs ∧ zs.map (·.2) = ps.map spD ∧ ∀ z ∈ zs, ∃ b p, z = (.ref b, spD p) ∧ H b = some (.tup [.str p.1, .str p.2])
  | _, _, .nil => ⟨[], rfl, rfl, fun _ h => (List.not_mem_nil h).elim⟩
  | _, _, .cons (a := v) (b := p) h t => by
    obtain ⟨zs, e1, e2, m⟩ := sp_zip t
    obtain ⟨b, rfl, hb⟩ := h
    refine ⟨(.ref b, spD p) :: zs, by rw [List.map_cons, e1], by rw [List.map_cons, e2, List.map_cons], fun z hz => ?_⟩
    rcases List.mem_cons.mp hz with e | e
    · exact ⟨b, p, e, hb⟩
    · exact m z e
theorem cr_sortedSl {X : Cx} (hu : X.A.units + 64 < cLine) : CallR X (.builtin "sorted") (rSortSl X.K) := by
  intro pins s σ H vs us Q I r h
  obtain ⟨a, xs, ps, rfl, hs, pr, hl, q⟩ := h
  obtain ⟨zs, e1, e2, m⟩ := sp_zip pr
  have lz : zs.length = ps.length := by have := congrArg List.length e2; simpa using this
  refine cr_sortedDt hu pins s σ H _ us Q I r ⟨a, zs, rfl, by rw [e1]; exact hs, ⟨fun z hz => ?_, by rw [e2]; exact sp_alike ps, by rw [e2]; exact sp_sortable ps, fun z hz => ?_, by omega⟩, fun p hp => q p _ hp (sp_paired (z_sorted e2) fun z hz => m z (List.mem_mergeSort.mp hz))⟩
  · obtain ⟨b, p, rfl, hb⟩ := m z hz
    exact .tup (SqT.of hb) (.cons (.str _) (.cons (.str _) .nil))
  · obtain ⟨b, p, rfl, hb⟩ := m z hz
    show (spD p).depth ≤ 50
    rw [← kP_tup, tupD_dep]
    omega
/-! ### xs.extend(tuple) -/
def rExtendT (K : PySem.W.Frag) : V → List V → Hp → VK → Prop := fun x vs H Q => ∃ l b xs zs, x = .ref l ∧ vs = [.ref b] ∧ H l = some (.lst xs) ∧ H b = some (.tup zs) ∧ xs.length + zs.length ≤ sizeLine ∧ Q .non (upd H l (.lst (xs ++ zs)))
theorem list_extend_tup (l : Addr) (items : Array Value) (n : Nat) (b : Addr) (items2 : Array Value) (n2 : Nat) (di : Option Addr) (sl : Array (Option Value)) (hs0 : ¬(!items.isEmpty && Builtin.List.listTooLong (items.size + items2.size)) = true) (hs1 : items.size ≤ sizeLine) (hs2 : items.size + items2.size ≤ sizeLine + 1) :
    Meets (Builtin.«list.extend» ⟨[.ref l, .ref b], []⟩) (fun _ R s => s.heap.get? l = some { cls := .type "list", dict := none, data := .seq items n, slots := #[] } ∧ s.heap.get? b = some { cls := .type "tuple", dict := di, data := .seq items2 n2, slots := sl } ∧ R (.ok (.ret Value.none)) { s with heap := s.heap.update l (Obj.mapSeq fun x => x ++ items2), toks := s.toks }) :=
  .of_wp fun prog w A R s h => by
    obtain ⟨hp, g, d, tk, os⟩ := s; obtain ⟨hl, hb, h⟩ := h; have f1 := AutoSeq1.idx_int; have f2 := AutoSeq1.sub_tuple_tuple; have f3 := AutoSeq1.sub_list_list; have f4 := AutoSeq1.sub_tuple_list; have f5 := AutoSeq1.sub_list_tuple;
    have hz' : (items ++ items2).size ≤ sizeLine + 1 := by rw [Array.size_append]; exact hs2
    wp_walk using (wpAny_updateSeq hl rfl (hz := hs1) (_hz' := hz')), AutoSeq1.wpAny_loadPart' hl, AutoSeq1.wpAny_loadPart' hb; exact ⟨_, rfl, h⟩
theorem mt_extendT {X : Cx} : MtM X "list.extend" (rExtendT X.K) := by
  intro pins s σ H x vs v us Q I rx rv h
  obtain ⟨l, b, xs, zs, rfl, rfl, hH, hB, hz, q⟩ := h
  cases rx
  obtain ⟨u, rfl, ru⟩ := rv.one
  cases ru
  obtain ⟨z, its, n, r, hl, e⟩ := I.lstM hH
  obtain ⟨z2, its2, r2, ob, h1, h2, n2, h3⟩ := (show ObjOk X.prog X.w H s.heap b (.tup zs) from I.hok b _ hB)
  obtain ⟨oc, od, odt, osl⟩ := ob
  simp only at h2 h3
  subst h2; subst h3
  have l1 := r.length
  have l2 := r2.length
  have hsz : its.toArray.size + its2.toArray.size ≤ sizeLine := by rw [List.size_toArray, List.size_toArray]; omega
  have hlong : ¬ (!its.toArray.isEmpty && Builtin.List.listTooLong (its.toArray.size + its2.toArray.size)) = true := by
    rw [notLongL hsz, Bool.and_false]
    exact Bool.false_ne_true
  refine call_meets F.slot_list_extend ⟨_, e, rfl⟩ F.entry_list_extend (F.args_list_extend_2 _ _)
    (list_extend_tup l its.toArray n b its2.toArray n2 od osl hlong (by rw [List.size_toArray]; omega) (by omega)) ⟨e, h1, ?_⟩
  refine ⟨.non, _, I.lset (its' := its ++ its2) hH e (by simp) (r.append r2) ?_, rfl, q⟩
  rw [List.length_append]
  omega
/-! ### comprehensions over range with a test -/
section
variable {K : PySem.W.Frag} {σ : L2.St} {H : Hp} {Q : VK} {g : TG} {tt : TT} {te : TE} {vs : List Nat}
theorem lcRg_new {n : Nat} {j : Int} (e : j = (n : Int)) (hn : n ≤ 100000) (R : Nat → List V → Hp → Prop) (h0 : ∀ D, H D = none → R 0 [] (upd H D (.lst []))) (hl : ∀ i acc H', i ≤ n → R i acc H' → acc.length ≤ i)
    (hs : ∀ D i acc H', H D = none → i < n → R i acc H' → H' D = some (.lst acc) → ∀ Rr : Option V → Hp → Prop, (∀ y H'', H'' D = some (.lst acc) → R (i + 1) (acc ++ [y]) (upd H'' D (.lst (acc ++ [y]))) → Rr (some y) H'') → (∀ H'', H'' D = some (.lst acc) → R (i + 1) acc H'' → Rr none H'') → LcBody g tt te vs σ (.int (i : Int)) H' Rr)
    (hd : ∀ D acc H', H D = none → R n acc H' → H' D = some (.lst acc) → Q (.ref D) H') : LcRg1 g tt te vs σ Q [.int j] H := by
  subst e
  refine ⟨(n : Int), rfl, by omega, by omega, fun D hD => ?_⟩
  rw [Int.toNat_natCast]
  refine lc_range (lo := 0) (n := n) (fun i H' => ∃ acc, R i acc H' ∧ H' D = some (.lst acc)) ⟨[], h0 D hD, upd_same⟩ (fun i H' hi ⟨acc, r, eD⟩ => ?_) (fun H' ⟨acc, r, eD⟩ => hd D acc H' hD r eD)
  rw [Int.zero_add]
  have la := hl i acc H' (by omega) r
  exact hs D i acc H' hD hi r eD (fun y H4 => match y with
    | some y => ∃ acc, H4 D = some (.lst acc) ∧ acc.length < sizeLine ∧ ∃ acc', R (i + 1) acc' (upd H4 D (.lst (acc ++ [y]))) ∧ upd H4 D (.lst (acc ++ [y])) D = some (.lst acc')
    | none => ∃ acc', R (i + 1) acc' H4 ∧ H4 D = some (.lst acc')) (fun y H'' e2 r' => ⟨acc, e2, by rw [sizeLine_eq]; omega, acc ++ [y], r', upd_same⟩) (fun H'' e2 r' => ⟨acc, r', e2⟩)
end
end Sk

set_option maxHeartbeats 4000000
/-! histories: the plain model of a history's state -/
namespace Hs
open PySem PySem.Spec PyProof.Rows L2 Sk
abbrev Wr := List (Str × Option Int)
def wV : Option Int → V
  | none => .non
  | some i => .int i
theorem wV_inj {a b : Option Int} (h : wV a = wV b) : a = b := by
  cases a <;> cases b <;> first | rfl | (injection h with h; rw [h]) | cases h
abbrev sL (a b : Str) : Prop := a.cps.toList < b.cps.toList
inductive Ev
  | begin (d : Int) | read (d : Int) (k : Str) (w : Option Int) | scan (d : Int) (lo hi : Str) (rows : List (Str × Int)) | put (d : Int) (k : Str) (w : Int) | drop (d : Int) (k : Str)
  | mark (d n : Int) | back (d n : Int) | keep (d p : Int) | undo (d : Int) | fall (n : Int) | raised (n : Int) (rows : List (Str × Int))
structure St where
  base : Int
  start : List (Str × Int)
  kept : List (Int × Wr)
  op : List (Int × Int × Wr)
def St.new : St := ⟨0, [], [], []⟩
/-! ### dicts of worths -/
abbrev Dk := List (Key × V)
def putWr (kvs : Dk) (wr : Wr) : Dk := wr.foldl (fun a x => putK a (Sum.inr x.1) (wV x.2)) kvs
def rowsK (xs : List (Str × Int)) : Dk := xs.map fun x => (Sum.inr x.1, .int x.2)
def St.startK (s : St) : Dk := rowsK s.start
def sheetK (b : Dk) (kept : List (Int × Wr)) : Dk := kept.foldl (fun a x => putWr a x.2) b
def viewK (kvs : Dk) : Dk := kvs.foldl (fun a q => if q.2 = .non then a else putK a q.1 q.2) []
def St.sheet (s : St) (i : Nat) : Dk := sheetK s.startK (s.kept.take i)
def St.last (s : St) : Int := s.base + s.kept.length
def St.find (s : St) (d : Int) : Option (Int × Wr) := (s.op.find? fun q => decide (q.1 = d)).map (·.2)
def St.ofs (s : St) (st : Int) : Nat := (st - s.base).toNat
def seesW (w : Option Int) (wr : Wr) (k : Str) : Option Int := wr.foldl (fun a x => if x.1 = k then x.2 else a) w
def start? (xs : List (Str × Int)) (k : Str) : Option Int := (xs.find? fun x => decide (x.1 = k)).map (·.2)
def seesL (s : St) (st : Int) (own : Wr) (k : Str) : Option Int := seesW ((s.kept.take (s.ofs st)).foldl (fun a x => seesW a x.2 k) (start? s.start k)) own k
def hasK (wr : Wr) (k : Str) : Prop := k ∈ wr.map (·.1)
def freeK (s : St) (d : Int) (st : Int) (k : Str) : Prop := (∀ x ∈ s.op, x.1 ≠ d → ¬ hasK x.2.2 k) ∧ ∀ x ∈ s.kept.drop (s.ofs st), ¬ hasK x.2 k
structure IsScan (s : St) (st : Int) (own : Wr) (lo hi : Str) (rows : List (Str × Int)) : Prop where
  pw : rows.Pairwise fun a b => sL a.1 b.1
  mem : ∀ k i, (k, i) ∈ rows ↔ seesL s st own k = some i ∧ ¬ sL k lo ∧ sL k hi
def St.can (s : St) (a : Nat) : Ev → Prop
  | .begin d => 0 < d ∧ s.find d = none ∧ ∀ x ∈ s.kept, x.1 ≠ d
  | .read d k w => ∃ st own, s.find d = some (st, own) ∧ seesL s st own k = w
  | .scan d lo hi rows => ∃ st own, s.find d = some (st, own) ∧ IsScan s st own lo hi rows
  | .put d k _ => ∃ st own, s.find d = some (st, own) ∧ freeK s d st k
  | .drop d k => ∃ st own, s.find d = some (st, own) ∧ freeK s d st k ∧ seesL s st own k ≠ none
  | .mark d n => ∃ st own, s.find d = some (st, own) ∧ n = own.length
  | .back d n => ∃ st own, s.find d = some (st, own) ∧ 0 ≤ n ∧ n ≤ own.length
  | .keep d p => ∃ st own, s.find d = some (st, own) ∧ p = s.last + 1
  | .undo d => ∃ st own, s.find d = some (st, own)
  | .fall n => s.base ≤ n ∧ n ≤ s.last
  | .raised _ _ => a = 0
def setOp (op : List (Int × Int × Wr)) (d : Int) (f : Wr → Wr) : List (Int × Int × Wr) := op.map fun q => if q.1 = d then (q.1, q.2.1, f q.2.2) else q
def dropOp (op : List (Int × Int × Wr)) (d : Int) : List (Int × Int × Wr) := op.filter fun q => decide (q.1 ≠ d)
def St.own (s : St) (d : Int) : Wr := match s.find d with
  | some x => x.2
  | none => []
def St.does (s : St) : Ev → St
  | .begin d => { s with op := s.op ++ [(d, s.last, [])] }
  | .put d k w => { s with op := setOp s.op d fun wr => wr ++ [(k, some w)] }
  | .drop d k => { s with op := setOp s.op d fun wr => wr ++ [(k, none)] }
  | .back d n => { s with op := setOp s.op d fun wr => wr.take n.toNat }
  | .keep d _ => { s with op := dropOp s.op d, kept := s.kept ++ [(d, s.own d)] }
  | .undo d => { s with op := dropOp s.op d }
  | .fall n => { s with kept := s.kept.take (s.ofs n), op := [] }
  | .raised n rows => { s with base := n, start := rows }
  | _ => s
/-- what stays so -/
structure SOk (ks : List Str) (n : Nat) (s : St) : Prop where
  st : ∀ x ∈ s.start, x.1 ∈ ks
  sn : (s.start.map (·.1)).Nodup
  kk : ∀ x ∈ s.kept, ∀ y ∈ x.2, y.1 ∈ ks
  ok : ∀ x ∈ s.op, ∀ y ∈ x.2.2, y.1 ∈ ks
  lo : ∀ x ∈ s.op, s.base ≤ x.2.1 ∧ x.2.1 ≤ s.last
  nd : (s.op.map (·.1)).Nodup
  kn : s.kept.length ≤ n
  dn : s.op.length ≤ n
  wn : ∀ x ∈ s.op, x.2.2.length ≤ n
  wk : ∀ x ∈ s.kept, x.2.length ≤ n
structure KsOk (ks : List Str) : Prop where
  len : ks.length ≤ 60
  ok : ∀ k ∈ ks, PyData.strOk k = true
def EvOk (ks : List Str) : Ev → Prop
  | .put _ k _ => k ∈ ks
  | .drop _ k => k ∈ ks
  | .raised n rows => 0 ≤ n ∧ (∀ x ∈ rows, x.1 ∈ ks) ∧ (rows.map (·.1)).Nodup
  | .scan _ _ _ rows => ∀ x ∈ rows, x.1 ∈ ks
  | _ => True
/-! ### the laws of the plain model -/
theorem find_mem {s : St} {d : Int} {x : Int × Wr} (h : s.find d = some x) : (d, x) ∈ s.op := by
  unfold St.find at h
  cases q : s.op.find? fun q => decide (q.1 = d) with
  | none => rw [q] at h; cases h
  | some y =>
    rw [q] at h
    have e := List.find?_some q
    have m := List.mem_of_find?_eq_some q
    have e1 : y.1 = d := by simpa using e
    have e2 : y.2 = x := by simpa using h
    rw [← e1, ← e2]
    exact m
theorem putWr_keys {ks : List Str} : ∀ (wr : Wr) (kvs : Dk), (∀ y ∈ wr, y.1 ∈ ks) → (∀ q ∈ kvs, ∃ k ∈ ks, q.1 = Sum.inr k) → (kvs.map (·.1)).Nodup → (∀ q ∈ putWr kvs wr, ∃ k ∈ ks, q.1 = Sum.inr k) ∧ ((putWr kvs wr).map (·.1)).Nodup
  | [], kvs, _, h, n => ⟨h, n⟩
  | x :: r, kvs, hw, h, n => by
    refine putWr_keys r (putK kvs (Sum.inr x.1) (wV x.2)) (fun y hy => hw y (List.mem_cons_of_mem _ hy)) (fun q hq => ?_) ?_
    · unfold putK at hq
      split at hq
      · obtain ⟨z, hz, e⟩ := List.mem_map.mp hq
        split at e
        · subst e; exact h z hz
        · subst e; exact h z hz
      · rcases List.mem_append.mp hq with hq | hq
        · exact h q hq
        · have e := List.mem_singleton.mp hq
          subst e
          exact ⟨x.1, hw x List.mem_cons_self, rfl⟩
    · cases e : valV kvs (Sum.inr x.1) with
      | none => exact nd_putK _ n e
      | some v =>
        unfold putK
        have ea : (kvs.any fun kv => decide (kv.1 = Sum.inr x.1)) = true := by rw [valV_any, e]; rfl
        rw [if_pos ea, List.map_map]
        have em : (fun kv : Key × V => (if kv.1 = Sum.inr x.1 then (kv.1, wV x.2) else kv).1) = fun kv : Key × V => kv.1 := by
          funext kv
          split <;> rfl
        show ((kvs.map ((·.1) ∘ fun kv => if kv.1 = Sum.inr x.1 then (kv.1, wV x.2) else kv))).Nodup
        have e2 : ((fun q : Key × V => q.1) ∘ fun kv => if kv.1 = Sum.inr x.1 then (kv.1, wV x.2) else kv) = fun kv : Key × V => kv.1 := em
        rw [e2]
        exact n
structure DkOk (ks : List Str) (kvs : Dk) : Prop where
  k : ∀ q ∈ kvs, ∃ k ∈ ks, q.1 = Sum.inr k
  nd : (kvs.map (·.1)).Nodup
theorem DkOk.put {ks : List Str} {kvs : Dk} {wr : Wr} (h : DkOk ks kvs) (hw : ∀ y ∈ wr, y.1 ∈ ks) : DkOk ks (putWr kvs wr) :=
  ⟨(putWr_keys wr kvs hw h.k h.nd).1, (putWr_keys wr kvs hw h.k h.nd).2⟩
theorem DkOk.nil {ks : List Str} : DkOk ks [] := ⟨fun _ h => (List.not_mem_nil h).elim, List.nodup_nil⟩
theorem DkOk.rows {ks : List Str} {xs : List (Str × Int)} (h : ∀ x ∈ xs, x.1 ∈ ks) (n : (xs.map (·.1)).Nodup) : DkOk ks (rowsK xs) := by
  constructor
  · intro q hq
    obtain ⟨x, hx, e⟩ := List.mem_map.mp hq
    subst e
    exact ⟨x.1, h x hx, rfl⟩
  · unfold rowsK
    rw [List.map_map]
    have e : ((fun q : Key × V => q.1) ∘ fun x : Str × Int => ((Sum.inr x.1 : Key), V.int x.2)) = (Sum.inr : Str → Key) ∘ fun x : Str × Int => x.1 := rfl
    rw [e, ← List.map_map]
    exact List.pairwise_map.mpr (List.Pairwise.imp (fun h q => h (Sum.inr.inj q)) n)
theorem DkOk.sheet {ks : List Str} : ∀ {kept : List (Int × Wr)} {b : Dk}, DkOk ks b → (∀ x ∈ kept, ∀ y ∈ x.2, y.1 ∈ ks) → DkOk ks (sheetK b kept)
  | [], _, h, _ => h
  | x :: r, _, h, hk => DkOk.sheet (kept := r) (h.put (hk x List.mem_cons_self)) fun y hy => hk y (List.mem_cons_of_mem _ hy)
theorem nodup_sub_len {α : Type} [DecidableEq α] : ∀ {xs ys : List α}, xs.Nodup → (∀ x ∈ xs, x ∈ ys) → xs.length ≤ ys.length
  | [], _, _, _ => Nat.zero_le _
  | x :: r, ys, hn, h => by
    have hx : x ∈ ys := h x List.mem_cons_self
    have hr : r.length ≤ (ys.erase x).length := nodup_sub_len (List.nodup_cons.mp hn).2 fun y hy => by
      have ne : y ≠ x := fun z => (List.nodup_cons.mp hn).1 (z ▸ hy)
      exact (List.mem_erase_of_ne ne).mpr (h y (List.mem_cons_of_mem _ hy))
    rw [List.length_erase_of_mem hx] at hr
    have : 0 < ys.length := List.length_pos_of_mem hx
    rw [List.length_cons]
    omega
theorem DkOk.strs {ks : List Str} {kvs : Dk} (h : DkOk ks kvs) : ∃ l : List Str, kvs.map (·.1) = l.map Sum.inr ∧ l.Nodup ∧ (∀ k ∈ l, k ∈ ks) := by
  obtain ⟨hk, hn⟩ := h
  induction kvs with
  | nil => exact ⟨[], rfl, List.nodup_nil, fun _ q => (List.not_mem_nil q).elim⟩
  | cons p r ih =>
    obtain ⟨l, e, n, m⟩ := ih (fun q hq => hk q (List.mem_cons_of_mem _ hq)) (List.nodup_cons.mp hn).2
    obtain ⟨k, hk1, hk2⟩ := hk p List.mem_cons_self
    refine ⟨k :: l, by rw [List.map_cons, List.map_cons, e, hk2], List.nodup_cons.mpr ⟨fun z => (List.nodup_cons.mp hn).1 ?_, n⟩, fun x hx => ?_⟩
    · show p.1 ∈ r.map (·.1)
      rw [hk2, e]
      exact List.mem_map_of_mem z
    · rcases List.mem_cons.mp hx with z | z
      · rw [z]; exact hk1
      · exact m x z
theorem DkOk.len {ks : List Str} {kvs : Dk} (h : DkOk ks kvs) : kvs.length ≤ ks.length := by
  obtain ⟨l, e, n, m⟩ := h.strs
  have : kvs.length = l.length := by have := congrArg List.length e; simpa using this
  rw [this]
  exact nodup_sub_len n m
/-- a worth in a dict -/
def worth : Option V → Option Int
  | some (.int i) => some i
  | _ => none
def Wn (kvs : Dk) : Prop := ∀ q ∈ kvs, ∃ w, q.2 = wV w
theorem worth_wV (w : Option Int) : worth (some (wV w)) = w := by cases w <;> rfl
theorem valV_mem {kvs : Dk} {k : Key} {v : V} (h : valV kvs k = some v) : (k, v) ∈ kvs := by
  unfold valV at h
  cases q : kvs.find? fun q => decide (q.1 = k) with
  | none => rw [q] at h; cases h
  | some y =>
    rw [q] at h
    have e := List.find?_some q
    have m := List.mem_of_find?_eq_some q
    have e1 : y.1 = k := by simpa using e
    have e2 : y.2 = v := by simpa using h
    rw [← e1, ← e2]
    exact m
theorem valV_of_mem : ∀ {kvs : Dk} {q : Key × V}, (kvs.map (·.1)).Nodup → q ∈ kvs → valV kvs q.1 = some q.2
  | p :: r, q, hn, h => by
    rcases List.mem_cons.mp h with e | e
    · subst e; exact valV_pos rfl
    · have ne : ¬ p.1 = q.1 := fun z => (List.nodup_cons.mp hn).1 (by show p.1 ∈ r.map (·.1); rw [z]; exact List.mem_map_of_mem e)
      rw [valV_neg ne]
      exact valV_of_mem (List.nodup_cons.mp hn).2 e
theorem mem_putK {kvs : Dk} {k : Key} {v : V} {q : Key × V} (h : q ∈ putK kvs k v) : q ∈ kvs ∨ q.2 = v ∧ q.1 = k := by
  unfold putK at h
  split at h
  · obtain ⟨z, hz, e⟩ := List.mem_map.mp h
    split at e
    · rename_i c
      subst e; exact .inr ⟨rfl, c⟩
    · subst e; exact .inl hz
  · rcases List.mem_append.mp h with h | h
    · exact .inl h
    · have e := List.mem_singleton.mp h
      subst e
      exact .inr ⟨rfl, rfl⟩
theorem Wn.put : ∀ {wr : Wr} {kvs : Dk}, Wn kvs → Wn (putWr kvs wr)
  | [], _, h => h
  | x :: r, kvs, h => Wn.put (wr := r) fun q hq => by
    rcases mem_putK hq with z | z
    · exact h q z
    · exact ⟨x.2, z.1⟩
theorem Wn.sheet : ∀ {kept : List (Int × Wr)} {kvs : Dk}, Wn kvs → Wn (sheetK kvs kept)
  | [], _, h => h
  | x :: r, kvs, h => Wn.sheet (kept := r) h.put
theorem Wn.rows {xs : List (Str × Int)} : Wn (rowsK xs) := fun q hq => by
  obtain ⟨x, hx, e⟩ := List.mem_map.mp hq
  subst e
  exact ⟨some x.2, rfl⟩
theorem worth_put (k : Str) : ∀ (wr : Wr) (kvs : Dk), worth (valV (putWr kvs wr) (Sum.inr k)) = seesW (worth (valV kvs (Sum.inr k))) wr k
  | [], kvs => rfl
  | x :: r, kvs => by
    show worth (valV (putWr (putK kvs (Sum.inr x.1) (wV x.2)) r) (Sum.inr k)) = seesW (if x.1 = k then x.2 else worth (valV kvs (Sum.inr k))) r k
    rw [worth_put k r, valV_put]
    congr 1
    by_cases c : x.1 = k
    · rw [if_pos (by rw [c]), if_pos c, worth_wV]
    · rw [if_neg (fun z => c (Sum.inr.inj z).symm), if_neg c]
theorem worth_sheet (k : Str) : ∀ (kept : List (Int × Wr)) (kvs : Dk), worth (valV (sheetK kvs kept) (Sum.inr k)) = kept.foldl (fun a x => seesW a x.2 k) (worth (valV kvs (Sum.inr k)))
  | [], kvs => rfl
  | x :: r, kvs => by
    show worth (valV (sheetK (putWr kvs x.2) r) (Sum.inr k)) = r.foldl (fun a x => seesW a x.2 k) (seesW (worth (valV kvs (Sum.inr k))) x.2 k)
    rw [worth_sheet k r, worth_put]
theorem worth_rows (k : Str) : ∀ xs : List (Str × Int), valV (rowsK xs) (Sum.inr k) = (start? xs k).map V.int
  | [] => rfl
  | x :: r => by
    by_cases c : x.1 = k
    · have e1 : valV (rowsK (x :: r)) (Sum.inr k) = some (.int x.2) := valV_pos (by show Sum.inr x.1 = _; rw [c])
      have e2 : start? (x :: r) k = some x.2 := by unfold start?; rw [List.find?_cons_of_pos (by simpa using c)]; rfl
      rw [e1, e2]; rfl
    · have e1 : valV (rowsK (x :: r)) (Sum.inr k) = valV (rowsK r) (Sum.inr k) := valV_neg (fun z => c (Sum.inr.inj z))
      have e2 : start? (x :: r) k = start? r k := by unfold start?; rw [List.find?_cons_of_neg (by simpa using c)]
      rw [e1, e2, worth_rows k r]
theorem worth_start (xs : List (Str × Int)) (k : Str) : worth (valV (rowsK xs) (Sum.inr k)) = start? xs k := by
  rw [worth_rows]
  cases start? xs k <;> rfl
def St.full (s : St) (st : Int) (own : Wr) : Dk := putWr (s.sheet (s.ofs st)) own
theorem worth_full (s : St) (st : Int) (own : Wr) (k : Str) : worth (valV (s.full st own) (Sum.inr k)) = seesL s st own k := by
  unfold St.full seesL St.sheet St.startK
  rw [worth_put, worth_sheet, worth_start]
/-! ### the view: what is there -/
def viewF (kvs acc : Dk) : Dk := kvs.foldl (fun a q => if q.2 = .non then a else putK a q.1 q.2) acc
theorem viewF_val (k : Key) : ∀ (kvs acc : Dk), (kvs.map (·.1)).Nodup → valV (viewF kvs acc) k = (match valV kvs k with | some v => if v = .non then valV acc k else some v | none => valV acc k)
  | [], acc, _ => rfl
  | p :: r, acc, hn => by
    show valV (viewF r (if p.2 = .non then acc else putK acc p.1 p.2)) k = _
    rw [viewF_val k r _ (List.nodup_cons.mp hn).2]
    by_cases c : p.1 = k
    · have en : valV r k = none := by
        cases e : valV r k with
        | none => rfl
        | some v => exact ((List.nodup_cons.mp hn).1 (by show p.1 ∈ r.map (·.1); rw [c]; exact valV_in e)).elim
      rw [en, valV_pos c]
      by_cases z : p.2 = .non
      · simp [z]
      · simp [z, valV_put, c]
    · rw [valV_neg c]
      have e : valV (if p.2 = .non then acc else putK acc p.1 p.2) k = valV acc k := by
        split
        · rfl
        · rw [valV_put, if_neg (fun z => c z.symm)]
      rw [e]
theorem DkOk.putK1 {ks : List Str} {kvs : Dk} {k : Str} {v : V} (h : DkOk ks kvs) (hk : k ∈ ks) : DkOk ks (putK kvs (Sum.inr k) v) := by
  refine ⟨fun q hq => ?_, ?_⟩
  · rcases mem_putK hq with z | z
    · exact h.k q z
    · exact ⟨k, hk, z.2⟩
  · cases e : valV kvs (Sum.inr k) with
    | none => exact nd_putK _ h.nd e
    | some u =>
      unfold putK
      have ea : (kvs.any fun kv => decide (kv.1 = Sum.inr k)) = true := by rw [valV_any, e]; rfl
      rw [if_pos ea, List.map_map]
      have e2 : ((fun q : Key × V => q.1) ∘ fun kv => if kv.1 = Sum.inr k then (kv.1, v) else kv) = fun kv : Key × V => kv.1 := by
        funext kv
        show (if kv.1 = Sum.inr k then (kv.1, v) else kv).1 = kv.1
        split <;> rfl
      rw [e2]
      exact h.nd
theorem DkOk.viewF {ks : List Str} : ∀ {kvs acc : Dk}, DkOk ks kvs → DkOk ks acc → DkOk ks (Hs.viewF kvs acc)
  | [], _, _, h => h
  | p :: r, acc, h, ha => by
    have hr : DkOk ks r := ⟨fun q hq => h.k q (List.mem_cons_of_mem _ hq), (List.nodup_cons.mp h.nd).2⟩
    refine DkOk.viewF (kvs := r) hr ?_
    obtain ⟨k, hk, e⟩ := h.k p List.mem_cons_self
    show DkOk ks (if p.2 = V.non then acc else putK acc p.1 p.2)
    split
    · exact ha
    · rw [e]; exact ha.putK1 hk
def St.view (s : St) (st : Int) (own : Wr) : Dk := viewF (s.full st own) []
section
variable {ks : List Str} {n : Nat} {s : St} {st d : Int} {own : Wr}
theorem SOk.startK (h : SOk ks n s) : DkOk ks s.startK := DkOk.rows h.st h.sn
theorem SOk.sheet (h : SOk ks n s) (i : Nat) : DkOk ks (s.sheet i) := DkOk.sheet h.startK fun x hx => h.kk x (List.mem_of_mem_take hx)
theorem SOk.full (h : SOk ks n s) (f : s.find d = some (st, own)) : DkOk ks (s.full st own) := (h.sheet _).put (h.ok _ (find_mem f))
theorem SOk.view (h : SOk ks n s) (f : s.find d = some (st, own)) : DkOk ks (s.view st own) := (h.full f).viewF .nil
theorem full_wn (s : St) (st : Int) (own : Wr) : Wn (s.full st own) := Wn.put (Wn.sheet Wn.rows)
theorem view_val (h : SOk ks n s) (f : s.find d = some (st, own)) (k : Str) : valV (s.view st own) (Sum.inr k) = (seesL s st own k).map V.int := by
  unfold St.view
  rw [viewF_val _ _ _ (h.full f).nd, ← worth_full]
  cases e : valV (s.full st own) (Sum.inr k) with
  | none => rfl
  | some v =>
    obtain ⟨w, ew⟩ := full_wn s st own _ (valV_mem e)
    simp only at ew
    subst ew
    cases w <;> rfl
theorem view_getD (h : SOk ks n s) (f : s.find d = some (st, own)) (k : Str) : (valV (s.view st own) (Sum.inr k)).getD .non = wV (seesL s st own k) := by
  rw [view_val h f]
  cases seesL s st own k <;> rfl
theorem sL_irrefl (a : Str) : ¬ sL a a := List.lt_irrefl _
theorem sL_trans {a b c : Str} (h : sL a b) (h' : sL b c) : sL a c := List.lt_trans h h'
theorem scan_uniq : ∀ {r r' : List (Str × Int)}, (r.Pairwise fun a b => sL a.1 b.1) → (r'.Pairwise fun a b => sL a.1 b.1) → (∀ x, x ∈ r ↔ x ∈ r') → r = r'
  | [], [], _, _, _ => rfl
  | [], y :: t, _, _, h => absurd ((h y).mpr List.mem_cons_self) List.not_mem_nil
  | x :: r, [], _, _, h => absurd ((h x).mp List.mem_cons_self) List.not_mem_nil
  | x :: r, y :: t, h1, h2, h => by
    have hx := (h x).mp List.mem_cons_self
    have hy := (h y).mpr List.mem_cons_self
    have e : x = y := by
      rcases List.mem_cons.mp hx with e | e
      · exact e
      · rcases List.mem_cons.mp hy with e' | e'
        · exact e'.symm
        · exact (sL_irrefl x.1 (sL_trans ((List.pairwise_cons.mp h1).1 y e') ((List.pairwise_cons.mp h2).1 x e))).elim
    subst e
    rw [scan_uniq (List.pairwise_cons.mp h1).2 (List.pairwise_cons.mp h2).2 fun z => ?_]
    constructor
    · intro hz
      rcases List.mem_cons.mp ((h z).mp (List.mem_cons_of_mem _ hz)) with e | e
      · subst e; exact (sL_irrefl _ ((List.pairwise_cons.mp h1).1 _ hz)).elim
      · exact e
    · intro hz
      rcases List.mem_cons.mp ((h z).mpr (List.mem_cons_of_mem _ hz)) with e | e
      · subst e; exact (sL_irrefl _ ((List.pairwise_cons.mp h2).1 _ hz)).elim
      · exact e
end
theorem Paired.imp {α β : Type} {F F' : α → β → Prop} (h : ∀ a b, F a b → F' a b) : ∀ {xs : List α} {ys : List β}, Paired F xs ys → Paired F' xs ys
  | _, _, .nil => .nil
  | _, _, .cons r t => .cons (h _ _ r) (Paired.imp h t)
theorem Paired.at_ {α β : Type} {F : α → β → Prop} : ∀ {xs : List α} {ys : List β} {i : Nat} {y : β}, Paired F xs ys → ys[i]? = some y → ∃ x, xs[i]? = some x ∧ F x y
  | _, _, _, _, .nil, e => by simp at e
  | _, _, 0, _, .cons r _, e => by simp at e; subst e; exact ⟨_, rfl, r⟩
  | _, _, i + 1, y, .cons _ t, e => by
    obtain ⟨x, h1, h2⟩ := Paired.at_ (i := i) (y := y) t (by simpa using e)
    exact ⟨x, by simpa using h1, h2⟩
theorem Paired.at' {α β : Type} {F : α → β → Prop} : ∀ {xs : List α} {ys : List β} {i : Nat} {x : α}, Paired F xs ys → xs[i]? = some x → ∃ y, ys[i]? = some y ∧ F x y
  | _, _, _, _, .nil, e => by simp at e
  | _, _, 0, _, .cons r _, e => by simp at e; subst e; exact ⟨_, rfl, r⟩
  | _, _, i + 1, x, .cons _ t, e => by
    obtain ⟨y, h1, h2⟩ := Paired.at' (i := i) (x := x) t (by simpa using e)
    exact ⟨y, by simpa using h1, h2⟩
theorem Paired.len {α β : Type} {F : α → β → Prop} : ∀ {xs : List α} {ys : List β}, Paired F xs ys → xs.length = ys.length
  | _, _, .nil => rfl
  | _, _, .cons _ t => by simp [Paired.len t]
theorem Paired.app {α β : Type} {F : α → β → Prop} : ∀ {xs xs' : List α} {ys ys' : List β}, Paired F xs ys → Paired F xs' ys' → Paired F (xs ++ xs') (ys ++ ys')
  | _, _, _, _, .nil, t => t
  | _, _, _, _, .cons r t, u => .cons r (Paired.app t u)
theorem Paired.tak {α β : Type} {F : α → β → Prop} : ∀ {xs : List α} {ys : List β} (n : Nat), Paired F xs ys → Paired F (xs.take n) (ys.take n)
  | _, _, 0, _ => .nil
  | _, _, _ + 1, .nil => .nil
  | _, _, n + 1, .cons r t => .cons r (Paired.tak n t)
theorem Paired.drp {α β : Type} {F : α → β → Prop} : ∀ {xs : List α} {ys : List β} (n : Nat), Paired F xs ys → Paired F (xs.drop n) (ys.drop n)
  | _, _, 0, r => r
  | _, _, _ + 1, .nil => .nil
  | _, _, n + 1, .cons r t => Paired.drp n t
end Hs

set_option maxHeartbeats 4000000
/-! how a heap bears a history's state: G the part that stays, H the heap -/
namespace Hs
open PySem PySem.Spec PyProof.Rows L2 Sk
/-- only what lies at M may have changed; G may have grown by new things -/
structure Step (M : List Addr) (G H G' H' : Hp) : Prop where
  gg : Same G G'
  gh : Same G' H'
  hh : ∀ b o, b ∉ M → H b = some o → H' b = some o
  old : ∀ b, H b ≠ none → G' b = G b
abbrev Grow (G H G' H' : Hp) : Prop := Step [] G H G' H'
section
variable {M : List Addr} {G H G' H' G'' H'' : Hp}
theorem Step.refl (s : Same G H) : Step M G H G H := ⟨Same.refl _, s, fun _ _ _ e => e, fun _ _ => rfl⟩
theorem Step.mono {N : List Addr} (a : Step M G H G' H') (h : ∀ b ∈ M, b ∈ N) : Step N G H G' H' := ⟨a.gg, a.gh, fun b o hb e => a.hh b o (fun z => hb (h b z)) e, a.old⟩
theorem Step.same (a : Step [] G H G' H') : Same H H' := fun b o e => a.hh b o List.not_mem_nil e
/-- what lay before lies somewhere still -/
def Lives (H H' : Hp) : Prop := ∀ b, H b ≠ none → H' b ≠ none
theorem Step.trans {N : List Addr} (a : Step M G H G' H') (l : Lives H H') (b : Step N G' H' G'' H'') (hN : ∀ x ∈ N, x ∈ M ∨ H x = none) : Step M G H G'' H'' :=
  ⟨a.gg.trans b.gg, b.gh, fun c o hc e => b.hh c o (fun z => by
    rcases hN c z with q | q
    · exact hc q
    · rw [e] at q; cases q) (a.hh c o hc e), fun c hc => by rw [b.old c (l c hc), a.old c hc]⟩
theorem Step.lives0 (a : Step [] G H G' H') : Lives H H' := fun b hb => by
  cases e : H b with
  | none => exact (hb e).elim
  | some o => rw [a.same b o e]; simp
theorem Step.gthen (a : Step [] G H G' H') (b : Step M G' H' G'' H'') (hM : ∀ x ∈ M, H x ≠ none) : Step M G H G'' H'' :=
  (a.mono (fun _ q => (List.not_mem_nil q).elim)).trans a.lives0 b fun x hx => .inl hx
theorem Grow.trans (a : Grow G H G' H') (b : Grow G' H' G'' H'') : Grow G H G'' H'' := Step.trans a a.lives0 b fun _ q => (List.not_mem_nil q).elim
theorem growF {H1 : Hp} {p : Addr} {o : HO} (g : Same G H) (np : H p = none) (s1 : Same H H1) (e1 : H1 p = some o) : Grow G H (upd G p o) H1 := by
  have gp : G p = none := g.free np
  refine ⟨same_new gp, fun b u e => ?_, fun b u _ e => s1 b u e, fun b hb => ?_⟩
  · by_cases hbp : b = p
    · subst hbp; rw [upd_same] at e; cases e; exact e1
    · rw [upd_ne hbp] at e; exact s1 _ _ (g _ _ e)
  · exact upd_ne (fun z => hb (by rw [z]; exact np))
theorem growM {H1 : Hp} (g : Same G H) (s1 : Same H H1) : Grow G H G H1 := ⟨Same.refl _, g.trans s1, fun b u _ e => s1 b u e, fun _ _ => rfl⟩
theorem stepU {p : Addr} {o : HO} (g : Same G H) (gp : G p = none) (hp : p ∈ M) : Step M G H G (upd H p o) := by
  refine ⟨Same.refl _, fun b u e => ?_, fun b u hb e => ?_, fun _ _ => rfl⟩
  · rw [upd_ne (ne_of_none e gp)]; exact g _ _ e
  · rw [upd_ne (fun z => hb (by rw [z]; exact hp))]; exact e
theorem Step.none (a : Step M G H G' H') {b : Addr} {o : HO} (e : H b = some o) (n : G b = none) : G' b = none := by rw [a.old b (by rw [e]; simp), n]
end
/-! ### worths, writes, rows, events in the part that stays -/
def WrAt (G : Hp) (v : V) (x : Str × Option Int) : Prop := ∃ t, v = .ref t ∧ G t = some (.tup [.str x.1, wV x.2])
def RowAt (G : Hp) (v : V) (x : Str × Int) : Prop := ∃ t, v = .ref t ∧ G t = some (.tup [.str x.1, .int x.2])
def RowsAt (G : Hp) (v : V) (rows : List (Str × Int)) : Prop := ∃ l vs, v = .ref l ∧ G l = some (.lst vs) ∧ Paired (RowAt G) vs rows
/-- a part of an event: its words behind the first -/
inductive RestAt (G : Hp) : Ev → List V → Prop
  | begin (d : Int) : RestAt G (.begin d) [.int d]
  | read (d : Int) (k : Str) (w : Option Int) : RestAt G (.read d k w) [.int d, .str k, wV w]
  | scan (d : Int) (lo hi : Str) {rows : List (Str × Int)} {v : V} (h : RowsAt G v rows) : RestAt G (.scan d lo hi rows) [.int d, .str lo, .str hi, v]
  | put (d : Int) (k : Str) (w : Int) : RestAt G (.put d k w) [.int d, .str k, .int w]
  | drop (d : Int) (k : Str) : RestAt G (.drop d k) [.int d, .str k]
  | mark (d n : Int) : RestAt G (.mark d n) [.int d, .int n]
  | back (d n : Int) : RestAt G (.back d n) [.int d, .int n]
  | keep (d p : Int) : RestAt G (.keep d p) [.int d, .int p]
  | undo (d : Int) : RestAt G (.undo d) [.int d]
  | fall (n : Int) : RestAt G (.fall n) [.int n]
  | raised (n : Int) {rows : List (Str × Int)} {v : V} (h : RowsAt G v rows) : RestAt G (.raised n rows) [.int n, v]
def Ev.word : Ev → Str
  | .begin _ => "begin" | .read _ _ _ => "read" | .scan _ _ _ _ => "scan" | .put _ _ _ => "put" | .drop _ _ => "drop" | .mark _ _ => "mark" | .back _ _ => "back" | .keep _ _ => "keep" | .undo _ => "undo" | .fall _ => "fall" | .raised _ _ => "raised"
def EvAt (G : Hp) (v : V) (e : Ev) : Prop := ∃ t vs, v = .ref t ∧ G t = some (.tup (.str e.word :: vs)) ∧ RestAt G e vs
section
variable {G G' : Hp}
theorem WrAt.grow {v : V} {x : Str × Option Int} (s : Same G G') (h : WrAt G v x) : WrAt G' v x := by
  obtain ⟨t, e, h⟩ := h
  exact ⟨t, e, s _ _ h⟩
theorem RowAt.grow {v : V} {x : Str × Int} (s : Same G G') (h : RowAt G v x) : RowAt G' v x := by
  obtain ⟨t, e, h⟩ := h
  exact ⟨t, e, s _ _ h⟩
theorem RowsAt.grow {v : V} {x : List (Str × Int)} (s : Same G G') (h : RowsAt G v x) : RowsAt G' v x := by
  obtain ⟨l, vs, e, h, p⟩ := h
  exact ⟨l, vs, e, s _ _ h, Paired.imp (fun _ _ r => r.grow s) p⟩
theorem RestAt.grow {e : Ev} {vs : List V} (s : Same G G') (h : RestAt G e vs) : RestAt G' e vs := by
  cases h with
  | scan d lo hi h => exact .scan d lo hi (h.grow s)
  | raised n h => exact .raised n (h.grow s)
  | _ => constructor
theorem EvAt.grow {v : V} {e : Ev} (s : Same G G') (h : EvAt G v e) : EvAt G' v e := by
  obtain ⟨t, vs, e1, h, p⟩ := h
  exact ⟨t, vs, e1, s _ _ h, p.grow s⟩
end
/-! ### rows as data -/
def rowsD (rows : List (Str × Int)) : List PyData := rows.map fun x => .tuple [.str x.1, .int x.2]
theorem rowsD_eqv : ∀ a b : List (Str × Int), PyData.eqvAll (rowsD a) (rowsD b) = decide (a = b)
  | [], [] => rfl
  | [], _ :: _ => rfl
  | _ :: _, [] => rfl
  | x :: r, y :: t => by
    show (PyData.eqv (.tuple [.str x.1, .int x.2]) (.tuple [.str y.1, .int y.2]) && PyData.eqvAll (rowsD r) (rowsD t)) = _
    rw [rowsD_eqv r t]
    show ((x.1 == y.1) && ((x.2 == y.2) && true) && _) = _
    rw [Bool.eq_iff_iff]
    obtain ⟨x1, x2⟩ := x
    obtain ⟨y1, y2⟩ := y
    simp [and_assoc]
theorem rowsD_lay : ∀ rows : List (Str × Int), (∀ x ∈ rows, PyData.strOk x.1 = true) → PyData.canLayAll0 (rowsD rows) = true
  | [], _ => rfl
  | x :: r, h => by
    show (((PyData.strOk x.1) && (true && true)) && PyData.canLayAll0 (rowsD r)) = true
    rw [h x List.mem_cons_self, rowsD_lay r fun y hy => h y (List.mem_cons_of_mem _ hy)]
    rfl
theorem rowsD_depth : ∀ rows : List (Str × Int), PyData.depthAll (rowsD rows) ≤ 1
  | [] => Nat.zero_le _
  | x :: r => by
    show max (max 0 (max 0 0) + 1) (PyData.depthAll (rowsD r)) ≤ 1
    have := rowsD_depth r
    omega
theorem rowsD_shaped {rows : List (Str × Int)} (h : ∀ x ∈ rows, PyData.strOk x.1 = true) : SeqAt.shaped (.list (rowsD rows)) = true := by
  show (PyData.canLayAll0 (rowsD rows) && decide (PyData.depthAll (rowsD rows) + 1 ≤ 64)) = true
  rw [rowsD_lay rows h, Bool.true_and, decide_eq_true_eq]
  have := rowsD_depth rows
  omega
theorem rowsDpAll {K : PySem.W.Frag} {G : Hp} : ∀ {vs : List V} {rows : List (Str × Int)}, Paired (RowAt G) vs rows → DpAll K G vs (rowsD rows)
  | _, _, .nil => .nil
  | _, _, .cons (a := v) (b := x) h t => by
    obtain ⟨q, rfl, e⟩ := h
    exact .cons (.tup (SqT.of e) (.cons (.str _) (.cons (.int _) .nil))) (rowsDpAll t)
/-! ### the witness -/
structure De where
  d : Int
  D : Addr
  W : Addr
  ws : List V
  st : Int
  own : Wr
structure Wa where
  A : Addr
  B : Addr
  C : Addr
  ss : List Addr
  ks : List Addr
  dl : List De
def Wa.M (a : Wa) (p : Addr) : List Addr := p :: a.A :: a.B :: a.C :: (a.dl.map (·.D) ++ a.dl.map (·.W))
def KpAt (G : Hp) (q : Addr) (x : Int × Wr) : Prop := ∃ l, G q = some (.tup [.int x.1, .ref l]) ∧ G l = some (.lst (x.2.map fun y => .str y.1))
abbrev wF (s : St) (a : Wa) : List (Str × V) := [("base", .int s.base), ("sheets", .ref a.A), ("keepers", .ref a.B), ("doers", .ref a.C)]
abbrev dF (e : De) : List (Str × V) := [("since", .int e.st), ("writes", .ref e.W)]
def dlK (dl : List De) : List (Key × V) := dl.map fun e => (Sum.inl e.d, V.ref e.D)
structure WitAt (CW CD : Addr) (G H : Hp) (p : Addr) (s : St) (a : Wa) : Prop where
  gh : Same G H
  ob : ∃ dx, H p = some (.ins CW dx (wF s a))
  sh : H a.A = some (.lst (a.ss.map V.ref))
  sl : a.ss.length = s.kept.length + 1
  shs : ∀ i q, a.ss[i]? = some q → G q = some (.dK (s.sheet i))
  kp : H a.B = some (.lst (a.ks.map V.ref))
  kps : Paired (KpAt G) a.ks s.kept
  dk : H a.C = some (.dK (dlK a.dl))
  dks : a.dl.map (fun e => (e.d, e.st, e.own)) = s.op
  de : ∀ e ∈ a.dl, (∃ dx, H e.D = some (.ins CD dx (dF e))) ∧ H e.W = some (.lst e.ws) ∧ Paired (WrAt G) e.ws e.own
  nl : (a.A :: a.B :: a.dl.map (·.W)).Nodup
  ni : (p :: a.dl.map (·.D)).Nodup
  gm : ∀ m ∈ a.M p, G m = none
section
variable {CW CD : Addr} {G H G' H' : Hp} {p : Addr} {s : St} {a : Wa}
theorem KpAt.grow {q : Addr} {x : Int × Wr} (s : Same G G') (h : KpAt G q x) : KpAt G' q x := by
  obtain ⟨l, h1, h2⟩ := h
  exact ⟨l, s _ _ h1, s _ _ h2⟩
theorem WitAt.live (h : WitAt CW CD G H p s a) : ∀ m ∈ a.M p, H m ≠ none := by
  obtain ⟨dx, ob⟩ := h.ob
  intro m hm
  unfold Wa.M at hm
  simp only [List.mem_cons, List.mem_append, List.mem_map] at hm
  rcases hm with e | e | e | e | ⟨x, hx, e⟩ | ⟨x, hx, e⟩
  · rw [e, ob]; simp
  · rw [e, h.sh]; simp
  · rw [e, h.kp]; simp
  · rw [e, h.dk]; simp
  · obtain ⟨⟨dx, h1⟩, _⟩ := h.de x hx
    rw [← e, h1]; simp
  · obtain ⟨_, h1, _⟩ := h.de x hx
    rw [← e, h1]; simp
theorem WitAt.move {M : List Addr} (h : WitAt CW CD G H p s a) (g : Step M G H G' H') (hM : ∀ m ∈ a.M p, m ∉ M) : WitAt CW CD G' H' p s a := by
  obtain ⟨dx, ob⟩ := h.ob
  have hp : p ∉ M := hM p (by simp [Wa.M])
  have hA : a.A ∉ M := hM a.A (by simp [Wa.M])
  have hB : a.B ∉ M := hM a.B (by simp [Wa.M])
  have hC : a.C ∉ M := hM a.C (by simp [Wa.M])
  have hD : ∀ e ∈ a.dl, e.D ∉ M := fun e he => hM e.D (by simp only [Wa.M, List.mem_cons, List.mem_append, List.mem_map]; exact .inr (.inr (.inr (.inr (.inl ⟨e, he, rfl⟩)))))
  have hW : ∀ e ∈ a.dl, e.W ∉ M := fun e he => hM e.W (by simp only [Wa.M, List.mem_cons, List.mem_append, List.mem_map]; exact .inr (.inr (.inr (.inr (.inr ⟨e, he, rfl⟩)))))
  refine ⟨g.gh, ⟨dx, g.hh _ _ hp ob⟩, g.hh _ _ hA h.sh, h.sl, fun i q e => g.gg _ _ (h.shs i q e), g.hh _ _ hB h.kp, Paired.imp (fun _ _ r => r.grow g.gg) h.kps, g.hh _ _ hC h.dk, h.dks, fun e he => ?_, h.nl, h.ni, fun m hm => ?_⟩
  · obtain ⟨⟨dx, h1⟩, h2, h3⟩ := h.de e he
    exact ⟨⟨dx, g.hh _ _ (hD e he) h1⟩, g.hh _ _ (hW e he) h2, Paired.imp (fun _ _ r => r.grow g.gg) h3⟩
  · rw [g.old m (h.live m hm), h.gm m hm]
theorem WitAt.grow (h : WitAt CW CD G H p s a) (g : Grow G H G' H') : WitAt CW CD G' H' p s a := h.move g fun _ _ => List.not_mem_nil
theorem find_val (d : Int) : ∀ dl : List De, valV (dlK dl) (Sum.inl d) = (dl.find? fun e => decide (e.d = d)).map fun e => V.ref e.D
  | [] => rfl
  | e :: r => by
    by_cases c : e.d = d
    · have e1 : valV (dlK (e :: r)) (Sum.inl d) = some (V.ref e.D) := valV_pos (by show Sum.inl e.d = _; rw [c])
      rw [e1, List.find?_cons_of_pos (by simpa using c)]
      rfl
    · have e1 : valV (dlK (e :: r)) (Sum.inl d) = valV (dlK r) (Sum.inl d) := valV_neg (fun z => c (Sum.inl.inj z))
      rw [e1, List.find?_cons_of_neg (by simpa using c)]
      exact find_val d r
theorem WitAt.find (h : WitAt CW CD G H p s a) {d : Int} {x : Int × Wr} (e : s.find d = some x) : ∃ y, y ∈ a.dl ∧ y.d = d ∧ y.st = x.1 ∧ y.own = x.2 ∧ valV (dlK a.dl) (Sum.inl d) = some (.ref y.D) := by
  unfold St.find at e
  rw [← h.dks, List.find?_map] at e
  rw [find_val]
  cases q : a.dl.find? ((fun q : Int × Int × Wr => decide (q.1 = d)) ∘ fun e : De => (e.d, e.st, e.own)) with
  | none => rw [q] at e; cases e
  | some y =>
    rw [q] at e
    have ex := List.find?_some q
    have q' : (a.dl.find? fun e => decide (e.d = d)) = some y := q
    have e' : (y.st, y.own) = x := by simpa using e
    refine ⟨y, List.mem_of_find?_eq_some q, by simpa using ex, by rw [← e'], by rw [← e'], ?_⟩
    rw [q']
    rfl
theorem WitAt.nofind (h : WitAt CW CD G H p s a) {d : Int} (e : s.find d = none) : valV (dlK a.dl) (Sum.inl d) = none := by
  unfold St.find at e
  rw [← h.dks, List.find?_map] at e
  rw [find_val]
  cases q : a.dl.find? ((fun q : Int × Int × Wr => decide (q.1 = d)) ∘ fun e : De => (e.d, e.st, e.own)) with
  | none =>
    have q' : (a.dl.find? fun e => decide (e.d = d)) = none := q
    rw [q']
    rfl
  | some x => rw [q] at e; cases e
theorem WitAt.memOp (h : WitAt CW CD G H p s a) {e : De} (he : e ∈ a.dl) : (e.d, e.st, e.own) ∈ s.op := by rw [← h.dks]; exact List.mem_map_of_mem he
theorem find_of_mem {op : List (Int × Int × Wr)} : ∀ {x : Int × Int × Wr}, (op.map (·.1)).Nodup → x ∈ op → (op.find? fun q => decide (q.1 = x.1)) = some x := by
  induction op with
  | nil => intro x _ h; exact (List.not_mem_nil h).elim
  | cons y r ih =>
    intro x n h
    rcases List.mem_cons.mp h with e | e
    · subst e; rw [List.find?_cons_of_pos (by simp)]
    · have ne : y.1 ≠ x.1 := fun z => (List.nodup_cons.mp n).1 (by show y.1 ∈ r.map (·.1); rw [z]; exact List.mem_map_of_mem e)
      rw [List.find?_cons_of_neg (by simpa using ne)]
      exact ih (List.nodup_cons.mp n).2 e
theorem WitAt.findOf {ks : List Str} {n : Nat} (h : WitAt CW CD G H p s a) (ok : SOk ks n s) {e : De} (he : e ∈ a.dl) : s.find e.d = some (e.st, e.own) := by
  unfold St.find
  rw [find_of_mem ok.nd (h.memOp he)]
  rfl
end
end Hs

set_option maxHeartbeats 4000000
/-! the witness behind each kind of event -/
namespace Hs
open PySem PySem.Spec PyProof.Rows L2 Sk
section
variable {CW CD : Addr} {G H G' H' : Hp} {p : Addr} {s : St} {a : Wa}
theorem mem_D {e : De} (he : e ∈ a.dl) : e.D ∈ a.M p := by simp only [Wa.M, List.mem_cons, List.mem_append, List.mem_map]; exact .inr (.inr (.inr (.inr (.inl ⟨e, he, rfl⟩))))
theorem mem_W {e : De} (he : e ∈ a.dl) : e.W ∈ a.M p := by simp only [Wa.M, List.mem_cons, List.mem_append, List.mem_map]; exact .inr (.inr (.inr (.inr (.inr ⟨e, he, rfl⟩))))
theorem mem_p : p ∈ a.M p := by simp [Wa.M]
theorem mem_A : a.A ∈ a.M p := by simp [Wa.M]
theorem mem_B : a.B ∈ a.M p := by simp [Wa.M]
theorem mem_C : a.C ∈ a.M p := by simp [Wa.M]
theorem M_iff {b : Addr} : b ∈ a.M p ↔ b = p ∨ b = a.A ∨ b = a.B ∨ b = a.C ∨ (∃ e ∈ a.dl, e.D = b) ∨ ∃ e ∈ a.dl, e.W = b := by
  simp only [Wa.M, List.mem_cons, List.mem_append, List.mem_map]
theorem sheet_congr {s' : St} (h1 : s'.start = s.start) (h2 : s'.kept = s.kept) (i : Nat) : s'.sheet i = s.sheet i := by
  unfold St.sheet St.startK
  rw [h1, h2]
theorem dlK_app (xs ys : List De) : dlK (xs ++ ys) = dlK xs ++ dlK ys := List.map_append
/-- a dealing begun -/
theorem WitAt.begun (h : WitAt CW CD G H p s a) {d : Int} {x W dx : Addr} (fr : ∀ b o, b ≠ a.C → H b = some o → H' b = some o) (gh : Same G H') (hx : H x = none) (hW : H W = none)
    (ex : H' x = some (.ins CD dx [("since", .int s.last), ("writes", .ref W)])) (eW : H' W = some (.lst [])) (eC : H' a.C = some (.dK (putK (dlK a.dl) (Sum.inl d) (.ref x)))) (nf : s.find d = none) :
    WitAt CW CD G H' p (s.does (.begin d)) { a with dl := a.dl ++ [⟨d, x, W, [], s.last, []⟩] } := by
  obtain ⟨dx0, ob⟩ := h.ob
  have pC : p ≠ a.C := ne_val ob h.dk (fun z => nomatch z)
  have AC : a.A ≠ a.C := ne_val h.sh h.dk (fun z => nomatch z)
  have BC : a.B ≠ a.C := ne_val h.kp h.dk (fun z => nomatch z)
  refine ⟨gh, ⟨dx0, fr _ _ pC ob⟩, fr _ _ AC h.sh, h.sl, fun i q e => (by show G q = some (.dK (s.sheet i)); exact h.shs i q e), fr _ _ BC h.kp, h.kps, ?_, ?_, ?_, ?_, ?_, ?_⟩
  · show H' a.C = some (.dK (dlK (a.dl ++ [_])))
    rw [eC, putK_new _ (h.nofind nf), dlK_app]
    rfl
  · show (a.dl ++ [_]).map _ = s.op ++ [_]
    rw [List.map_append, h.dks]
    rfl
  · intro e he
    rcases List.mem_append.mp he with he | he
    · obtain ⟨⟨dx1, h1⟩, h2, h3⟩ := h.de e he
      exact ⟨⟨dx1, fr _ _ (ne_val h1 h.dk (fun z => nomatch z)) h1⟩, fr _ _ (ne_val h2 h.dk (fun z => nomatch z)) h2, h3⟩
    · rw [List.mem_singleton.mp he]
      exact ⟨⟨dx, ex⟩, eW, .nil⟩
  · have nl := h.nl
    show (a.A :: a.B :: (a.dl ++ [_]).map (fun e : De => e.W)).Nodup
    rw [List.map_append]
    have e1 : a.A :: a.B :: (a.dl.map (·.W) ++ [W]) = (a.A :: a.B :: a.dl.map (·.W)) ++ [W] := rfl
    show (a.A :: a.B :: (a.dl.map (·.W) ++ [W])).Nodup
    rw [e1]
    refine List.nodup_append.mpr ⟨nl, List.pairwise_singleton _ _, fun b hb c hc => ?_⟩
    rw [List.mem_singleton.mp hc]
    intro z
    subst z
    refine h.live _ (M_iff.mpr ?_) hW
    rcases List.mem_cons.mp hb with z | hb
    · exact .inr (.inl z)
    · rcases List.mem_cons.mp hb with z | hb
      · exact .inr (.inr (.inl z))
      · obtain ⟨e, he, z⟩ := List.mem_map.mp hb
        exact .inr (.inr (.inr (.inr (.inr ⟨e, he, z⟩))))
  · have ni := h.ni
    show (p :: (a.dl ++ [_]).map (fun e : De => e.D)).Nodup
    rw [List.map_append]
    show (p :: (a.dl.map (·.D) ++ [x])).Nodup
    have e1 : p :: (a.dl.map (·.D) ++ [x]) = (p :: a.dl.map (·.D)) ++ [x] := rfl
    rw [e1]
    refine List.nodup_append.mpr ⟨ni, List.pairwise_singleton _ _, fun b hb c hc => ?_⟩
    rw [List.mem_singleton.mp hc]
    intro z
    subst z
    refine h.live _ (M_iff.mpr ?_) hx
    rcases List.mem_cons.mp hb with z | hb
    · exact .inl z
    · obtain ⟨e, he, z⟩ := List.mem_map.mp hb
      exact .inr (.inr (.inr (.inr (.inl ⟨e, he, z⟩))))
  · intro m hm
    rcases M_iff.mp hm with z | z | z | z | ⟨e, he, z⟩ | ⟨e, he, z⟩
    · exact h.gm m (M_iff.mpr (.inl z))
    · exact h.gm m (M_iff.mpr (.inr (.inl z)))
    · exact h.gm m (M_iff.mpr (.inr (.inr (.inl z))))
    · exact h.gm m (M_iff.mpr (.inr (.inr (.inr (.inl z)))))
    · rcases List.mem_append.mp he with he | he
      · exact h.gm m (M_iff.mpr (.inr (.inr (.inr (.inr (.inl ⟨e, he, z⟩))))))
      · rw [List.mem_singleton.mp he] at z
        rw [← z]
        exact h.gh.free hx
    · rcases List.mem_append.mp he with he | he
      · exact h.gm m (M_iff.mpr (.inr (.inr (.inr (.inr (.inr ⟨e, he, z⟩))))))
      · rw [List.mem_singleton.mp he] at z
        rw [← z]
        exact h.gh.free hW
theorem inj_of {α : Type} {f : α → Addr} : ∀ {xs : List α} {a b : α}, (xs.map f).Nodup → a ∈ xs → b ∈ xs → f b = f a → b = a
  | y :: r, a, b, n, ha, hb, h => by
    rcases List.mem_cons.mp ha with h1 | h1
    · rcases List.mem_cons.mp hb with h2 | h2
      · rw [h1, h2]
      · exact ((List.nodup_cons.mp n).1 (by show f y ∈ r.map f; rw [← h1, ← h]; exact List.mem_map_of_mem h2)).elim
    · rcases List.mem_cons.mp hb with h2 | h2
      · exact ((List.nodup_cons.mp n).1 (by show f y ∈ r.map f; rw [← h2, h]; exact List.mem_map_of_mem h1)).elim
      · exact inj_of (List.nodup_cons.mp n).2 h1 h2 h
def replD (dl : List De) (d : Int) (e' : De) : List De := dl.map fun x => if x.d = d then e' else x
theorem uniq_d {ks : List Str} {n : Nat} (h : WitAt CW CD G H p s a) (ok : SOk ks n s) {e x : De} (he : e ∈ a.dl) (hx : x ∈ a.dl) (c : x.d = e.d) : x = e := by
  have nd : (a.dl.map (·.d)).Nodup := by
    have := ok.nd
    rw [← h.dks, List.map_map] at this
    exact this
  clear h ok
  revert nd he hx
  generalize a.dl = dl
  intro he hx nd
  induction dl with
  | nil => exact (List.not_mem_nil he).elim
  | cons y r ih =>
    rcases List.mem_cons.mp he with h1 | h1
    · rcases List.mem_cons.mp hx with h2 | h2
      · rw [h1, h2]
      · exact ((List.nodup_cons.mp nd).1 (by show y.d ∈ r.map (·.d); rw [← h1, ← c]; exact List.mem_map_of_mem h2)).elim
    · rcases List.mem_cons.mp hx with h2 | h2
      · exact ((List.nodup_cons.mp nd).1 (by show y.d ∈ r.map (·.d); rw [← h2, c]; exact List.mem_map_of_mem h1)).elim
      · exact ih h1 h2 (List.nodup_cons.mp nd).2
theorem nodup_swap {α β : Type} (f : α → β) (g : α → β) : ∀ {xs : List α} {pre : List β}, (pre ++ xs.map f).Nodup → (∀ x ∈ xs, g x = f x ∨ (g x ∉ pre ++ xs.map f ∧ ∀ y ∈ xs, g y = g x → f y = f x)) → (pre ++ xs.map g).Nodup
  | [], _, h, _ => h
  | x :: r, pre, h, hg => by
    have e : ∀ (k : α → β) (l : List β), l ++ (x :: r).map k = (l ++ [k x]) ++ r.map k := fun k l => by simp
    have hx : x ∉ ([] : List α) := List.not_mem_nil
    have h0 := h
    rw [e f] at h
    have hgx : g x ∉ pre ∧ g x ∉ r.map f := by
      rcases hg x List.mem_cons_self with z | z
      · rw [z]
        have h1 := List.nodup_append.mp h
        refine ⟨fun q => ?_, fun q => ?_⟩
        · exact (List.nodup_append.mp h1.1).2.2 _ q _ (List.mem_singleton.mpr rfl) rfl
        · exact h1.2.2 _ (List.mem_append_right _ (List.mem_singleton.mpr rfl)) _ q rfl
      · refine ⟨fun q => z.1 (List.mem_append_left _ q), fun q => z.1 (List.mem_append_right _ ?_)⟩
        rw [List.map_cons]
        exact List.mem_cons_of_mem _ q
    rw [e g]
    have h1 := List.nodup_append.mp h
    have h2 := List.nodup_append.mp h1.1
    refine nodup_swap f g (xs := r) (pre := pre ++ [g x]) ?_ ?_
    · refine List.nodup_append.mpr ⟨List.nodup_append.mpr ⟨h2.1, List.pairwise_singleton _ _, fun b hb c hc z => ?_⟩, h1.2.1, fun b hb c hc z => ?_⟩
      · rw [List.mem_singleton.mp hc] at z
        exact hgx.1 (z ▸ hb)
      · rcases List.mem_append.mp hb with q | q
        · exact h1.2.2 b (List.mem_append_left _ q) c hc z
        · rw [List.mem_singleton.mp q] at z
          exact hgx.2 (z ▸ hc)
    · intro y hy
      rcases hg y (List.mem_cons_of_mem _ hy) with z | z
      · exact .inl z
      · by_cases c : g y = g x
        · have hf := z.2 x List.mem_cons_self c.symm
          exact (h1.2.2 (f x) (List.mem_append_right _ (List.mem_singleton.mpr rfl)) (f y) (List.mem_map_of_mem hy) hf).elim
        · refine .inr ⟨fun q => ?_, fun w hw => z.2 w (List.mem_cons_of_mem _ hw)⟩
          rcases List.mem_append.mp q with q | q
          · rcases List.mem_append.mp q with q | q
            · exact z.1 (List.mem_append_left _ q)
            · exact c (List.mem_singleton.mp q)
          · exact z.1 (List.mem_append_right _ (by rw [List.map_cons]; exact List.mem_cons_of_mem _ q))
/-- a dealing's own writes changed -/
theorem WitAt.repl {ks : List Str} {n : Nat} (h : WitAt CW CD G H p s a) (ok : SOk ks n s) {e : De} (he : e ∈ a.dl) {W' dx : Addr} {ws' : List V} {own' : Wr} (f : Wr → Wr) (ho : own' = f e.own) (hW : W' = e.W ∨ H W' = none)
    (fr : ∀ b o, b ≠ e.D → b ≠ e.W → H b = some o → H' b = some o) (gh : Same G H') (eD : H' e.D = some (.ins CD dx [("since", .int e.st), ("writes", .ref W')])) (eW : H' W' = some (.lst ws')) (eP : Paired (WrAt G) ws' own') (s' : St) (hs' : s' = { s with op := setOp s.op e.d f }) :
    WitAt CW CD G H' p s' { a with dl := replD a.dl e.d { e with W := W', ws := ws', own := own' } } := by
  subst hs'
  obtain ⟨dx0, ob⟩ := h.ob
  obtain ⟨⟨dxe, hD0⟩, hW0, hP0⟩ := h.de e he
  have pD : p ≠ e.D := fun z => (List.nodup_cons.mp h.ni).1 (by rw [z]; exact List.mem_map_of_mem he)
  have pW : p ≠ e.W := ne_val ob hW0 (fun z => nomatch z)
  have AD : a.A ≠ e.D := ne_val h.sh hD0 (fun z => nomatch z)
  have BD : a.B ≠ e.D := ne_val h.kp hD0 (fun z => nomatch z)
  have CD' : a.C ≠ e.D := ne_val h.dk hD0 (fun z => nomatch z)
  have CW' : a.C ≠ e.W := ne_val h.dk hW0 (fun z => nomatch z)
  have n1 := List.nodup_cons.mp h.nl
  have n2 := List.nodup_cons.mp n1.2
  have AW : a.A ≠ e.W := fun z => n1.1 (by rw [z]; exact List.mem_cons_of_mem _ (List.mem_map_of_mem he))
  have BW : a.B ≠ e.W := fun z => n2.1 (by rw [z]; exact List.mem_map_of_mem he)
  refine ⟨gh, ⟨dx0, fr _ _ pD pW ob⟩, fr _ _ AD AW h.sh, h.sl, fun i q z => (by show G q = some (.dK (s.sheet i)); exact h.shs i q z), fr _ _ BD BW h.kp, h.kps, ?_, ?_, ?_, ?_, ?_, ?_⟩
  · show H' a.C = some (.dK (dlK (replD a.dl e.d _)))
    rw [fr _ _ CD' CW' h.dk]
    congr 2
    unfold dlK replD
    rw [List.map_map]
    refine List.map_congr_left fun x hx => ?_
    by_cases c : x.d = e.d
    · have := uniq_d h ok he hx c
      subst this
      simp
    · simp [c]
  · show (replD a.dl e.d _).map _ = setOp s.op e.d f
    unfold replD setOp
    rw [← h.dks, List.map_map, List.map_map]
    refine List.map_congr_left fun x hx => ?_
    by_cases c : x.d = e.d
    · have := uniq_d h ok he hx c
      subst this
      simp [ho]
    · simp [c]
  · intro x' hx'
    obtain ⟨x, hx, z⟩ := List.mem_map.mp hx'
    by_cases c : x.d = e.d
    · rw [if_pos c] at z
      subst z
      exact ⟨⟨dx, eD⟩, eW, eP⟩
    · rw [if_neg c] at z
      subst z
      obtain ⟨⟨dx1, h1⟩, h2, h3⟩ := h.de x hx
      have ne : x ≠ e := fun z => c (by rw [z])
      have xD : x.D ≠ e.D := fun z => ne (inj_of (List.nodup_cons.mp h.ni).2 he hx z)
      have xW : x.W ≠ e.W := fun z => ne (inj_of n2.2 he hx z)
      exact ⟨⟨dx1, fr _ _ xD (ne_val h1 hW0 (fun z => nomatch z)) h1⟩, fr _ _ (ne_val h2 hD0 (fun z => nomatch z)) xW h2, h3⟩
  · show (a.A :: a.B :: (replD a.dl e.d _).map (fun e : De => e.W)).Nodup
    unfold replD
    rw [List.map_map]
    refine nodup_swap (fun x : De => x.W) _ (pre := [a.A, a.B]) h.nl fun x hx => ?_
    by_cases c : x.d = e.d
    · have := uniq_d h ok he hx c
      subst this
      rcases hW with z | z
      · left; simp [z]
      · right
        refine ⟨fun q => ?_, fun y hy q => ?_⟩
        · simp at q
          rcases q with q | q | ⟨y, hy, q⟩
          · exact h.live _ mem_A (by rw [← q]; exact z)
          · exact h.live _ mem_B (by rw [← q]; exact z)
          · exact h.live _ (mem_W hy) (by rw [q]; exact z)
        · by_cases c2 : y.d = x.d
          · rw [uniq_d h ok hx hy c2]
          · simp [c2] at q
            exact (h.live _ (mem_W hy) (by rw [q]; exact z)).elim
    · left; simp [c]
  · show (p :: (replD a.dl e.d _).map (fun e : De => e.D)).Nodup
    have e1 : (replD a.dl e.d { e with W := W', ws := ws', own := own' }).map (·.D) = a.dl.map (·.D) := by
      unfold replD
      rw [List.map_map]
      refine List.map_congr_left fun x hx => ?_
      by_cases c : x.d = e.d
      · have := uniq_d h ok he hx c
        subst this
        simp
      · simp [c]
    rw [e1]
    exact h.ni
  · intro m hm
    rcases M_iff.mp hm with z | z | z | z | ⟨x', hx', z⟩ | ⟨x', hx', z⟩
    · exact h.gm m (M_iff.mpr (.inl z))
    · exact h.gm m (M_iff.mpr (.inr (.inl z)))
    · exact h.gm m (M_iff.mpr (.inr (.inr (.inl z))))
    · exact h.gm m (M_iff.mpr (.inr (.inr (.inr (.inl z)))))
    · obtain ⟨x, hx, y⟩ := List.mem_map.mp hx'
      have : x'.D = x.D := by
        rw [← y]
        by_cases c : x.d = e.d
        · rw [if_pos c, uniq_d h ok he hx c]
        · rw [if_neg c]
      rw [← z, this]
      exact h.gm _ (mem_D hx)
    · obtain ⟨x, hx, y⟩ := List.mem_map.mp hx'
      by_cases c : x.d = e.d
      · rw [if_pos c] at y
        rw [← z, ← y]
        rcases hW with q | q
        · show G W' = none
          rw [q]; exact h.gm _ (mem_W he)
        · exact h.gh.free q
      · rw [if_neg c] at y
        rw [← z, ← y]
        exact h.gm _ (mem_W hx)
end
end Hs

set_option maxHeartbeats 4000000
/-! the witness behind kept and undone dealings, falls and raised houses; what stays so -/
namespace Hs
open PySem PySem.Spec PyProof.Rows L2 Sk
section
variable {CW CD : Addr} {G H G' H' : Hp} {p : Addr} {s : St} {a : Wa}
def popD (dl : List De) (d : Int) : List De := dl.filter fun x => decide (x.d ≠ d)
theorem WitAt.popped (h : WitAt CW CD G H p s a) {d : Int} (fr : ∀ b o, b ≠ a.C → H b = some o → H' b = some o) (gh : Same G H') (eC : H' a.C = some (.dK (dropK (dlK a.dl) (Sum.inl d)))) (s' : St) (hs' : s' = { s with op := dropOp s.op d }) :
    WitAt CW CD G H' p s' { a with dl := popD a.dl d } := by
  subst hs'
  obtain ⟨dx0, ob⟩ := h.ob
  have pC : p ≠ a.C := ne_val ob h.dk (fun z => nomatch z)
  have AC : a.A ≠ a.C := ne_val h.sh h.dk (fun z => nomatch z)
  have BC : a.B ≠ a.C := ne_val h.kp h.dk (fun z => nomatch z)
  have sub : (popD a.dl d).Sublist a.dl := List.filter_sublist
  refine ⟨gh, ⟨dx0, fr _ _ pC ob⟩, fr _ _ AC h.sh, h.sl, fun i q e => (by show G q = some (.dK (s.sheet i)); exact h.shs i q e), fr _ _ BC h.kp, h.kps, ?_, ?_, ?_, ?_, ?_, ?_⟩
  · show H' a.C = some (.dK (dlK (popD a.dl d)))
    rw [eC]
    congr 2
    unfold dlK popD dropK
    rw [List.filter_map]
    congr 1
    refine List.filter_congr fun x _ => ?_
    by_cases c : x.d = d
    · simp [c]
    · have : ¬ (Sum.inl x.d : Key) = Sum.inl d := fun z => c (Sum.inl.inj z)
      simp [c]
  · show (popD a.dl d).map _ = dropOp s.op d
    unfold popD dropOp
    rw [← h.dks, List.filter_map]
    rfl
  · intro e he
    have he' := sub.subset he
    obtain ⟨⟨dx1, h1⟩, h2, h3⟩ := h.de e he'
    exact ⟨⟨dx1, fr _ _ (ne_val h1 h.dk (fun z => nomatch z)) h1⟩, fr _ _ (ne_val h2 h.dk (fun z => nomatch z)) h2, h3⟩
  · exact ((((sub.map (·.W)).cons_cons a.B)).cons_cons a.A).nodup h.nl
  · exact ((sub.map (·.D)).cons_cons p).nodup h.ni
  · intro m hm
    rcases M_iff.mp hm with z | z | z | z | ⟨e, he, z⟩ | ⟨e, he, z⟩
    · exact h.gm m (M_iff.mpr (.inl z))
    · exact h.gm m (M_iff.mpr (.inr (.inl z)))
    · exact h.gm m (M_iff.mpr (.inr (.inr (.inl z))))
    · exact h.gm m (M_iff.mpr (.inr (.inr (.inr (.inl z)))))
    · rw [← z]; exact h.gm _ (mem_D (sub.subset he))
    · rw [← z]; exact h.gm _ (mem_W (sub.subset he))
theorem sheetK_snoc (b : Dk) (kept : List (Int × Wr)) (x : Int × Wr) : sheetK b (kept ++ [x]) = putWr (sheetK b kept) x.2 := by
  unfold sheetK
  rw [List.foldl_append]
  rfl
/-- a dealing kept (behind its pop) -/
theorem WitAt.keeps (h : WitAt CW CD G H p s a) {d : Int} {own : Wr} {q kq : Addr} (fr : ∀ b o, b ≠ a.A → b ≠ a.B → H b = some o → H' b = some o) (gg : Same G G') (go : ∀ b, H b ≠ none → G' b = G b) (gh : Same G' H') (eA : H' a.A = some (.lst (a.ss.map V.ref ++ [.ref q]))) (eB : H' a.B = some (.lst (a.ks.map V.ref ++ [.ref kq])))
    (eq : G' q = some (.dK (putWr (s.sheet s.kept.length) own))) (ek : KpAt G' kq (d, own)) (s' : St) (hs' : s' = { s with kept := s.kept ++ [(d, own)] }) :
    WitAt CW CD G' H' p s' { a with ss := a.ss ++ [q], ks := a.ks ++ [kq] } := by
  subst hs'
  obtain ⟨dx0, ob⟩ := h.ob
  have n1 := List.nodup_cons.mp h.nl
  have n2 := List.nodup_cons.mp n1.2
  have pA : p ≠ a.A := ne_val ob h.sh (fun z => nomatch z)
  have pB : p ≠ a.B := ne_val ob h.kp (fun z => nomatch z)
  refine ⟨gh, ⟨dx0, fr _ _ pA pB ob⟩, ?_, ?_, ?_, ?_, ?_, fr _ _ (ne_val h.dk h.sh (fun z => nomatch z)) (ne_val h.dk h.kp (fun z => nomatch z)) h.dk, h.dks, ?_, h.nl, h.ni, fun m hm => (go m (h.live m hm)).trans (h.gm m hm)⟩
  · show H' a.A = some (.lst ((a.ss ++ [q]).map V.ref))
    rw [eA, List.map_append]
    rfl
  · show (a.ss ++ [q]).length = (s.kept ++ [(d, own)]).length + 1
    rw [List.length_append, List.length_append, h.sl]
    rfl
  · intro i r hr
    show G' r = some (.dK (sheetK s.startK ((s.kept ++ [(d, own)]).take i)))
    by_cases c : i < a.ss.length
    · rw [List.getElem?_append_left c] at hr
      rw [gg _ _ (h.shs i r hr)]
      congr 2
      show sheetK s.startK (s.kept.take i) = _
      have := h.sl
      rw [List.take_append_of_le_length (by omega)]
    · have hr' := hr
      rw [List.getElem?_append_right (by omega)] at hr
      have hi : i - a.ss.length = 0 := by
        have := (List.getElem?_eq_some_iff.mp hr).1
        simp at this
        omega
      rw [hi] at hr
      injection hr with hr
      subst hr
      have ei : i = s.kept.length + 1 := by have := h.sl; omega
      rw [eq, ei, List.take_of_length_le (by rw [List.length_append]; simp), sheetK_snoc]
      congr 3
      unfold St.sheet
      rw [List.take_length]
  · show H' a.B = some (.lst ((a.ks ++ [kq]).map V.ref))
    rw [eB, List.map_append]
    rfl
  · exact Paired.app (Paired.imp (fun _ _ z => z.grow gg) h.kps) (.cons ek .nil)
  · intro e he
    obtain ⟨⟨dx1, h1⟩, h2, h3⟩ := h.de e he
    refine ⟨⟨dx1, fr _ _ (ne_val h1 h.sh (fun z => nomatch z)) (ne_val h1 h.kp (fun z => nomatch z)) h1⟩, fr _ _ (fun z => n1.1 ?_) (fun z => n2.1 ?_) h2, Paired.imp (fun _ _ z => z.grow gg) h3⟩
    · rw [← z]; exact List.mem_cons_of_mem _ (List.mem_map_of_mem he)
    · rw [← z]; exact List.mem_map_of_mem he
theorem WitAt.fallen (h : WitAt CW CD G H p s a) {m : Nat} {A' B' C' dx : Addr} (hm : m ≤ s.kept.length) (fr : ∀ b o, b ≠ p → H b = some o → H' b = some o) (gh : Same G H') (hA : H A' = none) (hB : H B' = none) (hC : H C' = none) (AB : A' ≠ B')
    (eo : H' p = some (.ins CW dx [("base", .int s.base), ("sheets", .ref A'), ("keepers", .ref B'), ("doers", .ref C')])) (eA : H' A' = some (.lst ((a.ss.map V.ref).take (m + 1)))) (eB : H' B' = some (.lst ((a.ks.map V.ref).take m))) (eC : H' C' = some (.dK [])) (s' : St) (hs' : s' = { s with kept := s.kept.take m, op := [] }) :
    WitAt CW CD G H' p s' ⟨A', B', C', a.ss.take (m + 1), a.ks.take m, []⟩ := by
  subst hs'
  refine ⟨gh, ⟨dx, eo⟩, by rw [eA, List.map_take], ?_, ?_, by rw [eB, List.map_take], Paired.tak _ h.kps, eC, rfl, fun e he => (List.not_mem_nil he).elim, ?_, ?_, ?_⟩
  · show (a.ss.take (m + 1)).length = (s.kept.take m).length + 1
    rw [List.length_take, List.length_take, h.sl]
    omega
  · intro i r hr
    have hi : i < m + 1 := by
      have := (List.getElem?_eq_some_iff.mp hr).1
      rw [List.length_take] at this
      omega
    rw [List.getElem?_take_of_lt hi] at hr
    show G r = some (.dK (sheetK s.startK ((s.kept.take m).take i)))
    rw [h.shs i r hr, List.take_take, Nat.min_eq_left (by omega)]
    rfl
  · show [A', B'].Nodup
    simp [AB]
  · show [p].Nodup
    simp
  · intro b hb
    rcases M_iff.mp hb with z | z | z | z | ⟨e, he, z⟩ | ⟨e, he, z⟩
    · rw [z]; exact h.gm _ mem_p
    · rw [z]; exact h.gh.free hA
    · rw [z]; exact h.gh.free hB
    · rw [z]; exact h.gh.free hC
    · exact (List.not_mem_nil he).elim
    · exact (List.not_mem_nil he).elim
theorem WitAt.raisen (h : WitAt CW CD G H p s a) (hk : s.kept = []) (ho : s.op = []) {n : Int} {rows : List (Str × Int)} {A' q dx : Addr} (fr : ∀ b o, b ≠ p → H b = some o → H' b = some o) (gg : Same G G') (go : ∀ b, H b ≠ none → G' b = G b) (gh : Same G' H') (hA : H A' = none) (gA : ∀ {o : HO}, G' A' = some o → False)
    (eo : H' p = some (.ins CW dx [("base", .int n), ("sheets", .ref A'), ("keepers", .ref a.B), ("doers", .ref a.C)])) (eA : H' A' = some (.lst [.ref q])) (eq : G' q = some (.dK (rowsK rows))) (s' : St) (hs' : s' = { s with base := n, start := rows }) :
    WitAt CW CD G' H' p s' { a with A := A', ss := [q] } := by
  subst hs'
  obtain ⟨dx0, ob⟩ := h.ob
  have hdl : a.dl = [] := by
    have := h.dks
    rw [ho] at this
    exact List.map_eq_nil_iff.mp this
  refine ⟨gh, ⟨dx, eo⟩, eA, ?_, ?_, fr _ _ (ne_val h.kp ob (fun z => nomatch z)) h.kp, Paired.imp (fun _ _ z => z.grow gg) h.kps, fr _ _ (ne_val h.dk ob (fun z => nomatch z)) h.dk, h.dks, ?_, ?_, h.ni, ?_⟩
  · show 1 = s.kept.length + 1
    rw [hk]; rfl
  · intro i r hr
    show G' r = some (.dK (sheetK (rowsK rows) (s.kept.take i)))
    have hi : i = 0 := by
      have := (List.getElem?_eq_some_iff.mp hr).1
      simp at this
      exact this
    subst hi
    injection hr with hr
    subst hr
    rw [eq]
    rfl
  · intro e he
    exact (List.not_mem_nil (hdl ▸ he)).elim
  · show (A' :: a.B :: a.dl.map (·.W)).Nodup
    rw [hdl]
    have : A' ≠ a.B := fun z => h.live _ mem_B (by rw [← z]; exact hA)
    simp [this]
  · intro b hb
    rcases M_iff.mp hb with z | z | z | z | ⟨e, he, z⟩ | ⟨e, he, z⟩
    · rw [z, go _ (h.live _ mem_p)]; exact h.gm _ mem_p
    · rw [z]
      cases e : G' A' with
      | none => rfl
      | some o => exact (gA e).elim
    · rw [z, go _ (h.live _ mem_B)]; exact h.gm _ mem_B
    · rw [z, go _ (h.live _ mem_C)]; exact h.gm _ mem_C
    · exact (List.not_mem_nil (hdl ▸ he)).elim
    · exact (List.not_mem_nil (hdl ▸ he)).elim
end
/-! ### what stays so -/
theorem SOk.mono {ks : List Str} {n m : Nat} {s : St} (h : SOk ks n s) (hn : n ≤ m) : SOk ks m s :=
  ⟨h.st, h.sn, h.kk, h.ok, h.lo, h.nd, Nat.le_trans h.kn hn, Nat.le_trans h.dn hn, fun x hx => Nat.le_trans (h.wn x hx) hn, fun x hx => Nat.le_trans (h.wk x hx) hn⟩
theorem SOk.new {ks : List Str} : SOk ks 0 St.new :=
  ⟨fun _ h => (List.not_mem_nil h).elim, List.nodup_nil, fun _ h => (List.not_mem_nil h).elim, fun _ h => (List.not_mem_nil h).elim, fun _ h => (List.not_mem_nil h).elim, List.nodup_nil, Nat.le_refl _, Nat.le_refl _, fun _ h => (List.not_mem_nil h).elim, fun _ h => (List.not_mem_nil h).elim⟩
theorem setOp_fst (op : List (Int × Int × Wr)) (d : Int) (f : Wr → Wr) : (setOp op d f).map (·.1) = op.map (·.1) := by
  unfold setOp
  rw [List.map_map]
  refine List.map_congr_left fun x _ => ?_
  show (if x.1 = d then (x.1, x.2.1, f x.2.2) else x).1 = x.1
  split <;> rfl
theorem setOp_mem {op : List (Int × Int × Wr)} {d : Int} {f : Wr → Wr} {y : Int × Int × Wr} (h : y ∈ setOp op d f) : ∃ x ∈ op, y.1 = x.1 ∧ y.2.1 = x.2.1 ∧ (y.2.2 = x.2.2 ∨ y.2.2 = f x.2.2) := by
  obtain ⟨x, hx, e⟩ := List.mem_map.mp h
  refine ⟨x, hx, ?_⟩
  split at e
  · subst e; exact ⟨rfl, rfl, .inr rfl⟩
  · subst e; exact ⟨rfl, rfl, .inl rfl⟩
theorem SOk.set {ks : List Str} {n : Nat} {s : St} (h : SOk ks n s) (d : Int) (f : Wr → Wr) (h1 : ∀ wr : Wr, (∀ y ∈ wr, y.1 ∈ ks) → ∀ y ∈ f wr, y.1 ∈ ks) (h2 : ∀ wr : Wr, (f wr).length ≤ wr.length + 1) : SOk ks (n + 1) { s with op := setOp s.op d f } := by
  refine ⟨h.st, h.sn, h.kk, fun y hy => ?_, fun y hy => ?_, ?_, Nat.le_succ_of_le h.kn, ?_, fun y hy => ?_, fun x hx => Nat.le_succ_of_le (h.wk x hx)⟩
  · obtain ⟨x, hx, e1, e2, e3⟩ := setOp_mem hy
    rcases e3 with e3 | e3
    · rw [e3]; exact h.ok x hx
    · rw [e3]; exact h1 _ (h.ok x hx)
  · obtain ⟨x, hx, e1, e2, e3⟩ := setOp_mem hy
    rw [e2]
    exact h.lo x hx
  · show ((setOp s.op d f).map (·.1)).Nodup
    rw [setOp_fst]; exact h.nd
  · show (setOp s.op d f).length ≤ n + 1
    unfold setOp
    rw [List.length_map]
    exact Nat.le_succ_of_le h.dn
  · obtain ⟨x, hx, e1, e2, e3⟩ := setOp_mem hy
    have := h.wn x hx
    rcases e3 with e3 | e3
    · rw [e3]; omega
    · rw [e3]; have := h2 x.2.2; omega
theorem SOk.pop {ks : List Str} {n : Nat} {s : St} (h : SOk ks n s) (d : Int) : SOk ks n { s with op := dropOp s.op d } := by
  have sub : (dropOp s.op d).Sublist s.op := List.filter_sublist
  exact ⟨h.st, h.sn, h.kk, fun y hy => h.ok y (sub.subset hy), fun y hy => h.lo y (sub.subset hy), (sub.map (·.1)).nodup h.nd, h.kn, Nat.le_trans sub.length_le h.dn, fun y hy => h.wn y (sub.subset hy), h.wk⟩
theorem SOk.does {ks : List Str} {n a : Nat} {s : St} {e : Ev} (h : SOk ks n s) (eo : EvOk ks e) (c : s.can a e) (h0 : a = 0 → s = St.new) : SOk ks (n + 1) (s.does e) := by
  cases e with
  | begin d =>
    obtain ⟨c1, c2, c3⟩ := c
    refine ⟨h.st, h.sn, h.kk, fun y hy => ?_, fun y hy => ?_, ?_, Nat.le_succ_of_le h.kn, ?_, fun y hy => ?_, fun x hx => Nat.le_succ_of_le (h.wk x hx)⟩
    · rcases List.mem_append.mp hy with z | z
      · exact h.ok y z
      · rw [List.mem_singleton.mp z]; exact fun _ q => (List.not_mem_nil q).elim
    · rcases List.mem_append.mp hy with z | z
      · exact h.lo y z
      · rw [List.mem_singleton.mp z]
        refine ⟨?_, Int.le_refl _⟩
        show s.base ≤ s.base + _
        omega
    · show ((s.op ++ [(d, s.last, [])]).map (fun q : Int × Int × Wr => q.1)).Nodup
      rw [List.map_append]
      refine List.nodup_append.mpr ⟨h.nd, List.pairwise_singleton _ _, fun b hb c hc => ?_⟩
      rw [List.mem_singleton.mp hc]
      intro z
      obtain ⟨x, hx, ez⟩ := List.mem_map.mp hb
      have fx := find_of_mem h.nd hx
      unfold St.find at c2
      rw [show d = x.1 from by rw [ez, z], fx] at c2
      cases c2
    · show (s.op ++ [_]).length ≤ n + 1
      rw [List.length_append]
      have := h.dn
      simp; omega
    · rcases List.mem_append.mp hy with z | z
      · exact Nat.le_succ_of_le (h.wn y z)
      · rw [List.mem_singleton.mp z]; exact Nat.zero_le _
  | read d k w => exact h.mono (Nat.le_succ _)
  | scan d lo hi rows => exact h.mono (Nat.le_succ _)
  | mark d m => exact h.mono (Nat.le_succ _)
  | put d k w =>
    refine h.set d _ (fun wr hw y hy => ?_) fun wr => by rw [List.length_append]; simp
    rcases List.mem_append.mp hy with z | z
    · exact hw y z
    · rw [List.mem_singleton.mp z]; exact eo
  | drop d k =>
    refine h.set d _ (fun wr hw y hy => ?_) fun wr => by rw [List.length_append]; simp
    rcases List.mem_append.mp hy with z | z
    · exact hw y z
    · rw [List.mem_singleton.mp z]; exact eo
  | back d m => exact h.set d _ (fun wr hw y hy => hw y (List.mem_of_mem_take hy)) fun wr => by rw [List.length_take]; omega
  | keep d m =>
    obtain ⟨st, own, f, _⟩ := c
    have hp := (h.pop d).mono (Nat.le_succ n)
    have mo := find_mem f
    have eo : s.own d = own := by unfold St.own; rw [f]
    refine ⟨hp.st, hp.sn, fun x hx => ?_, hp.ok, fun y hy => ?_, hp.nd, ?_, hp.dn, hp.wn, fun x hx => ?_⟩
    · rcases List.mem_append.mp hx with z | z
      · exact h.kk x z
      · rw [List.mem_singleton.mp z, eo]; exact h.ok _ mo
    · have := hp.lo y hy
      have e2 : St.last (s.does (.keep d m)) = s.last + 1 := by
        show s.base + ((s.kept ++ [_]).length : Int) = s.base + (s.kept.length : Int) + 1
        rw [List.length_append]
        simp
        omega
      rw [e2]
      refine ⟨this.1, ?_⟩
      have q : y.2.1 ≤ s.last := this.2
      omega
    · show (s.kept ++ [_]).length ≤ n + 1
      rw [List.length_append]
      have := h.kn
      simp; omega
    · rcases List.mem_append.mp hx with z | z
      · exact Nat.le_succ_of_le (h.wk x z)
      · rw [List.mem_singleton.mp z, eo]; exact Nat.le_succ_of_le (h.wn _ mo)
  | undo d => exact (h.pop d).mono (Nat.le_succ _)
  | fall m =>
    refine ⟨h.st, h.sn, fun x hx => h.kk x (List.mem_of_mem_take hx), fun _ q => (List.not_mem_nil q).elim, fun _ q => (List.not_mem_nil q).elim, List.nodup_nil, ?_, Nat.zero_le _, fun _ q => (List.not_mem_nil q).elim, fun x hx => Nat.le_succ_of_le (h.wk x (List.mem_of_mem_take hx))⟩
    show (s.kept.take _).length ≤ n + 1
    rw [List.length_take]
    have := h.kn
    omega
  | raised m rows =>
    have e := h0 c
    subst e
    exact ⟨eo.2.1, eo.2.2, fun _ q => (List.not_mem_nil q).elim, fun _ q => (List.not_mem_nil q).elim, fun _ q => (List.not_mem_nil q).elim, List.nodup_nil, Nat.zero_le _, Nat.zero_le _, fun _ q => (List.not_mem_nil q).elim, fun _ q => (List.not_mem_nil q).elim⟩
end Hs

set_option maxHeartbeats 4000000
/-! how a heap bears the law's own state of a history -/
namespace Hs
open PySem PySem.Spec PyProof.Rows L2 Sk
structure Ke where
  d : Int
  T : Addr
  W : Addr
  ws : List V
  own : Wr
structure Oe where
  d : Int
  T : Addr
  W : Addr
  ws : List V
  st : Int
  own : Wr
structure Sa where
  A : Addr
  B : Addr
  C : Addr
  kl : List Ke
  ol : List Oe
def Sa.M (a : Sa) (p : Addr) : List Addr := p :: a.B :: a.C :: (a.kl.map (·.W) ++ a.ol.map (·.W))
def olK (ol : List Oe) : Dk := ol.map fun e => (Sum.inl e.d, V.ref e.T)
abbrev kBase : Key := Sum.inr "base"
abbrev kStart : Key := Sum.inr "start"
abbrev kKept : Key := Sum.inr "kept"
abbrev kOpen : Key := Sum.inr "open"
abbrev stK (s : St) (a : Sa) : Dk := [(kBase, .int s.base), (kStart, .ref a.A), (kKept, .ref a.B), (kOpen, .ref a.C)]
structure StAt (G H : Hp) (p : Addr) (s : St) (a : Sa) : Prop where
  gh : Same G H
  ob : H p = some (.dK (stK s a))
  sa : G a.A = some (.dK s.startK)
  kp : H a.B = some (.lst (a.kl.map fun e => V.ref e.T))
  ks : a.kl.map (fun e => (e.d, e.own)) = s.kept
  ke : ∀ e ∈ a.kl, G e.T = some (.tup [.int e.d, .ref e.W]) ∧ H e.W = some (.lst e.ws) ∧ Paired (WrAt G) e.ws e.own
  op : H a.C = some (.dK (olK a.ol))
  os : a.ol.map (fun e => (e.d, e.st, e.own)) = s.op
  oe : ∀ e ∈ a.ol, G e.T = some (.tup [.int e.st, .ref e.W]) ∧ H e.W = some (.lst e.ws) ∧ Paired (WrAt G) e.ws e.own
  nl : (a.B :: (a.kl.map (·.W) ++ a.ol.map (·.W))).Nodup
  pC : p ≠ a.C
  gm : ∀ m ∈ a.M p, G m = none
theorem sk_base (s : St) (a : Sa) : valV (stK s a) kBase = some (.int s.base) := valV_pos rfl
theorem sk_start (s : St) (a : Sa) : valV (stK s a) kStart = some (.ref a.A) := (valV_neg (by show ¬ kBase = kStart; decide +kernel)).trans (valV_pos rfl)
theorem sk_kept (s : St) (a : Sa) : valV (stK s a) kKept = some (.ref a.B) := (valV_neg (by show ¬ kBase = kKept; decide +kernel)).trans ((valV_neg (by show ¬ kStart = kKept; decide +kernel)).trans (valV_pos rfl))
theorem sk_open (s : St) (a : Sa) : valV (stK s a) kOpen = some (.ref a.C) := (valV_neg (by show ¬ kBase = kOpen; decide +kernel)).trans ((valV_neg (by show ¬ kStart = kOpen; decide +kernel)).trans ((valV_neg (by show ¬ kKept = kOpen; decide +kernel)).trans (valV_pos rfl)))
section
variable {G H G' H' : Hp} {p : Addr} {s : St} {a : Sa}
theorem SM_iff {b : Addr} : b ∈ a.M p ↔ b = p ∨ b = a.B ∨ b = a.C ∨ (∃ e ∈ a.kl, e.W = b) ∨ ∃ e ∈ a.ol, e.W = b := by
  simp only [Sa.M, List.mem_cons, List.mem_append, List.mem_map]
theorem smem_p : p ∈ a.M p := by simp [Sa.M]
theorem smem_B : a.B ∈ a.M p := by simp [Sa.M]
theorem smem_C : a.C ∈ a.M p := by simp [Sa.M]
theorem smem_K {e : Ke} (he : e ∈ a.kl) : e.W ∈ a.M p := SM_iff.mpr (.inr (.inr (.inr (.inl ⟨e, he, rfl⟩))))
theorem smem_O {e : Oe} (he : e ∈ a.ol) : e.W ∈ a.M p := SM_iff.mpr (.inr (.inr (.inr (.inr ⟨e, he, rfl⟩))))
theorem StAt.live (h : StAt G H p s a) : ∀ m ∈ a.M p, H m ≠ none := by
  intro m hm
  rcases SM_iff.mp hm with e | e | e | ⟨x, hx, e⟩ | ⟨x, hx, e⟩
  · rw [e, h.ob]; simp
  · rw [e, h.kp]; simp
  · rw [e, h.op]; simp
  · obtain ⟨_, h1, _⟩ := h.ke x hx
    rw [← e, h1]; simp
  · obtain ⟨_, h1, _⟩ := h.oe x hx
    rw [← e, h1]; simp
theorem StAt.move {M : List Addr} (h : StAt G H p s a) (g : Step M G H G' H') (hM : ∀ m ∈ a.M p, m ∉ M) : StAt G' H' p s a := by
  refine ⟨g.gh, g.hh _ _ (hM _ smem_p) h.ob, g.gg _ _ h.sa, g.hh _ _ (hM _ smem_B) h.kp, h.ks, fun e he => ?_, g.hh _ _ (hM _ smem_C) h.op, h.os, fun e he => ?_, h.nl, h.pC, fun m hm => ?_⟩
  · obtain ⟨h1, h2, h3⟩ := h.ke e he
    exact ⟨g.gg _ _ h1, g.hh _ _ (hM _ (smem_K he)) h2, Paired.imp (fun _ _ r => r.grow g.gg) h3⟩
  · obtain ⟨h1, h2, h3⟩ := h.oe e he
    exact ⟨g.gg _ _ h1, g.hh _ _ (hM _ (smem_O he)) h2, Paired.imp (fun _ _ r => r.grow g.gg) h3⟩
  · rw [g.old m (h.live m hm), h.gm m hm]
theorem StAt.grow (h : StAt G H p s a) (g : Grow G H G' H') : StAt G' H' p s a := h.move g fun _ _ => List.not_mem_nil
theorem find_valO (d : Int) : ∀ ol : List Oe, valV (olK ol) (Sum.inl d) = (ol.find? fun e => decide (e.d = d)).map fun e => V.ref e.T
  | [] => rfl
  | e :: r => by
    by_cases c : e.d = d
    · have e1 : valV (olK (e :: r)) (Sum.inl d) = some (V.ref e.T) := valV_pos (by show Sum.inl e.d = _; rw [c])
      rw [e1, List.find?_cons_of_pos (by simpa using c)]
      rfl
    · have e1 : valV (olK (e :: r)) (Sum.inl d) = valV (olK r) (Sum.inl d) := valV_neg (fun z => c (Sum.inl.inj z))
      rw [e1, List.find?_cons_of_neg (by simpa using c)]
      exact find_valO d r
theorem StAt.find (h : StAt G H p s a) {d : Int} {x : Int × Wr} (e : s.find d = some x) : ∃ y, y ∈ a.ol ∧ y.d = d ∧ y.st = x.1 ∧ y.own = x.2 ∧ valV (olK a.ol) (Sum.inl d) = some (.ref y.T) := by
  unfold St.find at e
  rw [← h.os, List.find?_map] at e
  rw [find_valO]
  cases q : a.ol.find? ((fun q : Int × Int × Wr => decide (q.1 = d)) ∘ fun e : Oe => (e.d, e.st, e.own)) with
  | none => rw [q] at e; cases e
  | some y =>
    rw [q] at e
    have ex := List.find?_some q
    have q' : (a.ol.find? fun e => decide (e.d = d)) = some y := q
    have e' : (y.st, y.own) = x := by simpa using e
    refine ⟨y, List.mem_of_find?_eq_some q, by simpa using ex, by rw [← e'], by rw [← e'], ?_⟩
    rw [q']
    rfl
theorem StAt.nofind (h : StAt G H p s a) {d : Int} (e : s.find d = none) : valV (olK a.ol) (Sum.inl d) = none := by
  unfold St.find at e
  rw [← h.os, List.find?_map] at e
  rw [find_valO]
  cases q : a.ol.find? ((fun q : Int × Int × Wr => decide (q.1 = d)) ∘ fun e : Oe => (e.d, e.st, e.own)) with
  | none =>
    have q' : (a.ol.find? fun e => decide (e.d = d)) = none := q
    rw [q']
    rfl
  | some x => rw [q] at e; cases e
theorem StAt.memOp (h : StAt G H p s a) {e : Oe} (he : e ∈ a.ol) : (e.d, e.st, e.own) ∈ s.op := by rw [← h.os]; exact List.mem_map_of_mem he
theorem StAt.memKp (h : StAt G H p s a) {e : Ke} (he : e ∈ a.kl) : (e.d, e.own) ∈ s.kept := by rw [← h.ks]; exact List.mem_map_of_mem he
/-- lists of writes, as they stand in a list of pairs -/
def WsAt (G H : Hp) (v : V) (wr : Wr) : Prop := ∃ t d W ws, v = .ref t ∧ H t = some (.tup [.int d, .ref W]) ∧ H W = some (.lst ws) ∧ Paired (WrAt G) ws wr
theorem WsAt.same {v : V} {wr : Wr} (h : WsAt G H v wr) (s : Same H H') : WsAt G H' v wr := by
  obtain ⟨t, d, W, ws, e, h1, h2, h3⟩ := h
  exact ⟨t, d, W, ws, e, s _ _ h1, s _ _ h2, h3⟩
theorem pair_map {α β γ : Type} {F : α → β → Prop} {f : γ → α} {g : γ → β} : ∀ {xs : List γ}, (∀ x ∈ xs, F (f x) (g x)) → Paired F (xs.map f) (xs.map g)
  | [], _ => .nil
  | x :: r, h => .cons (h x List.mem_cons_self) (pair_map fun y hy => h y (List.mem_cons_of_mem _ hy))
theorem StAt.wss (h : StAt G H p s a) : Paired (WsAt G H) (a.kl.map fun e => V.ref e.T) (s.kept.map (·.2)) := by
  rw [← h.ks, List.map_map]
  exact pair_map fun e he => ⟨e.T, e.d, e.W, e.ws, rfl, h.gh _ _ (h.ke e he).1, (h.ke e he).2.1, (h.ke e he).2.2⟩
theorem sees_fold (s : St) (st : Int) (own : Wr) (k : Str) : seesL s st own k = ((s.kept.take (s.ofs st)).map (·.2) ++ [own]).foldl (fun a wr => seesW a wr k) (start? s.start k) := by
  unfold seesL
  rw [List.foldl_append, List.foldl_map]
  rfl
theorem seesW_some {k : Str} : ∀ {wr : Wr} {w : Option Int}, seesW w wr k ≠ none → w ≠ none ∨ hasK wr k
  | [], w, h => .inl h
  | x :: r, w, h => by
    rcases seesW_some (wr := r) (w := if x.1 = k then x.2 else w) h with z | z
    · by_cases c : x.1 = k
      · exact .inr (List.mem_map.mpr ⟨x, List.mem_cons_self, c⟩)
      · rw [if_neg c] at z; exact .inl z
    · obtain ⟨y, hy, e⟩ := List.mem_map.mp z
      exact .inr (List.mem_map.mpr ⟨y, List.mem_cons_of_mem _ hy, e⟩)
theorem seesF_some {k : Str} : ∀ {wrs : List Wr} {w : Option Int}, wrs.foldl (fun a wr => seesW a wr k) w ≠ none → w ≠ none ∨ ∃ wr ∈ wrs, hasK wr k
  | [], w, h => .inl h
  | x :: r, w, h => by
    rcases seesF_some (wrs := r) (w := seesW w x k) h with z | ⟨wr, h1, h2⟩
    · rcases seesW_some z with z | z
      · exact .inl z
      · exact .inr ⟨x, List.mem_cons_self, z⟩
    · exact .inr ⟨wr, List.mem_cons_of_mem _ h1, h2⟩
theorem sees_has {st : Int} {own : Wr} {k : Str} (h : seesL s st own k ≠ none) : k ∈ s.start.map (·.1) ∨ (∃ x ∈ s.kept, hasK x.2 k) ∨ hasK own k := by
  rw [sees_fold] at h
  rcases seesF_some h with z | ⟨wr, h1, h2⟩
  · left
    cases e : start? s.start k with
    | none => exact (z e).elim
    | some i =>
      unfold start? at e
      cases q : s.start.find? fun x => decide (x.1 = k) with
      | none => rw [q] at e; cases e
      | some y =>
        have := List.find?_some q
        exact List.mem_map.mpr ⟨y, List.mem_of_find?_eq_some q, by simpa using this⟩
  · right
    rcases List.mem_append.mp h1 with z | z
    · obtain ⟨x, hx, rfl⟩ := List.mem_map.mp z
      exact .inl ⟨x, List.mem_of_mem_take hx, h2⟩
    · rw [List.mem_singleton.mp z] at h2
      exact .inr h2
end
end Hs

set_option maxHeartbeats 4000000
/-! the law's own state behind each kind of event -/
namespace Hs
open PySem PySem.Spec PyProof.Rows L2 Sk
section
variable {G H G' H' : Hp} {p : Addr} {s : St} {a : Sa}
theorem olK_app (xs ys : List Oe) : olK (xs ++ ys) = olK xs ++ olK ys := List.map_append
/-- what stays when only C, p and own new things are touched -/
theorem StAt.keT (h : StAt G H p s a) (gg : Same G G') (fr : ∀ e ∈ a.kl, H' e.W = H e.W) : ∀ e ∈ a.kl, G' e.T = some (.tup [.int e.d, .ref e.W]) ∧ H' e.W = some (.lst e.ws) ∧ Paired (WrAt G') e.ws e.own := fun e he => by
  obtain ⟨h1, h2, h3⟩ := h.ke e he
  exact ⟨gg _ _ h1, (fr e he).trans h2, Paired.imp (fun _ _ r => r.grow gg) h3⟩
theorem nl_parts (h : StAt G H p s a) : (a.kl.map (·.W)).Nodup ∧ (a.ol.map (·.W)).Nodup ∧ (∀ x ∈ a.kl, ∀ y ∈ a.ol, x.W ≠ y.W) ∧ (∀ x ∈ a.kl, a.B ≠ x.W) ∧ ∀ y ∈ a.ol, a.B ≠ y.W := by
  have h1 := List.nodup_cons.mp h.nl
  have h2 := List.nodup_append.mp h1.2
  exact ⟨h2.1, h2.2.1, fun x hx y hy => h2.2.2 _ (List.mem_map_of_mem hx) _ (List.mem_map_of_mem hy), fun x hx z => h1.1 (by rw [z]; exact List.mem_append_left _ (List.mem_map_of_mem hx)), fun x hx z => h1.1 (by rw [z]; exact List.mem_append_right _ (List.mem_map_of_mem hx))⟩
theorem StAt.begun (h : StAt G H p s a) {d : Int} {T W : Addr} (fr : ∀ b o, b ≠ a.C → H b = some o → H' b = some o) (gg : Same G G') (go : ∀ b, H b ≠ none → G' b = G b) (gh : Same G' H') (hW : H W = none) (gW : G' W = none) (eT : G' T = some (.tup [.int s.last, .ref W])) (eW : H' W = some (.lst [])) (eC : H' a.C = some (.dK (putK (olK a.ol) (Sum.inl d) (.ref T)))) (nf : s.find d = none) :
    StAt G' H' p (s.does (.begin d)) { a with ol := a.ol ++ [⟨d, T, W, [], s.last, []⟩] } := by
  have BC : a.B ≠ a.C := ne_val h.kp h.op (fun z => nomatch z)
  refine ⟨gh, fr _ _ h.pC h.ob, gg _ _ h.sa, fr _ _ BC h.kp, h.ks, fun e he => ?_, ?_, ?_, ?_, ?_, h.pC, ?_⟩
  · obtain ⟨h1, h2, h3⟩ := h.ke e he
    exact ⟨gg _ _ h1, fr _ _ (ne_val h2 h.op (fun z => nomatch z)) h2, Paired.imp (fun _ _ r => r.grow gg) h3⟩
  · show H' a.C = some (.dK (olK (a.ol ++ [_])))
    rw [eC, putK_new _ (h.nofind nf), olK_app]
    rfl
  · show (a.ol ++ [_]).map _ = s.op ++ [_]
    rw [List.map_append, h.os]
    rfl
  · intro e he
    rcases List.mem_append.mp he with he | he
    · obtain ⟨h1, h2, h3⟩ := h.oe e he
      exact ⟨gg _ _ h1, fr _ _ (ne_val h2 h.op (fun z => nomatch z)) h2, Paired.imp (fun _ _ r => r.grow gg) h3⟩
    · rw [List.mem_singleton.mp he]
      exact ⟨eT, eW, .nil⟩
  · show (a.B :: (a.kl.map (·.W) ++ (a.ol ++ [_]).map (fun e : Oe => e.W))).Nodup
    rw [List.map_append, ← List.append_assoc]
    have e1 : a.B :: (a.kl.map (·.W) ++ a.ol.map (fun e : Oe => e.W) ++ [W]) = (a.B :: (a.kl.map (·.W) ++ a.ol.map (fun e : Oe => e.W))) ++ [W] := rfl
    show (a.B :: (a.kl.map (·.W) ++ a.ol.map (fun e : Oe => e.W) ++ [W])).Nodup
    rw [e1]
    refine List.nodup_append.mpr ⟨h.nl, List.pairwise_singleton _ _, fun b hb c hc => ?_⟩
    rw [List.mem_singleton.mp hc]
    intro z
    subst z
    refine h.live _ (SM_iff.mpr ?_) hW
    rcases List.mem_cons.mp hb with z | hb
    · exact .inr (.inl z)
    · rcases List.mem_append.mp hb with hb | hb
      · obtain ⟨e, he, z⟩ := List.mem_map.mp hb
        exact .inr (.inr (.inr (.inl ⟨e, he, z⟩)))
      · obtain ⟨e, he, z⟩ := List.mem_map.mp hb
        exact .inr (.inr (.inr (.inr ⟨e, he, z⟩)))
  · intro m hm
    have old : m ∈ a.M p → G' m = none := fun z => by rw [go m (h.live m z), h.gm m z]
    rcases SM_iff.mp hm with z | z | z | ⟨e, he, z⟩ | ⟨e, he, z⟩
    · exact old (SM_iff.mpr (.inl z))
    · exact old (SM_iff.mpr (.inr (.inl z)))
    · exact old (SM_iff.mpr (.inr (.inr (.inl z))))
    · exact old (SM_iff.mpr (.inr (.inr (.inr (.inl ⟨e, he, z⟩)))))
    · rcases List.mem_append.mp he with he | he
      · exact old (SM_iff.mpr (.inr (.inr (.inr (.inr ⟨e, he, z⟩)))))
      · rw [List.mem_singleton.mp he] at z
        rw [← z]
        exact gW
def replO (ol : List Oe) (d : Int) (e' : Oe) : List Oe := ol.map fun x => if x.d = d then e' else x
theorem uniq_o {ks : List Str} {n : Nat} (h : StAt G H p s a) (ok : SOk ks n s) {e x : Oe} (he : e ∈ a.ol) (hx : x ∈ a.ol) (c : x.d = e.d) : x = e := by
  have nd : (a.ol.map (·.d)).Nodup := by
    have := ok.nd
    rw [← h.os, List.map_map] at this
    exact this
  revert nd he hx
  clear h ok
  generalize a.ol = dl
  intro he hx nd
  induction dl with
  | nil => exact (List.not_mem_nil he).elim
  | cons y r ih =>
    rcases List.mem_cons.mp he with h1 | h1
    · rcases List.mem_cons.mp hx with h2 | h2
      · rw [h1, h2]
      · exact ((List.nodup_cons.mp nd).1 (by show y.d ∈ r.map (·.d); rw [← h1, ← c]; exact List.mem_map_of_mem h2)).elim
    · rcases List.mem_cons.mp hx with h2 | h2
      · exact ((List.nodup_cons.mp nd).1 (by show y.d ∈ r.map (·.d); rw [← h2, c]; exact List.mem_map_of_mem h1)).elim
      · exact ih h1 h2 (List.nodup_cons.mp nd).2
/-- a dealing's own writes changed: T', W' its new pair and list, or as they were -/
theorem StAt.repl {ks : List Str} {n : Nat} (h : StAt G H p s a) (ok : SOk ks n s) {e : Oe} (he : e ∈ a.ol) {T' W' : Addr} {ws' : List V} {own' : Wr} (f : Wr → Wr) (ho : own' = f e.own) (hW : W' = e.W ∨ H W' = none ∧ G' W' = none)
    (fr : ∀ b o, b ≠ a.C → b ≠ e.W → H b = some o → H' b = some o) (gg : Same G G') (go : ∀ b, H b ≠ none → G' b = G b) (gh : Same G' H') (eC : H' a.C = some (.dK (olK (replO a.ol e.d { e with T := T', W := W', ws := ws', own := own' })))) (eT : G' T' = some (.tup [.int e.st, .ref W'])) (eW : H' W' = some (.lst ws')) (eP : Paired (WrAt G') ws' own') (s' : St) (hs' : s' = { s with op := setOp s.op e.d f }) :
    StAt G' H' p s' { a with ol := replO a.ol e.d { e with T := T', W := W', ws := ws', own := own' } } := by
  subst hs'
  obtain ⟨n1, n2, n3, n4, n5⟩ := nl_parts h
  obtain ⟨oT, oW, oP⟩ := h.oe e he
  have pW : p ≠ e.W := ne_val h.ob oW (fun z => nomatch z)
  have BC : a.B ≠ a.C := ne_val h.kp h.op (fun z => nomatch z)
  refine ⟨gh, fr _ _ h.pC pW h.ob, gg _ _ h.sa, fr _ _ BC (n5 e he) h.kp, h.ks, fun x hx => ?_, eC, ?_, ?_, ?_, h.pC, ?_⟩
  · obtain ⟨h1, h2, h3⟩ := h.ke x hx
    exact ⟨gg _ _ h1, fr _ _ (ne_val h2 h.op (fun z => nomatch z)) (n3 x hx e he) h2, Paired.imp (fun _ _ r => r.grow gg) h3⟩
  · show (replO a.ol e.d _).map _ = setOp s.op e.d f
    unfold replO setOp
    rw [← h.os, List.map_map, List.map_map]
    refine List.map_congr_left fun x hx => ?_
    by_cases c : x.d = e.d
    · have := uniq_o h ok he hx c
      subst this
      simp [ho]
    · simp [c]
  · intro x' hx'
    obtain ⟨x, hx, z⟩ := List.mem_map.mp hx'
    by_cases c : x.d = e.d
    · rw [if_pos c] at z
      subst z
      exact ⟨eT, eW, eP⟩
    · rw [if_neg c] at z
      subst z
      obtain ⟨h1, h2, h3⟩ := h.oe x hx
      have ne : x ≠ e := fun z => c (by rw [z])
      have xW : x.W ≠ e.W := fun z => ne (inj_of n2 he hx z)
      exact ⟨gg _ _ h1, fr _ _ (ne_val h2 h.op (fun z => nomatch z)) xW h2, Paired.imp (fun _ _ r => r.grow gg) h3⟩
  · show (a.B :: (a.kl.map (·.W) ++ (replO a.ol e.d _).map (fun e : Oe => e.W))).Nodup
    unfold replO
    rw [List.map_map]
    refine nodup_swap (xs := a.ol) (fun x : Oe => x.W) _ (pre := a.B :: a.kl.map fun k : Ke => k.W) (by exact h.nl) fun x hx => ?_
    by_cases c : x.d = e.d
    · have := uniq_o h ok he hx c
      subst this
      rcases hW with z | ⟨z, _⟩
      · left; simp [z]
      · right
        refine ⟨fun q => ?_, fun y hy q => ?_⟩
        · simp at q
          rcases q with q | ⟨y, hy, q⟩ | ⟨y, hy, q⟩
          · exact h.live _ smem_B (by rw [← q]; exact z)
          · exact h.live _ (smem_K hy) (by rw [q]; exact z)
          · exact h.live _ (smem_O hy) (by rw [q]; exact z)
        · by_cases c2 : y.d = x.d
          · rw [uniq_o h ok hx hy c2]
          · simp [c2] at q
            exact (h.live _ (smem_O hy) (by rw [q]; exact z)).elim
    · left; simp [c]
  · intro m hm
    have old : m ∈ a.M p → G' m = none := fun z => by rw [go m (h.live m z), h.gm m z]
    rcases SM_iff.mp hm with z | z | z | ⟨x, hx, z⟩ | ⟨x', hx', z⟩
    · exact old (SM_iff.mpr (.inl z))
    · exact old (SM_iff.mpr (.inr (.inl z)))
    · exact old (SM_iff.mpr (.inr (.inr (.inl z))))
    · exact old (SM_iff.mpr (.inr (.inr (.inr (.inl ⟨x, hx, z⟩)))))
    · obtain ⟨x, hx, y⟩ := List.mem_map.mp hx'
      by_cases c : x.d = e.d
      · rw [if_pos c] at y
        rw [← z, ← y]
        rcases hW with q | ⟨_, q⟩
        · show G' W' = none
          rw [q, go _ (h.live _ (smem_O he))]; exact h.gm _ (smem_O he)
        · exact q
      · rw [if_neg c] at y
        rw [← z, ← y]
        rw [go _ (h.live _ (smem_O hx))]; exact h.gm _ (smem_O hx)
def popO (ol : List Oe) (d : Int) : List Oe := ol.filter fun x => decide (x.d ≠ d)
theorem olK_pop (ol : List Oe) (d : Int) : dropK (olK ol) (Sum.inl d) = olK (popO ol d) := by
  unfold olK popO dropK
  rw [List.filter_map]
  congr 1
  refine List.filter_congr fun x _ => ?_
  by_cases c : x.d = d
  · simp [c]
  · have : ¬ (Sum.inl x.d : Key) = Sum.inl d := fun z => c (Sum.inl.inj z)
    simp [c]
theorem StAt.popped (h : StAt G H p s a) {d : Int} (fr : ∀ b o, b ≠ a.C → H b = some o → H' b = some o) (gh : Same G H') (eC : H' a.C = some (.dK (dropK (olK a.ol) (Sum.inl d)))) (s' : St) (hs' : s' = { s with op := dropOp s.op d }) :
    StAt G H' p s' { a with ol := popO a.ol d } := by
  subst hs'
  have BC : a.B ≠ a.C := ne_val h.kp h.op (fun z => nomatch z)
  have sub : (popO a.ol d).Sublist a.ol := List.filter_sublist
  refine ⟨gh, fr _ _ h.pC h.ob, h.sa, fr _ _ BC h.kp, h.ks, fun x hx => ?_, by rw [eC, olK_pop], ?_, fun x hx => ?_, ?_, h.pC, fun m hm => ?_⟩
  · obtain ⟨h1, h2, h3⟩ := h.ke x hx
    exact ⟨h1, fr _ _ (ne_val h2 h.op (fun z => nomatch z)) h2, h3⟩
  · show (popO a.ol d).map _ = dropOp s.op d
    unfold popO dropOp
    rw [← h.os, List.filter_map]
    rfl
  · obtain ⟨h1, h2, h3⟩ := h.oe x (sub.subset hx)
    exact ⟨h1, fr _ _ (ne_val h2 h.op (fun z => nomatch z)) h2, h3⟩
  · exact (((List.Sublist.refl _).append (sub.map (·.W))).cons_cons a.B).nodup h.nl
  · rcases SM_iff.mp hm with z | z | z | ⟨e, he, z⟩ | ⟨e, he, z⟩
    · exact h.gm m (SM_iff.mpr (.inl z))
    · exact h.gm m (SM_iff.mpr (.inr (.inl z)))
    · exact h.gm m (SM_iff.mpr (.inr (.inr (.inl z))))
    · exact h.gm m (SM_iff.mpr (.inr (.inr (.inr (.inl ⟨e, he, z⟩)))))
    · exact h.gm m (SM_iff.mpr (.inr (.inr (.inr (.inr ⟨e, sub.subset he, z⟩)))))
/-- a dealing kept (behind its pop) -/
theorem StAt.keeps (h : StAt G H p s a) {d : Int} {own : Wr} {T W : Addr} {ws : List V} (fr : ∀ b o, b ≠ a.B → H b = some o → H' b = some o) (gg : Same G G') (go : ∀ b, H b ≠ none → G' b = G b) (gh : Same G' H') (eB : H' a.B = some (.lst ((a.kl.map fun e => V.ref e.T) ++ [.ref T]))) (eT : G' T = some (.tup [.int d, .ref W])) (eW : H W = some (.lst ws)) (eP : Paired (WrAt G) ws own)
    (wB : W ≠ a.B) (wk : ∀ e ∈ a.kl, e.W ≠ W) (wo : ∀ e ∈ a.ol, e.W ≠ W) (gW : G W = none) (s' : St) (hs' : s' = { s with kept := s.kept ++ [(d, own)] }) : StAt G' H' p s' { a with kl := a.kl ++ [⟨d, T, W, ws, own⟩] } := by
  subst hs'
  obtain ⟨n1, n2, n3, n4, n5⟩ := nl_parts h
  have pB : p ≠ a.B := ne_val h.ob h.kp (fun z => nomatch z)
  refine ⟨gh, fr _ _ pB h.ob, gg _ _ h.sa, ?_, ?_, ?_, fr _ _ (ne_val h.op h.kp (fun z => nomatch z)) h.op, h.os, ?_, ?_, h.pC, ?_⟩
  · show H' a.B = some (.lst ((a.kl ++ [_]).map fun e : Ke => V.ref e.T))
    rw [eB, List.map_append]
    rfl
  · show (a.kl ++ [_]).map _ = s.kept ++ [(d, own)]
    rw [List.map_append, h.ks]
    rfl
  · intro e he
    rcases List.mem_append.mp he with he | he
    · obtain ⟨h1, h2, h3⟩ := h.ke e he
      exact ⟨gg _ _ h1, fr _ _ (Ne.symm (n4 e he)) h2, Paired.imp (fun _ _ r => r.grow gg) h3⟩
    · rw [List.mem_singleton.mp he]
      exact ⟨eT, fr _ _ wB eW, Paired.imp (fun _ _ r => r.grow gg) eP⟩
  · intro e he
    obtain ⟨h1, h2, h3⟩ := h.oe e he
    exact ⟨gg _ _ h1, fr _ _ (Ne.symm (n5 e he)) h2, Paired.imp (fun _ _ r => r.grow gg) h3⟩
  · show (a.B :: ((a.kl ++ [_]).map (fun e : Ke => e.W) ++ a.ol.map (·.W))).Nodup
    rw [List.map_append]
    refine List.nodup_cons.mpr ⟨fun z => ?_, List.nodup_append.mpr ⟨List.nodup_append.mpr ⟨n1, List.pairwise_singleton _ _, fun b hb c hc z => ?_⟩, n2, fun b hb c hc z => ?_⟩⟩
    · rcases List.mem_append.mp z with z | z
      · rcases List.mem_append.mp z with z | z
        · obtain ⟨e, he, q⟩ := List.mem_map.mp z
          exact n4 e he q.symm
        · exact wB (List.mem_singleton.mp z).symm
      · obtain ⟨e, he, q⟩ := List.mem_map.mp z
        exact n5 e he q.symm
    · obtain ⟨e, he, q⟩ := List.mem_map.mp hb
      rw [List.mem_singleton.mp hc] at z
      exact wk e he (q.trans z)
    · obtain ⟨e, he, q⟩ := List.mem_map.mp hc
      rcases List.mem_append.mp hb with hb | hb
      · obtain ⟨e', he', q'⟩ := List.mem_map.mp hb
        exact n3 e' he' e he (q'.trans (z.trans q.symm))
      · rw [List.mem_singleton.mp hb] at z
        exact wo e he (q.trans z.symm)
  · intro m hm
    have old : m ∈ a.M p → G' m = none := fun z => by rw [go m (h.live m z), h.gm m z]
    rcases SM_iff.mp hm with z | z | z | ⟨e, he, z⟩ | ⟨e, he, z⟩
    · exact old (SM_iff.mpr (.inl z))
    · exact old (SM_iff.mpr (.inr (.inl z)))
    · exact old (SM_iff.mpr (.inr (.inr (.inl z))))
    · rcases List.mem_append.mp he with he | he
      · exact old (SM_iff.mpr (.inr (.inr (.inr (.inl ⟨e, he, z⟩)))))
      · rw [List.mem_singleton.mp he] at z
        have z' : W = m := z
        rw [← z', go _ (by rw [eW]; simp)]
        exact gW
    · exact old (SM_iff.mpr (.inr (.inr (.inr (.inr ⟨e, he, z⟩)))))
theorem StAt.fallen (h : StAt G H p s a) {m : Nat} {B' C' : Addr} (fr : ∀ b o, b ≠ p → H b = some o → H' b = some o) (gh : Same G H') (hB : H B' = none) (hC : H C' = none) (eo : H' p = some (.dK [(kBase, .int s.base), (kStart, .ref a.A), (kKept, .ref B'), (kOpen, .ref C')])) (eB : H' B' = some (.lst ((a.kl.map fun e => V.ref e.T).take m))) (eC : H' C' = some (.dK [])) (s' : St) (hs' : s' = { s with kept := s.kept.take m, op := [] }) :
    StAt G H' p s' ⟨a.A, B', C', a.kl.take m, []⟩ := by
  subst hs'
  obtain ⟨n1, n2, n3, n4, n5⟩ := nl_parts h
  have sub : (a.kl.take m).Sublist a.kl := List.take_sublist _ _
  refine ⟨gh, eo, h.sa, by rw [eB, List.map_take], ?_, fun e he => ?_, eC, rfl, fun e he => (List.not_mem_nil he).elim, ?_, ?_, fun b hb => ?_⟩
  · show (a.kl.take m).map _ = s.kept.take m
    rw [List.map_take, h.ks]
  · obtain ⟨h1, h2, h3⟩ := h.ke e (sub.subset he)
    exact ⟨h1, fr _ _ (ne_val h2 h.ob (fun z => nomatch z)) h2, h3⟩
  · show (B' :: ((a.kl.take m).map (·.W) ++ [])).Nodup
    rw [List.append_nil]
    refine List.nodup_cons.mpr ⟨fun z => ?_, (sub.map (·.W)).nodup n1⟩
    obtain ⟨e, he, q⟩ := List.mem_map.mp z
    exact h.live _ (smem_K (sub.subset he)) (by rw [q]; exact hB)
  · exact ne_of_none h.ob hC
  · rcases SM_iff.mp hb with z | z | z | ⟨e, he, z⟩ | ⟨e, he, z⟩
    · rw [z]; exact h.gm _ smem_p
    · rw [z]; exact h.gh.free hB
    · rw [z]; exact h.gh.free hC
    · rw [← z]; exact h.gm _ (smem_K (sub.subset he))
    · exact (List.not_mem_nil he).elim
theorem StAt.raisen (h : StAt G H p s a) {n : Int} {rows : List (Str × Int)} {A' : Addr} (fr : ∀ b o, b ≠ p → H b = some o → H' b = some o) (gg : Same G G') (go : ∀ b, H b ≠ none → G' b = G b) (gh : Same G' H') (eo : H' p = some (.dK [(kBase, .int n), (kStart, .ref A'), (kKept, .ref a.B), (kOpen, .ref a.C)])) (eA : G' A' = some (.dK (rowsK rows))) (s' : St) (hs' : s' = { s with base := n, start := rows }) :
    StAt G' H' p s' { a with A := A' } := by
  subst hs'
  refine ⟨gh, eo, eA, fr _ _ (ne_val h.kp h.ob (fun z => nomatch z)) h.kp, h.ks, fun e he => ?_, fr _ _ (Ne.symm h.pC) h.op, h.os, fun e he => ?_, h.nl, h.pC, fun m hm => ?_⟩
  · obtain ⟨h1, h2, h3⟩ := h.ke e he
    exact ⟨gg _ _ h1, fr _ _ (ne_val h2 h.ob (fun z => nomatch z)) h2, Paired.imp (fun _ _ r => r.grow gg) h3⟩
  · obtain ⟨h1, h2, h3⟩ := h.oe e he
    exact ⟨gg _ _ h1, fr _ _ (ne_val h2 h.ob (fun z => nomatch z)) h2, Paired.imp (fun _ _ r => r.grow gg) h3⟩
  · have hm' : m ∈ a.M p := hm
    rw [go m (h.live m hm'), h.gm m hm']
end
end Hs

set_option maxHeartbeats 4000000
/-! kept dealings of a history: the plain model, the tables of the program -/
namespace Hs
open PySem PySem.Spec PyProof.Rows L2 Sk
def addS {α : Type} [DecidableEq α] (l : List α) (k : α) : List α := if k ∈ l then l else l ++ [k]
theorem len_addS {α : Type} [DecidableEq α] (l : List α) (k : α) : (addS l k).length ≤ l.length + 1 := by
  unfold addS
  split
  · omega
  · rw [List.length_append, List.length_singleton]; exact Nat.le_refl _
/-- what is kept of a dealing -/
structure Rc where
  st : Nat
  ask : List Str
  sp : List Sp2
  wr : List Str
structure Row where
  d : Int
  st : Int
  p : Int
  ask : List Str
  sp : List Sp2
  wr : List Str
def Ev.dl : Ev → Int
  | .begin d => d
  | .read d _ _ => d
  | .scan d _ _ _ => d
  | .put d _ _ => d
  | .drop d _ => d
  | .mark d _ => d
  | .back d _ => d
  | .keep d _ => d
  | .undo d => d
  | .fall n => n
  | .raised n _ => n
def Rc.go (r : Rc) : Ev → Rc
  | .read _ k _ => { r with ask := addS r.ask k }
  | .put _ k _ => { r with ask := addS r.ask k, wr := r.wr ++ [k] }
  | .drop _ k => { r with ask := addS r.ask k, wr := r.wr ++ [k] }
  | .scan _ lo hi _ => { r with sp := addS r.sp (lo, hi) }
  | .back _ n => { r with wr := r.wr.take n.toNat }
  | _ => r
def rowM (d p : Int) (r : Rc) : Row := ⟨d, r.st, p, r.ask.mergeSort strLe, r.sp.mergeSort spLe, (setL r.wr).mergeSort strLe⟩
structure Ac where
  f : Int → Option Rc
  rows : List Row
def Ac.new : Ac := ⟨fun _ => none, []⟩
def setF (f : Int → Option Rc) (d : Int) (r : Rc) : Int → Option Rc := fun x => if x = d then some r else f x
def rcOf (x : Option Rc) : Rc := match x with
  | some r => r
  | none => ⟨0, [], [], []⟩
def Ac.step (a : Ac) (e : Ev) : Ac := match e with
  | .begin d => { a with f := setF a.f d ⟨a.rows.length, [], [], []⟩ }
  | .keep d p => { a with rows := a.rows ++ [rowM d p (rcOf (a.f d))] }
  | .mark _ _ => a
  | .undo _ => a
  | .fall _ => a
  | .raised _ _ => a
  | e => { a with f := setF a.f e.dl ((rcOf (a.f e.dl)).go e) }
def accs (es : List Ev) : Ac := es.foldl Ac.step Ac.new
theorem accs_snoc (es : List Ev) (e : Ev) : accs (es ++ [e]) = (accs es).step e := by
  unfold accs
  rw [List.foldl_append]
  rfl
def GoodAt (a : Ac) : Ev → Prop
  | .begin _ => True
  | .fall _ => False
  | .raised _ _ => False
  | .back d n => 0 ≤ n ∧ a.f d ≠ none
  | e => a.f e.dl ≠ none
def Good (es : List Ev) : Prop := ∀ i e, es[i]? = some e → GoodAt (accs (es.take i)) e
theorem setF_same {f : Int → Option Rc} {d : Int} {r : Rc} : setF f d r d = some r := if_pos rfl
theorem setF_ne {f : Int → Option Rc} {d x : Int} {r : Rc} (h : x ≠ d) : setF f d r x = f x := if_neg h
/-! ### rows as they lie -/
structure Quad where
  t : Addr
  a : Addr
  b : Addr
  c : Addr
def Quad.ls (q : Quad) : List Addr := [q.a, q.b, q.c]
structure RowQ (H : Hp) (q : Quad) (r : Row) : Prop where
  et : H q.t = some (.tup [.int r.d, .int r.st, .int r.p, .ref q.a, .ref q.b, .ref q.c])
  ea : H q.a = some (.lst (r.ask.map V.str))
  eb : ∃ ys, H q.b = some (.lst ys) ∧ Paired (SpAt H) ys r.sp
  ec : H q.c = some (.lst (r.wr.map V.str))
/-- a row stands where what it is made of stands -/
theorem RowQ.frame {H H' : Hp} {q : Quad} {r : Row} (h : RowQ H q r) (k : ∀ x, (∀ xs, H x ≠ some (.lst xs)) ∨ x ∈ q.ls → ∀ o, H x = some o → H' x = some o) (kk : ∀ x xs, H x = some (.tup xs) → H' x = some (.tup xs)) : RowQ H' q r := by
  obtain ⟨ys, e, p⟩ := h.eb
  refine ⟨kk _ _ h.et, k _ (.inr (by simp [Quad.ls])) _ h.ea, ⟨ys, k _ (.inr (by simp [Quad.ls])) _ e, ?_⟩, k _ (.inr (by simp [Quad.ls])) _ h.ec⟩
  exact Paired.imp (fun _ _ z => by obtain ⟨b, e, hb⟩ := z; exact ⟨b, e, kk _ _ hb⟩) p
theorem RowQ.same {H H' : Hp} {q : Quad} {r : Row} (h : RowQ H q r) (s : Same H H') : RowQ H' q r := h.frame (fun x _ o e => s x o e) fun x xs e => s x _ e
/-! ### the tables -/
structure Tri where
  a : Addr
  b : Addr
  c : Addr
abbrev Dk2 := List (Key × V)
def askK (l : List Str) : List (Key × V) := l.map fun k => (Sum.inr k, .bl true)
def spK (l : List Sp2) : List (List Key × V) := l.map fun p => (kP p, .bl true)
structure AtD (H : Hp) (kS kA kP kW : Dk2) (t : Tri) (d : Int) (r : Rc) : Prop where
  vS : valV kS (Sum.inl d) = some (.int r.st)
  vA : valV kA (Sum.inl d) = some (.ref t.a)
  vP : valV kP (Sum.inl d) = some (.ref t.b)
  vW : valV kW (Sum.inl d) = some (.ref t.c)
  ea : H t.a = some (.dK (askK r.ask))
  eb : H t.b = some (.dT (spK r.sp))
  ec : H t.c = some (.lst (r.wr.map V.str))
structure Tb where
  S : Addr
  A : Addr
  P : Addr
  W : Addr
def Tb.l (t : Tb) : List Addr := [t.S, t.A, t.P, t.W]
structure PI (H H' : Hp) (T : Tb) (F : Addr) (m : Nat) (kS kA kP kW : Dk2) (ad : Int → Tri) (f : Int → Option Rc) (qs : List Quad) (rows : List Row) : Prop where
  s1 : Same H H'
  eS : H' T.S = some (.dK kS)
  eA : H' T.A = some (.dK kA)
  eP : H' T.P = some (.dK kP)
  eW : H' T.W = some (.dK kW)
  eF : H' F = some (.lst (qs.map fun q => V.ref q.t))
  lk : kS.length ≤ m ∧ kA.length ≤ m ∧ kP.length ≤ m ∧ kW.length ≤ m
  top : T.l.Nodup
  n0 : ∀ x ∈ F :: T.l, H x = none
  at_ : ∀ d r, f d = some r → AtD H' kS kA kP kW (ad d) d r
  n1 : ∀ d r, f d = some r → H (ad d).a = none ∧ H (ad d).b = none ∧ H (ad d).c = none
  inj : ∀ d d' r r', f d = some r → f d' = some r' → d ≠ d' → (ad d).a ≠ (ad d').a ∧ (ad d).b ≠ (ad d').b ∧ (ad d).c ≠ (ad d').c
  sepA : ∀ d r, f d = some r → (ad d).a ∉ T.l
  sepC : ∀ d r, f d = some r → (ad d).c ∉ F :: qs.flatMap Quad.ls
  rw_ : Paired (RowQ H') qs rows
  nd : (F :: qs.flatMap Quad.ls).Nodup
  n2 : ∀ x ∈ qs.flatMap Quad.ls, H x = none
  lr : ∀ d r, f d = some r → r.ask.length ≤ m ∧ r.sp.length ≤ m ∧ r.wr.length ≤ m
  lq : qs.length ≤ m
section
variable {H H' H'' : Hp} {T : Tb} {F : Addr} {m : Nat} {kS kA kP kW : Dk2} {ad : Int → Tri} {f : Int → Option Rc} {qs : List Quad} {rows : List Row}
theorem ne_kind {H : Hp} {a b : Addr} {o u : HO} (h : H a = some o) (h' : H b = some u) (d : o ≠ u) : a ≠ b := ne_of h h' d
theorem PI.same (p : PI H H' T F m kS kA kP kW ad f qs rows) (s : Same H' H'') : PI H H'' T F m kS kA kP kW ad f qs rows :=
  ⟨p.s1.trans s, s _ _ p.eS, s _ _ p.eA, s _ _ p.eP, s _ _ p.eW, s _ _ p.eF, p.lk, p.top, p.n0, fun d r e => by
    obtain ⟨a, b, c, d', x, y, z⟩ := p.at_ d r e
    exact ⟨a, b, c, d', s _ _ x, s _ _ y, s _ _ z⟩, p.n1, p.inj, p.sepA, p.sepC, Paired.imp (fun _ _ z => z.same s) p.rw_, p.nd, p.n2, p.lr, p.lq⟩
theorem PI.more (p : PI H H' T F m kS kA kP kW ad f qs rows) : PI H H' T F (m + 1) kS kA kP kW ad f qs rows :=
  ⟨p.s1, p.eS, p.eA, p.eP, p.eW, p.eF, ⟨by have := p.lk.1; omega, by have := p.lk.2.1; omega, by have := p.lk.2.2.1; omega, by have := p.lk.2.2.2; omega⟩, p.top, p.n0, p.at_, p.n1, p.inj, p.sepA, p.sepC, p.rw_, p.nd, p.n2, fun d r e => by
    have := p.lr d r e
    omega, by have := p.lq; omega⟩
def setA (ad : Int → Tri) (d : Int) (t : Tri) : Int → Tri := fun x => if x = d then t else ad x
theorem setA_same {d : Int} {t : Tri} : setA ad d t d = t := if_pos rfl
theorem setA_ne {d x : Int} {t : Tri} (h : x ≠ d) : setA ad d t x = ad x := if_neg h
theorem mem_q {q : Quad} {x : Addr} (hq : q ∈ qs) (hx : x ∈ q.ls) : x ∈ qs.flatMap Quad.ls := List.mem_flatMap.mpr ⟨q, hq, hx⟩
/-- what lies in one of the rows' lists is a list -/
theorem PI.isL (p : PI H H' T F m kS kA kP kW ad f qs rows) {x : Addr} (hx : x ∈ qs.flatMap Quad.ls) : ∃ xs, H' x = some (.lst xs) := by
  obtain ⟨q, hq, hx⟩ := List.mem_flatMap.mp hx
  obtain ⟨j, hj⟩ := List.getElem?_of_mem hq
  obtain ⟨r, _, hr⟩ := Paired.at' p.rw_ hj
  obtain ⟨ys, e, _⟩ := hr.eb
  simp only [Quad.ls, List.mem_cons, List.not_mem_nil, or_false] at hx
  rcases hx with rfl | rfl | rfl
  · exact ⟨_, hr.ea⟩
  · exact ⟨_, e⟩
  · exact ⟨_, hr.ec⟩
/-- the dealing d's things are changed; the tables, too -/
theorem PI.upd (p : PI H H' T F m kS kA kP kW ad f qs rows) (d : Int) (r' : Rc) (t' : Tri) {kS' kA' kP' kW' : Dk2}
    (eS : H'' T.S = some (.dK kS')) (eA : H'' T.A = some (.dK kA')) (eP : H'' T.P = some (.dK kP')) (eW : H'' T.W = some (.dK kW'))
    (lk : kS'.length ≤ m + 1 ∧ kA'.length ≤ m + 1 ∧ kP'.length ≤ m + 1 ∧ kW'.length ≤ m + 1)
    (at_ : AtD H'' kS' kA' kP' kW' t' d r')
    (va : ∀ x, x ≠ d → valV kS' (Sum.inl x) = valV kS (Sum.inl x) ∧ valV kA' (Sum.inl x) = valV kA (Sum.inl x) ∧ valV kP' (Sum.inl x) = valV kP (Sum.inl x) ∧ valV kW' (Sum.inl x) = valV kW (Sum.inl x))
    (oa : H' t'.a = none ∨ f d ≠ none ∧ t'.a = (ad d).a) (ob : H' t'.b = none ∨ f d ≠ none ∧ t'.b = (ad d).b) (oc : H' t'.c = none ∨ f d ≠ none ∧ t'.c = (ad d).c)
    (fr : ∀ x o, x ∉ T.l → (f d ≠ none → x ≠ (ad d).a ∧ x ≠ (ad d).b ∧ x ≠ (ad d).c) → H' x = some o → H'' x = some o)
    (lr : r'.ask.length ≤ m + 1 ∧ r'.sp.length ≤ m + 1 ∧ r'.wr.length ≤ m + 1) :
    PI H H'' T F (m + 1) kS' kA' kP' kW' (setA ad d t') (setF f d r') qs rows := by
  have live : ∀ {x : Addr}, H' x = none → H x = none := fun h => p.s1.free h
  have tl : ∀ x ∈ T.l, ∃ k, H' x = some (.dK k) := fun x hx => by
    simp only [Tb.l, List.mem_cons, List.not_mem_nil, or_false] at hx
    rcases hx with rfl | rfl | rfl | rfl
    · exact ⟨_, p.eS⟩
    · exact ⟨_, p.eA⟩
    · exact ⟨_, p.eP⟩
    · exact ⟨_, p.eW⟩
  have notL : ∀ {x o}, H' x = some o → (∀ k, o ≠ .dK k) → x ∉ T.l := fun h hk hx => by
    obtain ⟨k, e⟩ := tl _ hx
    rw [h] at e
    exact hk k (Option.some.inj e)
  have keepF : ∀ x o, H' x = some o → (∀ k, o ≠ .dK k) → (∀ k, o ≠ .dT k) → (f d ≠ none → x ≠ (ad d).c) → H'' x = some o := fun x o h h1 h2 h3 => by
    refine fr x o (notL h h1) (fun z => ?_) h
    cases e : f d with
    | none => exact absurd e z
    | some r =>
      have q := p.at_ d r e
      exact ⟨ne_of h q.ea (h1 _), ne_of h q.eb (h2 _), h3 z⟩
  have ltup : ∀ x xs, H' x = some (.tup xs) → H'' x = some (.tup xs) := fun x xs h => by
    refine keepF x _ h (fun _ z => nomatch z) (fun _ z => nomatch z) (fun z => ?_)
    cases e : f d with
    | none => exact absurd e z
    | some r => exact ne_of h (p.at_ d r e).ec (fun z => nomatch z)
  have lls : ∀ x ∈ F :: qs.flatMap Quad.ls, f d ≠ none → x ≠ (ad d).c := fun x hx z e => by
    cases q : f d with
    | none => exact absurd q z
    | some r => exact p.sepC d r q (e ▸ hx)
  have rest : ∀ x r, x ≠ d → f x = some r → AtD H'' kS' kA' kP' kW' (ad x) x r := fun x r hx e => by
    have q := p.at_ x r e
    obtain ⟨v1, v2, v3, v4⟩ := va x hx
    refine ⟨v1.trans q.vS, v2.trans q.vA, v3.trans q.vP, v4.trans q.vW, fr _ _ (p.sepA x r e) (fun z => ?_) q.ea, fr _ _ (notL q.eb fun _ z => nomatch z) (fun z => ?_) q.eb, keepF _ _ q.ec (fun _ z => nomatch z) (fun _ z => nomatch z) (fun z => ?_)⟩
    all_goals
      cases e2 : f d with
      | none => exact absurd e2 z
      | some r2 =>
        have q2 := p.at_ d r2 e2
        have i := p.inj x d r r2 e e2 hx
        first
          | exact i.2.2
          | exact ⟨i.1, ne_of q.ea q2.eb (fun z => nomatch z), ne_of q.ea q2.ec (fun z => nomatch z)⟩
          | exact ⟨ne_of q.eb q2.ea (fun z => nomatch z), i.2.1, ne_of q.eb q2.ec (fun z => nomatch z)⟩
  have none_ne : ∀ {x y : Addr} {o : HO}, H' x = none → H' y = some o → x ≠ y := fun h1 h2 e => by
    rw [e, h2] at h1
    cases h1
  have injd : ∀ x r, x ≠ d → f x = some r → t'.a ≠ (ad x).a ∧ t'.b ≠ (ad x).b ∧ t'.c ≠ (ad x).c := fun x r hx e => by
    have q := p.at_ x r e
    refine ⟨?_, ?_, ?_⟩
    · rcases oa with z | ⟨z, e1⟩
      · exact none_ne z q.ea
      · cases e2 : f d with
        | none => exact absurd e2 z
        | some r2 => rw [e1]; exact (p.inj d x r2 r e2 e (Ne.symm hx)).1
    · rcases ob with z | ⟨z, e1⟩
      · exact none_ne z q.eb
      · cases e2 : f d with
        | none => exact absurd e2 z
        | some r2 => rw [e1]; exact (p.inj d x r2 r e2 e (Ne.symm hx)).2.1
    · rcases oc with z | ⟨z, e1⟩
      · exact none_ne z q.ec
      · cases e2 : f d with
        | none => exact absurd e2 z
        | some r2 => rw [e1]; exact (p.inj d x r2 r e2 e (Ne.symm hx)).2.2
  refine ⟨fun x o e => ?_, eS, eA, eP, eW, keepF _ _ p.eF (fun _ z => nomatch z) (fun _ z => nomatch z) (lls F List.mem_cons_self), lk, p.top, p.n0, fun x r e => ?_, fun x r e => ?_, fun x y r r2 e e2 hxy => ?_, fun x r e => ?_, fun x r e => ?_, ?_, p.nd, p.n2, fun x r e => ?_, by have := p.lq; omega⟩
  · refine fr x o (fun hx => ?_) (fun z => ?_) (p.s1 _ _ e)
    · rw [p.n0 x (List.mem_cons_of_mem _ hx)] at e
      cases e
    · cases e2 : f d with
      | none => exact absurd e2 z
      | some r2 =>
        obtain ⟨a, b, c⟩ := p.n1 d r2 e2
        exact ⟨ne_of_none e a, ne_of_none e b, ne_of_none e c⟩
  · by_cases c : x = d
    · subst c
      rw [setF_same] at e
      cases e
      rw [setA_same]
      exact at_
    · rw [setF_ne c] at e
      rw [setA_ne c]
      exact rest x r c e
  · by_cases c : x = d
    · subst c
      rw [setA_same]
      refine ⟨?_, ?_, ?_⟩
      · rcases oa with z | ⟨z, e1⟩
        · exact live z
        · cases e2 : f x with
          | none => exact absurd e2 z
          | some r2 => rw [e1]; exact (p.n1 x r2 e2).1
      · rcases ob with z | ⟨z, e1⟩
        · exact live z
        · cases e2 : f x with
          | none => exact absurd e2 z
          | some r2 => rw [e1]; exact (p.n1 x r2 e2).2.1
      · rcases oc with z | ⟨z, e1⟩
        · exact live z
        · cases e2 : f x with
          | none => exact absurd e2 z
          | some r2 => rw [e1]; exact (p.n1 x r2 e2).2.2
    · rw [setF_ne c] at e
      rw [setA_ne c]
      exact p.n1 x r e
  · by_cases c : x = d
    · subst c
      have cy : y ≠ x := Ne.symm hxy
      rw [setF_ne cy] at e2
      rw [setA_same, setA_ne cy]
      exact injd y r2 cy e2
    · rw [setF_ne c] at e
      rw [setA_ne c]
      by_cases c2 : y = d
      · subst c2
        rw [setA_same]
        have i := injd x r c e
        exact ⟨Ne.symm i.1, Ne.symm i.2.1, Ne.symm i.2.2⟩
      · rw [setF_ne c2] at e2
        rw [setA_ne c2]
        exact p.inj x y r r2 e e2 hxy
  · by_cases c : x = d
    · subst c
      rw [setA_same]
      rcases oa with z | ⟨z, e1⟩
      · exact fun hx => by
          obtain ⟨k, e3⟩ := tl _ hx
          rw [z] at e3
          cases e3
      · cases e2 : f x with
        | none => exact absurd e2 z
        | some r2 => rw [e1]; exact p.sepA x r2 e2
    · rw [setF_ne c] at e
      rw [setA_ne c]
      exact p.sepA x r e
  · by_cases c : x = d
    · subst c
      rw [setA_same]
      rcases oc with z | ⟨z, e1⟩
      · intro hx
        rcases List.mem_cons.mp hx with e3 | e3
        · rw [e3, p.eF] at z
          cases z
        · obtain ⟨xs, e4⟩ := p.isL e3
          rw [z] at e4
          cases e4
      · cases e2 : f x with
        | none => exact absurd e2 z
        | some r2 => rw [e1]; exact p.sepC x r2 e2
    · rw [setF_ne c] at e
      rw [setA_ne c]
      exact p.sepC x r e
  · have all : ∀ {qs' : List Quad} {rows' : List Row}, Paired (RowQ H') qs' rows' → (∀ q ∈ qs', q ∈ qs) → Paired (RowQ H'') qs' rows' := by
      intro qs' rows' pr
      induction pr with
      | nil => exact fun _ => .nil
      | @cons q r qs'' rows'' h t ih =>
        intro sub
        refine .cons ?_ (ih fun y hy => sub y (List.mem_cons_of_mem _ hy))
        obtain ⟨ys, e, pp⟩ := h.eb
        have hq := sub q List.mem_cons_self
        have hk : ∀ x ∈ q.ls, ∀ xs, H' x = some (.lst xs) → H'' x = some (.lst xs) := fun x hx xs e => keepF x _ e (fun _ z => nomatch z) (fun _ z => nomatch z) (lls x (List.mem_cons_of_mem _ (mem_q hq hx)))
        exact ⟨ltup _ _ h.et, hk _ (by simp [Quad.ls]) _ h.ea, ⟨ys, hk _ (by simp [Quad.ls]) _ e, Paired.imp (fun _ _ z => by obtain ⟨b, e, hb⟩ := z; exact ⟨b, e, ltup _ _ hb⟩) pp⟩, hk _ (by simp [Quad.ls]) _ h.ec⟩
    exact all p.rw_ fun _ h => h
  · by_cases c : x = d
    · subst c
      rw [setF_same] at e
      cases e
      exact lr
    · rw [setF_ne c] at e
      have := p.lr x r e
      omega
/-- one more row -/
theorem PI.keep (p : PI H H' T F m kS kA kP kW ad f qs rows) {q : Quad} {r : Row} (eF : H'' F = some (.lst ((qs ++ [q]).map fun q => V.ref q.t))) (fr : ∀ x o, x ≠ F → H' x = some o → H'' x = some o) (hr : RowQ H'' q r) (h0 : ∀ x ∈ q.ls, H' x = none) (nd : q.ls.Nodup) :
    PI H H'' T F (m + 1) kS kA kP kW ad f (qs ++ [q]) (rows ++ [r]) := by
  have nF : ∀ {x o}, H' x = some o → (∀ k, o ≠ .lst k) → x ≠ F := fun h hk => ne_of h p.eF (hk _)
  have ltup : ∀ x xs, H' x = some (.tup xs) → H'' x = some (.tup xs) := fun x xs h => fr x _ (nF h fun _ z => nomatch z) h
  have fm : (qs ++ [q]).flatMap Quad.ls = qs.flatMap Quad.ls ++ q.ls := by rw [List.flatMap_append]; simp
  have q0 : ∀ x ∈ q.ls, x ∉ F :: qs.flatMap Quad.ls := fun x hx hm => by
    rcases List.mem_cons.mp hm with e | e
    · have := h0 x hx
      rw [e, p.eF] at this
      cases this
    · obtain ⟨xs, e4⟩ := p.isL e
      rw [h0 x hx] at e4
      cases e4
  refine ⟨fun x o e => fr x o (ne_of_none e (p.n0 F List.mem_cons_self)) (p.s1 _ _ e), fr _ _ (nF p.eS fun _ z => nomatch z) p.eS, fr _ _ (nF p.eA fun _ z => nomatch z) p.eA, fr _ _ (nF p.eP fun _ z => nomatch z) p.eP, fr _ _ (nF p.eW fun _ z => nomatch z) p.eW, eF, p.more.lk, p.top, p.n0, fun d r e => ?_, p.n1, p.inj, p.sepA, fun d r e => ?_, ?_, ?_, fun x hx => ?_, p.more.lr, ?_⟩
  · have q := p.at_ d r e
    exact ⟨q.vS, q.vA, q.vP, q.vW, fr _ _ (nF q.ea fun _ z => nomatch z) q.ea, fr _ _ (nF q.eb fun _ z => nomatch z) q.eb, fr _ _ (fun z => p.sepC d r e (by rw [z]; exact List.mem_cons_self)) q.ec⟩
  · rw [fm]
    intro hm
    have q := p.at_ d r e
    rcases List.mem_cons.mp hm with z | z
    · exact p.sepC d r e (by rw [z]; exact List.mem_cons_self)
    · rcases List.mem_append.mp z with z | z
      · exact p.sepC d r e (List.mem_cons_of_mem _ z)
      · have := h0 _ z
        rw [q.ec] at this
        cases this
  · refine Paired.app ?_ (.cons hr .nil)
    have all : ∀ {qs' : List Quad} {rows' : List Row}, Paired (RowQ H') qs' rows' → (∀ q ∈ qs', q ∈ qs) → Paired (RowQ H'') qs' rows' := by
      intro qs' rows' pr
      induction pr with
      | nil => exact fun _ => .nil
      | @cons q r qs'' rows'' h t ih =>
        intro sub
        refine .cons ?_ (ih fun y hy => sub y (List.mem_cons_of_mem _ hy))
        obtain ⟨ys, e, pp⟩ := h.eb
        have hq := sub q List.mem_cons_self
        have hk : ∀ x ∈ q.ls, ∀ xs, H' x = some (.lst xs) → H'' x = some (.lst xs) := fun x hx xs e => fr x _ (fun z => by
          have := (List.nodup_cons.mp p.nd).1
          exact this (z ▸ mem_q hq hx)) e
        exact ⟨ltup _ _ h.et, hk _ (by simp [Quad.ls]) _ h.ea, ⟨ys, hk _ (by simp [Quad.ls]) _ e, Paired.imp (fun _ _ z => by obtain ⟨b, e, hb⟩ := z; exact ⟨b, e, ltup _ _ hb⟩) pp⟩, hk _ (by simp [Quad.ls]) _ h.ec⟩
    exact all p.rw_ fun _ h => h
  · rw [fm]
    show ((F :: qs.flatMap Quad.ls) ++ q.ls).Nodup
    rw [List.nodup_append]
    exact ⟨p.nd, nd, fun x hx y hy e => q0 y hy (e ▸ hx)⟩
  · rw [fm] at hx
    rcases List.mem_append.mp hx with z | z
    · exact p.n2 x z
    · exact p.s1.free (h0 x z)
  · rw [List.length_append, List.length_singleton]
    have := p.lq
    omega
end
/-! ### dicts -/
theorem len_putK {κ : Type} [DecidableEq κ] (kvs : List (κ × V)) (k : κ) (v : V) : (putK kvs k v).length ≤ kvs.length + 1 := by
  unfold putK
  split
  · rw [List.length_map]; omega
  · rw [List.length_append, List.length_singleton]; exact Nat.le_refl _
theorem put_same {κ : Type} [DecidableEq κ] {l : List κ} {k : κ} : putK (l.map fun x => (x, V.bl true)) k (.bl true) = (addS l k).map fun x => (x, V.bl true) := by
  unfold putK addS
  have ea : ((l.map fun x => (x, V.bl true)).any fun kv => decide (kv.1 = k)) = decide (k ∈ l) := by
    rw [List.any_map, Bool.eq_iff_iff, List.any_eq_true, decide_eq_true_eq]
    constructor
    · rintro ⟨x, hx, e⟩
      have : x = k := by simpa using e
      exact this ▸ hx
    · exact fun h => ⟨k, h, by simp⟩
  rw [ea]
  by_cases c : k ∈ l
  · rw [decide_eq_true c, if_pos c]
    simp only [↓reduceIte, List.map_map]
    apply List.map_congr_left
    intro x _
    simp only [Function.comp]
    split <;> rfl
  · rw [decide_eq_false c, if_neg c, List.map_append]
    simp
theorem ask_put (l : List Str) (k : Str) : putK (askK l) (Sum.inr k) (.bl true) = askK (addS l k) := by
  have e : ∀ l : List Str, askK l = (l.map (Sum.inr : Str → Key)).map fun x => (x, V.bl true) := fun l => by unfold askK; rw [List.map_map]; rfl
  rw [e, put_same, e]
  congr 1
  unfold addS
  by_cases c : k ∈ l
  · rw [if_pos c, if_pos (List.mem_map.mpr ⟨k, c, rfl⟩)]
  · rw [if_neg c, if_neg (fun z => by obtain ⟨x, hx, e⟩ := List.mem_map.mp z; exact c (Sum.inr.inj e ▸ hx)), List.map_append]
    rfl
theorem kP_inj {p q : Sp2} (h : kP p = kP q) : p = q := by
  obtain ⟨a, b⟩ := p
  obtain ⟨c, d⟩ := q
  unfold kP at h
  injection h with h1 h
  injection h with h2 h
  have e1 : a = c := Sum.inr.inj h1
  have e2 : b = d := Sum.inr.inj h2
  rw [e1, e2]
theorem sp_put (l : List Sp2) (k : Sp2) : putK (spK l) (kP k) (.bl true) = spK (addS l k) := by
  have e : ∀ l : List Sp2, spK l = (l.map kP).map fun x => (x, V.bl true) := fun l => by unfold spK; rw [List.map_map]; rfl
  rw [e, put_same, e]
  congr 1
  unfold addS
  by_cases c : k ∈ l
  · rw [if_pos c, if_pos (List.mem_map.mpr ⟨k, c, rfl⟩)]
  · rw [if_neg c, if_neg (fun z => by obtain ⟨x, hx, e⟩ := List.mem_map.mp z; exact c (kP_inj e ▸ hx)), List.map_append]
    rfl
end Hs

set_option maxHeartbeats 4000000
/-! kept dealings of a history: what the law says, plain -/
namespace Hs
open PySem PySem.Spec PyProof.Rows L2 Sk
def isB (d : Int) : Ev → Bool
  | .begin x => decide (x = d)
  | _ => false
def isK : Ev → Bool
  | .keep _ _ => true
  | _ => false
/-- what an event must be -/
def EvGo : Ev → Prop
  | .back _ n => 0 ≤ n
  | .fall _ => False
  | .raised _ _ => False
  | _ => True
theorem GoodAt.go {a : Ac} {e : Ev} (h : GoodAt a e) : EvGo e := by
  cases e with
  | back d n => exact h.1
  | fall n => exact h
  | raised n r => exact h
  | _ => exact True.intro
theorem Good.go {es : List Ev} (h : Good es) : ∀ e ∈ es, EvGo e := fun e he => by
  obtain ⟨i, hi⟩ := List.getElem?_of_mem he
  exact (h i e hi).go
theorem Good.snoc {es : List Ev} {e : Ev} (h : Good (es ++ [e])) : Good es ∧ GoodAt (accs es) e := by
  constructor
  · intro i x hx
    have hi : i < es.length := (List.getElem?_eq_some_iff.mp hx).1
    have := h i x (by rw [List.getElem?_append_left hi]; exact hx)
    rw [List.take_append_of_le_length (Nat.le_of_lt hi)] at this
    exact this
  · have := h es.length e (by rw [List.getElem?_append_right (Nat.le_refl _), Nat.sub_self]; rfl)
    rw [List.take_left'] at this
    · exact this
    · rfl
theorem Good.take {es : List Ev} (h : Good es) (k : Nat) : Good (es.take k) := fun i x hx => by
  have hi : i < (es.take k).length := (List.getElem?_eq_some_iff.mp hx).1
  rw [List.length_take] at hi
  rw [List.getElem?_take_of_lt (by omega)] at hx
  have := h i x hx
  rw [List.take_take, Nat.min_eq_left (by omega)]
  exact this
def ownStep (d : Int) (own : List Ev) (e : Ev) : List Ev := (if isB d e then [] else own) ++ (if e.dl = d then [e] else [])
def ownL (d : Int) (es : List Ev) : List Ev := es.foldl (ownStep d) []
theorem own_snoc (d : Int) (es : List Ev) (e : Ev) : ownL d (es ++ [e]) = ownStep d (ownL d es) e := by
  unfold ownL
  rw [List.foldl_append]
  rfl
theorem own_mem (d : Int) : ∀ (es own : List Ev) (x : Ev), x ∈ es.foldl (ownStep d) own → x ∈ own ∨ x ∈ es
  | [], own, x, h => .inl h
  | e :: es, own, x, h => by
    rcases own_mem d es _ x h with z | z
    · unfold ownStep at z
      rcases List.mem_append.mp z with z | z
      · split at z
        · exact (List.not_mem_nil z).elim
        · exact .inl z
      · split at z
        · rw [List.mem_singleton.mp z]; exact .inr List.mem_cons_self
        · exact (List.not_mem_nil z).elim
    · exact .inr (List.mem_cons_of_mem _ z)
theorem own_sub {d : Int} {es : List Ev} {x : Ev} (h : x ∈ ownL d es) : x ∈ es := (own_mem d es [] x h).elim (fun z => (List.not_mem_nil z).elim) id
theorem own_len (d : Int) : ∀ (es own : List Ev), (es.foldl (ownStep d) own).length ≤ own.length + es.length
  | [], own => Nat.le_refl _
  | e :: es, own => by
    rw [List.foldl_cons, List.length_cons]
    have a := own_len d es (ownStep d own e)
    have b : (ownStep d own e).length ≤ own.length + 1 := by
      unfold ownStep
      rw [List.length_append]
      split <;> split <;> simp
    omega
def idxB (d : Int) (es : List Ev) : List Nat := (List.range es.length).filter fun i => match es[i]? with
  | some e => isB d e
  | none => false
theorem idx_snoc (d : Int) (es : List Ev) (e : Ev) : idxB d (es ++ [e]) = idxB d es ++ (if isB d e then [es.length] else []) := by
  unfold idxB
  rw [List.length_append, List.length_singleton, List.range_succ, List.filter_append]
  congr 1
  · apply List.filter_congr
    intro i hi
    rw [List.getElem?_append_left (List.mem_range.mp hi)]
  · rw [List.filter_cons, List.filter_nil, List.getElem?_append_right (Nat.le_refl _), Nat.sub_self]
    rfl
theorem rows_len (es : List Ev) : (accs es).rows.length = (es.filter isK).length := by
  have gen : ∀ (l : List Ev) (a : Ac), (l.foldl Ac.step a).rows.length = a.rows.length + (l.filter isK).length := by
    intro l
    induction l with
    | nil => intro a; rfl
    | cons e l ih =>
      intro a
      rw [List.foldl_cons, ih]
      cases e with
      | keep d p =>
        show (a.rows ++ [_]).length + _ = a.rows.length + (Ev.keep d p :: l.filter isK).length
        rw [List.length_append, List.length_singleton, List.length_cons]
        omega
      | _ => rfl
  have := gen es Ac.new
  show _ = _
  rw [show (accs es).rows.length = _ from this]
  show 0 + _ = _
  omega
/-- what the law reads off the events ahead -/
structure Tells (d : Int) (es : List Ev) (r : Rc) : Prop where
  go : (ownL d es).foldl Rc.go ⟨r.st, [], [], []⟩ = r
  first : ∃ ini f, idxB d es = ini ++ [f] ∧ f ≤ es.length ∧ r.st = ((es.take f).filter isK).length
theorem tells_of {d : Int} : ∀ (n : Nat) (es : List Ev), es.length = n → Good es → ∀ r, (accs es).f d = some r → Tells d es r
  | 0, es, hn, g, r, h => by
    rw [List.eq_nil_of_length_eq_zero hn] at h
    cases h
  | n + 1, es, hn, g, r, h => by
    rcases List.eq_nil_or_concat es with z | ⟨l, e, z⟩
    · rw [z] at hn
      cases hn
    · rw [List.concat_eq_append] at z
      subst z
      have hl : l.length = n := by
        rw [List.length_append, List.length_singleton] at hn
        omega
      obtain ⟨g1, g2⟩ := g.snoc
      have ih : ∀ r, (accs l).f d = some r → Tells d l r := fun r h => tells_of n l hl g1 r h
      rw [accs_snoc] at h
      have same : ∀ (hb : isB d e = false) (ho : e.dl = d → ∀ r : Rc, r.go e = r) (hf : (accs l).f d = some r), Tells d (l ++ [e]) r := fun hb ho hf => by
        obtain ⟨t1, ini, f, t2, t3, t4⟩ := ih r hf
        refine ⟨?_, ini, f, ?_, ?_, ?_⟩
        · rw [own_snoc]
          unfold ownStep
          rw [hb]
          simp only [Bool.false_eq_true, ↓reduceIte]
          by_cases c : e.dl = d
          · rw [if_pos c, List.foldl_append, t1]
            exact ho c r
          · rw [if_neg c, List.append_nil]
            exact t1
        · rw [idx_snoc, hb]
          simp only [Bool.false_eq_true, ↓reduceIte, List.append_nil]
          exact t2
        · rw [List.length_append]
          omega
        · rw [List.take_append_of_le_length t3]
          exact t4
      have chg : ∀ (hb : isB d e = false) (hs : (setF (accs l).f e.dl ((rcOf ((accs l).f e.dl)).go e)) d = some r) (hn : (accs l).f e.dl ≠ none) (hst : ∀ r : Rc, (r.go e).st = r.st), Tells d (l ++ [e]) r := fun hb hs hn hst => by
        by_cases c : e.dl = d
        · rw [← c, setF_same] at hs
          cases hq : (accs l).f e.dl with
          | none => exact absurd hq hn
          | some r0 =>
            rw [hq] at hs
            have er : r0.go e = r := Option.some.inj hs
            obtain ⟨t1, ini, f, t2, t3, t4⟩ := ih r0 (by rw [← c]; exact hq)
            have es : r.st = r0.st := by rw [← er]; exact hst r0
            refine ⟨?_, ini, f, ?_, ?_, ?_⟩
            · rw [own_snoc]
              unfold ownStep
              rw [hb, if_pos c]
              simp only [Bool.false_eq_true, ↓reduceIte]
              rw [List.foldl_append, es, t1]
              exact er
            · rw [idx_snoc, hb]
              simp only [Bool.false_eq_true, ↓reduceIte, List.append_nil]
              exact t2
            · rw [List.length_append]
              omega
            · rw [List.take_append_of_le_length t3, es]
              exact t4
        · rw [setF_ne (Ne.symm c)] at hs
          exact same hb (fun z => absurd z c) hs
      cases e with
      | begin x =>
        by_cases c : x = d
        · subst c
          have hr : some (⟨(accs l).rows.length, [], [], []⟩ : Rc) = some r := by rw [← h]; exact setF_same.symm
          have er := Option.some.inj hr
          subst er
          have hb : isB x (.begin x) = true := decide_eq_true rfl
          refine ⟨?_, idxB x l, l.length, ?_, by rw [List.length_append]; omega, ?_⟩
          · rw [own_snoc]
            unfold ownStep
            rw [hb, if_pos (show (Ev.begin x).dl = x from rfl)]
            rfl
          · rw [idx_snoc, hb]
            rfl
          · rw [List.take_left' rfl, ← rows_len]
        · exact same (decide_eq_false c) (fun z => absurd z c) (by rw [← h]; exact (setF_ne (Ne.symm c)).symm)
      | keep x p => exact same rfl (fun _ _ => rfl) h
      | mark x n => exact same rfl (fun _ _ => rfl) h
      | undo x => exact same rfl (fun _ _ => rfl) h
      | fall n => exact g2.elim
      | raised n rs => exact g2.elim
      | read x k w => exact chg rfl h g2 fun _ => rfl
      | scan x lo hi rs => exact chg rfl h g2 fun _ => rfl
      | put x k w => exact chg rfl h g2 fun _ => rfl
      | drop x k => exact chg rfl h g2 fun _ => rfl
      | back x n => exact chg rfl h g2.2 fun _ => rfl
theorem Good.tells {es : List Ev} (g : Good es) {d : Int} {r : Rc} (h : (accs es).f d = some r) : Tells d es r := tells_of _ es rfl g r h
end Hs

set_option maxHeartbeats 4000000
namespace Hs
open PySem PySem.Spec PyProof.Rows L2
def top (i : Nat) : Stmt := PySem.Challenge.pw_slotkeep_k60_dealings_of_a_history.main.body.getD i (.Pass ⟨0, 0, 0, 0⟩)
abbrev s_kept_dealings : Stmt := top 1
abbrev s__law_cell_at : Stmt := top 3
abbrev s__law_stir : Stmt := top 4
abbrev s__law_well : Stmt := top 5
abbrev s__law_draw : Stmt := top 6
abbrev s__law_new_name : Stmt := top 7
abbrev s__law_new_state : Stmt := top 8
abbrev s__law_sees : Stmt := top 9
abbrev s__law_keys_of : Stmt := top 10
abbrev s__law_scanned : Stmt := top 11
abbrev s__law_free : Stmt := top 12
abbrev s__law_places : Stmt := top 13
abbrev s__law_deed_can : Stmt := top 14
abbrev s__law_can : Stmt := top 15
abbrev s__law_happens : Stmt := top 16
abbrev s__law_judged : Stmt := top 17
abbrev s__law_worth : Stmt := top 18
abbrev s__law_edge : Stmt := top 19
abbrev s__law_begun : Stmt := top 20
abbrev s__law_deed : Stmt := top 21
abbrev s__law_raised : Stmt := top 22
abbrev s__law_history : Stmt := top 23
abbrev s__law_due : Stmt := top 24
abbrev s__law_dealing : Stmt := top 25
abbrev s__law_apart : Stmt := top 26
abbrev s__law_copied : Stmt := top 27
abbrev s_law : Stmt := top 28
abbrev FnP (K : PySem.W.Frag) (x : Str) (st : Stmt) (f : Addr) (fd : FuncData) : Prop := FunD K x x (defArgs st) (defBody st) (defScope st) [] [] f fd
end Hs

set_option maxHeartbeats 4000000
/-! two addresses differ; what stands at an address; one step of a reading; all steps -/
local macro_rules | `(tactic| walk_at "ne") => `(tactic| first
  | assumption
  | exact Ne.symm (by assumption)
  | exact L2.ne_of_none (by assumption) (by assumption)
  | (refine Sk.ne_val (by assumption) (by assumption) ?gnm; (case gnm => (intro z; cases z)))
  | exact Ne.symm (L2.ne_of_none (by assumption) (by assumption)))
local macro_rules | `(tactic| walk_at "lk") => `(tactic| first
  | assumption
  | exact L2.upd_same
  | (refine Eq.trans (L2.upd_ne ?gvn) ?_; (case gvn => walk_at "ne"); walk_at "lk"))
local macro_rules | `(tactic| walk_at "fs") => `(tactic| first
  | assumption
  | exact Sk.look_eq
  | exact Sk.look_nil
  | (refine Eq.trans (Sk.look_ne (by decide +kernel)) ?_; walk_at "fs"))
local macro_rules | `(tactic| walk_at "pf") => `(tactic| first
  | exact Sk.putF_eq
  | exact Sk.putF_nil
  | (refine' Sk.putF_c ?gvp ?gvq; (case gvp => decide +kernel); (case gvq => walk_at "pf")))
local macro_rules | `(tactic| walk_at "sq") => `(tactic| first
  | assumption
  | exact Or.inl (by assumption)
  | exact Or.inr (by assumption)
  | exact Or.inl (L2.SqL.of (by walk_at "lk"))
  | exact Or.inr (L2.SqT.of (by walk_at "lk")))
local macro_rules | `(tactic| walk_at "side") => `(tactic| first
  | assumption
  | decide
  | (show (0 : Int) < _; omega))
local macro_rules | `(tactic| walk_at "g1") => `(tactic| first
  | with_reducible refine Sk.g_seq ?_
  | with_reducible refine Sk.g_asg ?_
  | with_reducible refine Sk.g_op ?_
  | with_reducible refine Sk.g_c ?_
  | ((with_reducible refine' Sk.g_var ?gve ?_); (case gve => exact rfl))
  | with_reducible refine Sk.g_name ?_
  | with_reducible refine Sk.g_cal ?_
  | with_reducible refine Sk.g_cons ?_
  | with_reducible refine Sk.g_nil ?_
  | with_reducible refine Sk.g_CB ?_
  | with_reducible refine Sk.g_ifS ?_
  | with_reducible refine Sk.g_ret ?_
  | with_reducible refine Sk.g_add ?_
  | with_reducible refine Sk.g_sub ?_
  | with_reducible refine Sk.g_I0 ?_
  | with_reducible refine Sk.g_test ?_
  | with_reducible refine Sk.g_bl ?_
  | ((with_reducible refine' Sk.g_eq ?gve ?_); (case gve => exact rfl))
  | ((with_reducible refine' Sk.g_ne ?gve ?_); (case gve => exact rfl))
  | with_reducible refine Sk.g_gSub ?_
  | with_reducible refine Sk.g_and ?_
  | with_reducible refine Sk.g_or ?_
  | with_reducible refine Sk.g_not ?_
  | with_reducible refine Sk.g_B ?_
  | with_reducible refine Sk.g_andV ?_
  | with_reducible refine Sk.g_orV ?_
  | with_reducible refine Sk.g_notV ?_
  | with_reducible refine Sk.g_drop ?_
  | with_reducible refine' Sk.g_next ?_
  | with_reducible refine Sk.g_retN ?_
  | with_reducible refine Sk.g_lst ?_
  | with_reducible refine Sk.g_tup ?_
  | with_reducible refine Sk.g_un ?_
  | with_reducible refine Sk.g_if ?_
  | ((with_reducible refine' Sk.g_len ?gvh ?_); (case gvh => walk_at "sq"))
  | ((with_reducible refine' Sk.g_ixLs ?gvh ?gve ?_); (case gvh => assumption); (case gve => first | exact rfl | assumption))
  | ((with_reducible refine Sk.g_I ?gvc ?_); (case gvc => walk_at "side"))
  | with_reducible refine Sk.g_fld ?_
  | ((with_reducible refine' Sk.g_fldR ?gvh ?gvc ?gvm ?gvl ?_); (case gvh => walk_at "lk"); (case gvc => assumption); (case gvm => simp); (case gvl => walk_at "fs"))
  | with_reducible refine Sk.g_sfld ?_
  | ((with_reducible refine' Sk.g_fldS ?gvh ?gvc ?gvm ?gvl ?gve ?_); (case gvh => walk_at "lk"); (case gvc => assumption); (case gvm => simp); (case gve => walk_at "pf"); (case gvl => simp))
  | with_reducible refine Sk.g_nn ?_
  | with_reducible refine Sk.g_sl ?_
  | with_reducible refine Sk.g_pairC ?_
  | with_reducible refine Sk.g_pairN ?_
  | with_reducible refine Sk.g_ckw ?_
  | with_reducible refine Sk.g_m1 ?_
  | with_reducible refine Sk.g_tyS1 ?_
  | with_reducible refine Sk.g_calH ?_
  | with_reducible refine Sk.g_rU ?_
  | with_reducible refine Sk.g_yesT ?_
  | with_reducible refine Sk.g_poN ?_
  | with_reducible refine Sk.g_poS ?_
  | with_reducible refine Sk.g_ltS ?_
  | with_reducible refine Sk.g_leS ?_
  | with_reducible refine Sk.g_intk ?_
  | with_reducible refine Sk.g_dget ?_
  | with_reducible refine Sk.g_dput ?_
  | with_reducible refine Sk.g_din ?_
  | with_reducible refine Sk.g_dnotin ?_
  | with_reducible refine Sk.g_mtd ?_
  | ((with_reducible refine' Sk.g_metR ?gvh ?gvl ?_); (case gvh => walk_at "lk"); (case gvl => walk_at "fs"))
  | with_reducible refine Sk.g_mkr ?_
  | with_reducible refine Sk.g_bm ?_
  | ((with_reducible refine' Sk.g_tyL ?gvh ?_); (case gvh => walk_at "lk"))
  | with_reducible refine Sk.g_dget1 ?_
  | with_reducible refine Sk.g_dpop1 ?_
  | with_reducible refine Sk.g_gCons ?_
  | with_reducible refine Sk.g_gNil ?_
  | with_reducible refine Sk.g_xoM ?_
  | with_reducible refine Sk.g_xo ?_
  | with_reducible refine Sk.g_ost ?_
  | with_reducible refine Sk.g_chain ?_
  | with_reducible refine Sk.g_forR1 ?_
  | with_reducible refine Sk.g_forR2 ?_
  | with_reducible refine Sk.g_forL ?_
  | with_reducible refine Sk.g_forT ?_
  | with_reducible refine Sk.g_forE ?_
  | with_reducible refine Sk.g_max2 ?_
  | with_reducible refine Sk.g_min2 ?_
  | with_reducible refine Sk.g_ntrue ?_
  | with_reducible refine Sk.g_nfalse ?_
  | with_reducible refine Sk.g_true ?_
  | with_reducible refine Sk.g_false ?_
  | ((with_reducible refine' Sk.g_ixL ?gvh ?gve ?_); (case gvh => walk_at "lk"); (case gve => exact rfl))
  | ((with_reducible refine' Sk.g_setL ?gvh ?gve ?_); (case gvh => walk_at "lk"); (case gve => exact rfl)))
local macro_rules | `(tactic| walk_at "go") => `(tactic| repeat (walk_at "g1"))
namespace Hs
open PySem PySem.Spec PyProof.Rows L2 Sk
section
variable {P : Program} {w : World} {K : PySem.W.Frag} {mg : Str → Option Value} {base : Heap} {CW CD : Addr}
/-- the classes -/
abbrev fW : List Str := ["base", "sheets", "keepers", "doers"]
abbrev fD : List Str := ["since", "writes"]
theorem sz0 : ([] : List V).length ≤ sizeLine := Nat.zero_le _
def spW0 (CW : Addr) : Sp := fun vs H Q _ => ∃ p dx, vs = [.ref p] ∧ H p = some (.ins CW dx []) ∧
  ∀ (H' : Hp) (A B C S : Addr), H A = none → H B = none → H C = none → H S = none → A ≠ B → C ≠ S → H' p = some (.ins CW dx [("base", .int 0), ("sheets", .ref A), ("keepers", .ref B), ("doers", .ref C)]) → H' A = some (.lst [.ref S]) → H' S = some (.dK []) → H' B = some (.lst []) → H' C = some (.dK []) →
    (∀ b o, b ≠ p → H b = some o → H' b = some o) → Q .non H'

-- not here: Witness.__init__

def spLast (CW CD : Addr) : Sp := fun vs H Q _ => ∃ (G : Hp) (p : Addr) (s : St) (a : Wa), vs = [.ref p] ∧ WitAt CW CD G H p s a ∧ Q (.int s.last) H
def spD0 (CD : Addr) : Sp := fun vs H Q _ => ∃ (p dx : Addr) (i : Int), vs = [.ref p, .int i] ∧ H p = some (.ins CD dx []) ∧
  ∀ (H' : Hp) (W : Addr), H W = none → H' p = some (.ins CD dx [("since", .int i), ("writes", .ref W)]) → H' W = some (.lst []) → (∀ b o, b ≠ p → H b = some o → H' b = some o) → Q .non H'

-- not here: Witness.last_place

-- not here: Doer.__init__

def spView (CW CD : Addr) : Sp := fun vs H Q _ => ∃ (G : Hp) (p : Addr) (s : St) (a : Wa) (e : De) (ks : List Str) (n : Nat), vs = [.ref p, .ref e.D] ∧ WitAt CW CD G H p s a ∧ SOk ks n s ∧ ks.length ≤ 60 ∧ e ∈ a.dl ∧
  ∀ (v : Addr) (G' H' : Hp), Grow G H G' H' → G' v = some (.dK (s.view e.st e.own)) → Q (.ref v) H'
theorem viewF_acc : ∀ (kvs acc : Dk), accK (fun q => if q.2 = V.non then none else some q.2) kvs acc = viewF kvs acc
  | [], acc => rfl
  | p :: r, acc => by
    show accK _ r (match (if p.2 = V.non then none else some p.2) with | some v => putK acc p.1 v | none => acc) = viewF r (if p.2 = V.non then acc else putK acc p.1 p.2)
    rw [viewF_acc r]
    by_cases c : p.2 = V.non
    · simp [c]
    · simp [c]
theorem putWr_snoc (kvs : Dk) (wr : Wr) (x : Str × Option Int) : putWr kvs (wr ++ [x]) = putK (putWr kvs wr) (Sum.inr x.1) (wV x.2) := by
  unfold putWr
  rw [List.foldl_append]
  rfl
theorem take_snoc {α : Type} {xs : List α} {i : Nat} {x : α} (h : xs[i]? = some x) : xs.take (i + 1) = xs.take i ++ [x] := by rw [List.take_succ, h]; rfl
theorem wV_flat (w : Option Int) : wV w = .non ∨ ∃ i, wV w = .int i := by cases w with
  | none => exact .inl rfl
  | some i => exact .inr ⟨i, rfl⟩

-- not here: view_of

def spFree (CW CD : Addr) : Sp := fun vs H Q _ => ∃ (G : Hp) (p : Addr) (s : St) (a : Wa) (ks : List Str) (n : Nat) (d : Int) (k : Str) (st : Int) (own : Wr), vs = [.ref p, .int d, .str k] ∧ WitAt CW CD G H p s a ∧ SOk ks n s ∧ n ≤ 1000 ∧ s.find d = some (st, own) ∧
  ∀ (b : Bool) (H' : Hp), (b = true ↔ freeK s d st k) → Same H H' → Q (.bl b) H'
theorem look_ins' {H : Hp} {a b : Addr} {u v : HO} (h : H a = some u) (h' : H b = some v) (n : u ≠ v) : a ≠ b := ne_val h h' n
theorem lcNames {K : PySem.W.Frag} {G H : Hp} {Q : VK} {g : TG} {tt : TT} {te : TE} {is : List Nat} {σ : L2.St} {W : Addr} {ws : List V} {wr : Wr} (hW : H W = some (.lst ws)) (gh : Same G H) (hp : Paired (WrAt G) ws wr) (hz : wr.length ≤ 1000)
    (hs : ∀ t (x : Str × Option Int) H' R, H' t = some (.tup [.str x.1, wV x.2]) → R (some (.str x.1)) H' → LcBody g tt te is σ (.ref t) H' R)
    (hd : ∀ D H', H D = none → Same H H' → H' D = some (.lst ((wr.map (·.1)).map V.str)) → Q (.ref D) H') : LcL K g tt te is σ Q (.ref W) H := by
  refine lcL_to (SqL.of hW) (wr.map fun x => some (V.str x.1)) (by rw [List.length_map, Paired.len hp]) (Nat.lt_of_le_of_lt (by rw [Paired.len hp]; exact hz) (by rw [sizeLine_eq]; decide)) ?_ ?_
  · intro i x y H' hx hy s1 R r
    obtain ⟨z, hz, t, rfl, ht⟩ := Paired.at' hp hx
    rw [List.getElem?_map, hz] at hy
    injection hy with hy
    subst hy
    exact hs t z H' R (s1 _ _ (gh _ _ ht)) (r H' (Same.refl _))
  · intro D H' D0 s1 e
    refine hd D H' D0 s1 ?_
    rw [e, fm_some, List.map_map]
    rfl

-- not here: is_free
end
end Hs

set_option maxHeartbeats 4000000
namespace Hs
open PySem PySem.Spec PyProof.Rows L2 Sk
section
variable {P : Program} {w : World} {K : PySem.W.Frag} {mg : Str → Option Value} {base : Heap} {CW CD : Addr}
/-- a deed: the list of an event's words but the first at r -/
def spCan (CW CD : Addr) (at_ : Nat) (Pe : St → Ev → Prop) : Sp := fun vs H Q _ => ∃ (G : Hp) (p : Addr) (s : St) (a : Wa) (ks : List Str) (n : Nat) (r : Addr) (us : List V) (e : Ev), vs = [.ref p, .ref r] ∧ WitAt CW CD G H p s a ∧ SOk ks n s ∧ KsOk ks ∧ n ≤ 1000 ∧ H r = some (.lst us) ∧ r ∉ a.M p ∧ RestAt G e us ∧ Pe s e ∧ EvOk ks e ∧
  ∀ (b : Bool) (s' : St) (a' : Wa) (G' H' : Hp), (b = true ↔ s.can at_ e) → (b = true → s' = s.does e) → (b = false → s' = s) → Step (a.M p) G H G' H' → WitAt CW CD G' H' p s' a' → Q (.bl b) H'
def cPre : String := ""

-- not here: can_begin
end
end Hs

set_option maxHeartbeats 4000000
namespace Hs
open PySem PySem.Spec PyProof.Rows L2 Sk
section
variable {P : Program} {w : World} {K : PySem.W.Frag} {mg : Str → Option Value} {base : Heap} {CW CD : Addr}
theorem scal_wV (a b : Option Int) : scal (wV a) (wV b) = true := by cases a <;> cases b <;> rfl
def rowOf (s : St) (st : Int) (own : Wr) (lo hi : Str) (k : Str) : Option (Str × Int) := if ¬ sL k lo ∧ sL k hi then (seesL s st own k).map fun i => (k, i) else none
theorem rowOf_mem {s : St} {st : Int} {own : Wr} {lo hi : Str} {ys : List Str} (hy : ∀ k, seesL s st own k ≠ none → k ∈ ys) (pw : ys.Pairwise fun a b => ¬ sL b a) (nd : ys.Nodup) : IsScan s st own lo hi (ys.filterMap (rowOf s st own lo hi)) := by
  constructor
  · refine List.Pairwise.filterMap _ ?_ (List.Pairwise.and pw nd)
    intro a a' h b hb b' hb'
    have ha : a = b.1 := by
      unfold rowOf at hb
      split at hb
      · obtain ⟨i, _, e⟩ := Option.map_eq_some_iff.mp hb; rw [← e]
      · cases hb
    have ha' : a' = b'.1 := by
      unfold rowOf at hb'
      split at hb'
      · obtain ⟨i, _, e⟩ := Option.map_eq_some_iff.mp hb'; rw [← e]
      · cases hb'
    subst ha ha'
    rcases Std.lt_trichotomy b.1.cps.toList b'.1.cps.toList with z | z | z
    · exact z
    · refine (h.2 ?_).elim
      have e1 : b.1.cps = b'.1.cps := by
        have := congrArg List.toArray z
        simpa using this
      cases hb1 : b.1 with
      | mk c1 =>
        cases hb2 : b'.1 with
        | mk c2 => rw [hb1, hb2] at e1; simp at e1; rw [e1]
    · exact (h.1 z).elim
  · intro k i
    rw [List.mem_filterMap]
    constructor
    · rintro ⟨a, ha, e⟩
      unfold rowOf at e
      split at e
      · rename_i c
        obtain ⟨j, hj, e⟩ := Option.map_eq_some_iff.mp e
        injection e with e1 e2
        subst e1 e2
        exact ⟨hj, c⟩
      · cases e
    · rintro ⟨h1, h2⟩
      refine ⟨k, hy k (by rw [h1]; simp), ?_⟩
      unfold rowOf
      rw [if_pos h2, h1]
      rfl
theorem IsScan.uniq {s : St} {st : Int} {own : Wr} {lo hi : Str} {r r' : List (Str × Int)} (h : IsScan s st own lo hi r) (h' : IsScan s st own lo hi r') : r = r' :=
  scan_uniq h.pw h'.pw fun x => by rw [h.mem x.1 x.2, h'.mem x.1 x.2]
theorem fm_snoc {α β : Type} (f : α → Option β) {xs : List α} {i : Nat} {x : α} (h : xs[i]? = some x) : (xs.take (i + 1)).filterMap f = (xs.take i).filterMap f ++ (f x).toList := by
  rw [take_snoc h, List.filterMap_append]
  congr 1

-- not here: can_read

-- not here: can_scan
end
end Hs

set_option maxHeartbeats 4000000
namespace Hs
open PySem PySem.Spec PyProof.Rows L2 Sk
section
variable {P : Program} {w : World} {K : PySem.W.Frag} {mg : Str → Option Value} {base : Heap} {CW CD : Addr}
-- not here: can_put

-- not here: can_drop

-- not here: can_mark

-- not here: can_back

-- not here: can_undo
end
end Hs

set_option maxHeartbeats 4000000
namespace Hs
open PySem PySem.Spec PyProof.Rows L2 Sk
section
variable {P : Program} {w : World} {K : PySem.W.Frag} {mg : Str → Option Value} {base : Heap} {CW CD : Addr}
theorem atI_end {xs : List V} {v : V} {k : Nat} (h : xs[k]? = some v) (e : xs.length = k + 1) : atI xs (-1) = some v := by
  have e2 : xs = xs.take k ++ [v] := by
    rw [← take_snoc h, ← e, List.take_length]
  rw [e2]
  exact atI_last _ _
theorem mergeK_nd : ∀ (xs acc : Dk), ((acc ++ xs).map (·.1)).Nodup → mergeK acc xs = acc ++ xs
  | [], acc, _ => by rw [List.append_nil]; rfl
  | x :: r, acc, n => by
    have e : acc ++ x :: r = (acc ++ [x]) ++ r := by simp
    have hn : valV acc x.1 = none := by
      cases q : valV acc x.1 with
      | none => rfl
      | some v =>
        have m := valV_in q
        rw [List.map_append] at n
        exact ((List.nodup_append.mp n).2.2 _ m x.1 (by simp) rfl).elim
    show mergeK (putK acc x.1 x.2) r = _
    rw [putK_new _ hn, mergeK_nd r _ (by rw [← e]; exact n), e]
theorem rowsPs {G : Hp} : ∀ {vs : List V} {rows : List (Str × Int)}, Paired (RowAt G) vs rows → ∃ ps : List Addr, vs = ps.map V.ref ∧ Paired (fun (p : Addr) (x : Str × Int) => G p = some (.tup [.str x.1, .int x.2])) ps rows
  | _, _, .nil => ⟨[], rfl, .nil⟩
  | _, _, .cons h t => by
    obtain ⟨q, rfl, e⟩ := h
    obtain ⟨ps, rfl, pt⟩ := rowsPs t
    exact ⟨q :: ps, rfl, .cons e pt⟩
theorem rowsKP {K : PySem.W.Frag} {H : Hp} : ∀ {ps : List Addr} {rows : List (Str × Int)}, Paired (fun (p : Addr) (x : Str × Int) => H p = some (.tup [.str x.1, .int x.2])) ps rows → Paired (fun p (kv : Key × V) => SqT K H p [kV kv.1, kv.2]) ps (rowsK rows)
  | _, _, .nil => .nil
  | _, _, .cons h t => .cons (SqT.of h) (rowsKP t)

-- not here: can_keep

-- not here: can_fall

-- not here: can_rise
end
end Hs

set_option maxHeartbeats 4000000
namespace Hs
open PySem PySem.Spec PyProof.Rows L2 Sk
section
variable {P : Program} {w : World} {K : PySem.W.Frag} {mg : Str → Option Value} {base : Heap} {CW CD : Addr}
/-- an event at its place: can it be, and what is then -/
def spBe (CW CD : Addr) : Sp := fun vs H Q _ => ∃ (G : Hp) (p : Addr) (s : St) (a : Wa) (ks : List Str) (n at_ : Nat) (v : V) (e : Ev), vs = [.ref p, .int at_, v] ∧ WitAt CW CD G H p s a ∧ SOk ks n s ∧ KsOk ks ∧ n ≤ 1000 ∧ EvAt G v e ∧ EvOk ks e ∧ (at_ = 0 → s = St.new) ∧
  ∀ (b : Bool) (s' : St) (a' : Wa) (G' H' : Hp), (b = true ↔ s.can at_ e) → (b = true → s' = s.does e) → (b = false → s' = s) → Step (a.M p) G H G' H' → WitAt CW CD G' H' p s' a' → Q (.bl b) H'
theorem can_any {s : St} {e : Ev} (i j : Nat) (h : ∀ n rows, e ≠ .raised n rows) : s.can i e ↔ s.can j e := by
  cases e with
  | raised n rows => exact (h n rows rfl).elim
  | _ => exact Iff.rfl

theorem g_orz {c : Prop} [Decidable c] {A B : Prop} (h1 : c → A) (h2 : ¬ c → B) : ∃ k, V.bl (decide c) = V.bl k ∧ if k = true then A else B := ⟨_, rfl, g_dec h1 h2⟩

-- not here: can_be
end
end Hs

set_option maxHeartbeats 4000000
namespace Hs
open PySem PySem.Spec PyProof.Rows L2 Sk
section
variable {P : Program} {w : World} {K : PySem.W.Frag} {mg : Str → Option Value} {base : Heap} {CW CD : Addr}
open Classical in
noncomputable def judge : St → Nat → List Ev → Option Nat
  | _, _, [] => none
  | s, i, e :: r => if s.can i e then judge (s.does e) (i + 1) r else some i
def natV : Option Nat → V
  | none => .non
  | some i => .int i
def spWrong : Sp := fun vs H Q _ => ∃ (h : Addr) (us : List V) (es : List Ev) (ks : List Str), vs = [.ref h] ∧ H h = some (.lst us) ∧ Paired (EvAt H) us es ∧ KsOk ks ∧ (∀ e ∈ es, EvOk ks e) ∧ es.length ≤ 900 ∧ ∀ H', Same H H' → Q (natV (judge St.new 0 es)) H'

-- not here: wrong
end
end Hs

set_option maxHeartbeats 4000000
namespace Hs
open PySem PySem.Spec PyProof.Rows L2 Sk
section
variable {P : Program} {w : World} {K : PySem.W.Frag} {mg : Str → Option Value} {base : Heap} {CW CD : Addr}
theorem sc__law_cell_at : FnScope ["script", "k"] ["script", "k"] (defScope s__law_cell_at) := ⟨rfl, rfl, rfl, by decide +kernel, rfl, by decide +kernel, by decide +kernel⟩
theorem ok__law_cell_at {f : Addr} {fd : FuncData} (F : FunD K "_law_cell_at" "_law_cell_at" (defArgs s__law_cell_at) (defBody s__law_cell_at) (defScope s__law_cell_at) [] [] f fd) (gm : mg "_law_cell_at" = some (.ref f)) (B : Bas mg)  : Cal P w K mg base CX0 1 "_law_cell_at" ["script", "k"] (Sk.spCell K) := by
  refine ⟨f, fd, F.ok sc__law_cell_at (fun vs H Q E h => ?_) (fun cdv A outer s H vs Q E hr h => ⟨_, PSs.nox (pss_cons (ps_if (pt_cmpR op_lt (pv 1) (pe_callB call_lenQ (by rfl) B.len PySem.boot_len (pa_cons (pv 0) pa_nil)) (nomark _)) (pss_one (ps_ret (pe_ix (ix_lK K rfl) (pv 0) (pv 1) (fun _ _ => rfl))))
    pss_nil)
  (pss_one (ps_ret pe_int))), ?_⟩), gm, F.kp, F.bindsN fun _ _ _ _ _ _ us hl => match us, hl with | [_, _], _ => rfl⟩
  · obtain ⟨a, ns, k, rfl, _⟩ := h; rfl
  · obtain ⟨a, ns, k, rfl, hS, hl, h0, q⟩ := h
    walk_at "go"
    refine g_dec (fun hk => ?_) (fun _ => ?_)
    · rw [List.length_map] at hk
      have hj : k.toNat < ns.length := by omega
      have ek : k = ((k.toNat : Nat) : Int) := by omega
      have e : atI (ns.map V.int) ((k.toNat : Nat) : Int) = some (.int ns[k.toNat]) := atI_nat (by rw [List.getElem?_map, List.getElem?_eq_getElem hj]; rfl)
      rw [← ek] at e
      walk_at "go"
      exact q _
    · walk_at "go"
      exact q _

theorem sc__law_stir : FnScope ["seed", "turn", "number"] ["seed", "turn"] (defScope s__law_stir) := ⟨rfl, rfl, rfl, by decide +kernel, rfl, by decide +kernel, by decide +kernel⟩
theorem ok__law_stir {f : Addr} {fd : FuncData} (F : FunD K "_law_stir" "_law_stir" (defArgs s__law_stir) (defBody s__law_stir) (defScope s__law_stir) [] [] f fd) (gm : mg "_law_stir" = some (.ref f)) (B : Bas mg)  : Cal P w K mg base CX0 1 "_law_stir" ["seed", "turn"] spStir := by
  refine ⟨f, fd, F.ok sc__law_stir (fun vs H Q E h => ?_) (fun cdv A outer s H vs Q E hr h => ⟨_, PSs.nox (pss_cons (ps_set (i := 2) sc__law_stir.nd rfl (by first | exact Or.inl rfl | exact Or.inr rfl) (pe_op op_add (pe_op op_mulW (pe_op op_add (pv 0) pe_int) pe_int) (pe_op op_mulW (pe_op op_add (pv 1) pe_int) pe_int)))
  (pss_one (ps_ret (pe_op op_mod (pe_op op_powW (pv 2) pe_int) pe_int)))), ?_⟩), gm, F.kp, F.bindsN fun _ _ _ _ _ _ us hl => match us, hl with | [_, _], _ => rfl⟩
  · obtain ⟨s, t, rfl, _⟩ := h; rfl
  · obtain ⟨s, t, rfl, hb, q⟩ := h
    walk_at "go"
    refine g_I (cmul (a := 161) (b := 100) (by omega) (by omega)) ?_
    walk_at "go"
    refine g_I (cmul (a := 31) (b := 100) (by omega) (by omega)) ?_
    walk_at "go"
    refine g_I (powW_ok (b := 300) (by omega) (by omega) (by omega)) ?_
    walk_at "go"
    exact q _

theorem sc__law_well : FnScope ["cell", "k", "seed"] ["cell", "k"] (defScope s__law_well) := ⟨rfl, rfl, rfl, by decide +kernel, rfl, by decide +kernel, by decide +kernel⟩
theorem ok__law_well {f : Addr} {fd : FuncData} (F : FunD K "_law_well" "_law_well" (defArgs s__law_well) (defBody s__law_well) (defScope s__law_well) [] [] f fd) (gm : mg "_law_well" = some (.ref f)) (B : Bas mg) (c__law_stir : Cal P w K mg base CX0 1 "_law_stir" ["seed", "turn"] spStir) : Cal P w K mg base CX0 2 "_law_well" ["cell", "k"] spWell := by
  refine ⟨f, fd, F.ok sc__law_well (fun vs H Q E h => ?_) (fun cdv A outer s H vs Q E hr h => ⟨_, PSs.nox (pss_cons (ps_set (i := 2) sc__law_well.nd rfl (by first | exact Or.inl rfl | exact Or.inr rfl) (pe_op op_add (pe_op op_mulW (pe_op op_mod (pv 0) pe_int) pe_int) (pv 1)))
  (pss_cons (ps_if (pt_cmpR op_ge (pv 0) (pe_op op_powW pe_int pe_int) (nomark _)) (pss_one (ps_ret (pe_lst (pa_cons (pe_op op_sub (pv 0) (pe_op op_powW pe_int pe_int)) (pa_cons (pv 2) (pa_cons pe_int pa_nil))))))
    pss_nil)
  (pss_one (ps_ret (pe_lst (pa_cons (pe_cal c__law_stir (hr.mono (by decide)) rfl pass0 (pa_cons (pv 2) (pa_cons pe_int pa_nil))) (pa_cons (pv 2) (pa_cons pe_int pa_nil)))))))), ?_⟩), gm, F.kp, F.bindsN fun _ _ _ _ _ _ us hl => match us, hl with | [_, _], _ => rfl⟩
  · obtain ⟨s, t, rfl, _⟩ := h; rfl
  · obtain ⟨c, k, rfl, hb, q⟩ := h
    walk_at "go"
    have hc : 0 ≤ c % 7730990200000000000000000000000000000000229 ∧ c % 7730990200000000000000000000000000000000229 < 7730990200000000000000000000000000000000229 := ⟨Int.emod_nonneg _ (by decide), Int.emod_lt_of_pos _ (by decide)⟩
    generalize c % 7730990200000000000000000000000000000000229 = d at hc
    refine g_I (cmul (a := 200) (b := 100) (by omega) (by omega)) ?_
    walk_at "go"
    refine g_I (powW_ok (b := 30) (by omega) (by omega) (by omega)) ?_
    walk_at "go"
    refine g_dec (fun hk => ?_) (fun _ => ?_)
    · walk_at "go"
      refine g_I (powW_ok (b := 30) (by omega) (by omega) (by omega)) ?_
      walk_at "go"
      refine g_lst' (sz (by simp)) fun p hp => ?_
      exact q _ _ hp (same_new hp) ⟨_, _, _, upd_same, by omega, by omega, by omega, by omega⟩
    · walk_at "go"
      refine ⟨_, _, rfl, ⟨by omega, by omega, by omega, by omega⟩, fun r => ?_⟩
      walk_at "go"
      refine g_lst' (sz (by simp)) fun p hp => ?_
      exact q _ _ hp (same_new hp) ⟨_, _, _, upd_same, by omega, by omega, by omega, by omega⟩

theorem sc__law_draw : FnScope ["well", "many", "taken"] ["well", "many"] (defScope s__law_draw) := ⟨rfl, rfl, rfl, by decide +kernel, rfl, by decide +kernel, by decide +kernel⟩
theorem ok__law_draw {f : Addr} {fd : FuncData} (F : FunD K "_law_draw" "_law_draw" (defArgs s__law_draw) (defBody s__law_draw) (defScope s__law_draw) [] [] f fd) (gm : mg "_law_draw" = some (.ref f)) (B : Bas mg) (c__law_stir : Cal P w K mg base CX0 1 "_law_stir" ["seed", "turn"] spStir) : Cal P w K mg base CX0 2 "_law_draw" ["well", "many"] spDraw := by
  refine ⟨f, fd, F.ok sc__law_draw (fun vs H Q E h => ?_) (fun cdv A outer s H vs Q E hr h => ⟨_, PSs.nox (pss_cons (ps_if (pt_cmpR op_eq (pe_ix (ix_lK K rfl) (pv 0) pe_int (fun _ _ => rfl)) pe_int (nomark _)) (pss_cons (ps_asg (pe_op op_add (pe_ix (ix_lK K rfl) (pv 0) pe_int (fun _ _ => rfl)) pe_int) (pg_sub (pv 0) pe_int set_list))
    (pss_one (ps_asg (pe_cal c__law_stir (hr.mono (by decide)) rfl pass0 (pa_cons (pe_ix (ix_lK K rfl) (pv 0) pe_int (fun _ _ => rfl)) (pa_cons (pe_ix (ix_lK K rfl) (pv 0) pe_int (fun _ _ => rfl)) pa_nil))) (pg_sub (pv 0) pe_int set_list))))
    pss_nil)
  (pss_cons (ps_set (i := 2) sc__law_draw.nd rfl (by first | exact Or.inl rfl | exact Or.inr rfl) (pe_op op_mod (pe_ix (ix_lK K rfl) (pv 0) pe_int (fun _ _ => rfl)) (pv 1)))
  (pss_cons (ps_asg (pe_op op_fdivW (pe_ix (ix_lK K rfl) (pv 0) pe_int (fun _ _ => rfl)) (pv 1)) (pg_sub (pv 0) pe_int set_list))
  (pss_one (ps_ret (pv 2)))))), ?_⟩), gm, F.kp, F.bindsN fun _ _ _ _ _ _ us hl => match us, hl with | [_, _], _ => rfl⟩
  · obtain ⟨a, m, n, rfl, _⟩ := h; rfl
  · obtain ⟨a, m, n, rfl, ⟨x, s, t, ha, hb⟩, hm, hn, q⟩ := h
    walk_at "go"
    have fin : ∀ (x' t' : Int), t ≤ t' → t' ≤ t + 1 → Q (.int (x' % m)) (upd H a (.lst [.int (x' / m), .int s, .int t'])) := fun x' t' h1 h2 =>
      q _ _ (Int.emod_nonneg _ (by omega)) (Int.emod_lt_of_pos _ (by omega)) (fun b o hb' eb => (upd_ne hb').trans eb) ⟨_, _, _, upd_same, by omega, by omega, by omega, by omega⟩
    have hd : ∀ z : Int, CDivW z m := fun z => wide_div (b := 100) (by omega) (by omega) (by decide) (by decide)
    refine g_dec (fun hk => ?_) (fun _ => ?_)
    · walk_at "go"
      refine ⟨_, _, rfl, ⟨by omega, by omega, by omega, by omega⟩, fun r => ?_⟩
      walk_at "go"
      refine g_I (hd _) ?_
      walk_at "go"
      rw [upd_upd, upd_upd]
      exact fin r (t + 1) (by omega) (by omega)
    · walk_at "go"
      refine g_I (hd _) ?_
      walk_at "go"
      exact fin x t (by omega) (by omega)

def spWorth : Sp := fun vs H Q _ => ∃ (a : Addr) (n : Int), vs = [.ref a] ∧ Well H a n ∧ n < 900000 ∧ ∀ (i : Int) (H' : Hp), But a H H' → Well H' a (n + 4) → Q (.int i) H'
def spEdge (K : PySem.W.Frag) : Sp := fun vs H Q _ => ∃ (a l : Addr) (n : Int) (names : List Str), vs = [.ref a, .ref l] ∧ Well H a n ∧ n < 900000 ∧ H l = some (.lst (names.map V.str)) ∧ l ≠ a ∧ names ≠ [] ∧ names.length ≤ 60 ∧ (∀ x ∈ names, Tx 8 x) ∧ ∀ (x : Str) (H' : Hp), Tx 9 x → But a H H' → Well H' a (n + 4) → Q (.str x) H'
def spName (K : PySem.W.Frag) : Sp := fun vs H Q _ => ∃ (a l : Addr) (n : Int) (names : List Str), vs = [.ref a, .ref l] ∧ Well H a n ∧ n < 900000 ∧ H l = some (.lst (names.map V.str)) ∧ l ≠ a ∧ names.length ≤ 20 ∧ (∀ x ∈ names, Tx 8 x) ∧ ∀ (x : Str) (H' : Hp), Tx 8 x → x ∉ names → But a H H' → Well H' a (n + 16) → Q (.str x) H'

theorem sc__law_worth : FnScope ["well", "great"] ["well"] (defScope s__law_worth) := ⟨rfl, rfl, rfl, by decide +kernel, rfl, by decide +kernel, by decide +kernel⟩
theorem ok__law_worth {f : Addr} {fd : FuncData} (F : FunD K "_law_worth" "_law_worth" (defArgs s__law_worth) (defBody s__law_worth) (defScope s__law_worth) [] [] f fd) (gm : mg "_law_worth" = some (.ref f)) (B : Bas mg) (c__law_draw : Cal P w K mg base CX0 2 "_law_draw" ["well", "many"] spDraw) : Cal P w K mg base CX0 3 "_law_worth" ["well"] spWorth := by
  refine ⟨f, fd, F.ok sc__law_worth (fun vs H Q E h => ?_) (fun cdv A outer s H vs Q E hr h => ⟨_, PSs.nox (pss_cons (ps_set (i := 1) sc__law_worth.nd rfl (by first | exact Or.inl rfl | exact Or.inr rfl) (pe_op op_add (pe_op op_sub (pe_cal c__law_draw (hr.mono (by decide)) rfl pass0 (pa_cons (pv 0) (pa_cons (pe_op op_sub (pe_op op_mulW pe_int (pe_op op_powW pe_int pe_int)) pe_int) pa_nil))) (pe_op op_powW pe_int pe_int)) pe_int))
  (pss_one (ps_ret (pe_ix (ix_lK K rfl) (pe_lst (pa_cons (pe_cal c__law_draw (hr.mono (by decide)) rfl pass0 (pa_cons (pv 0) (pa_cons pe_int pa_nil))) (pa_cons (pe_op op_sub (pe_cal c__law_draw (hr.mono (by decide)) rfl pass0 (pa_cons (pv 0) (pa_cons pe_int pa_nil))) pe_int) (pa_cons (pv 1) pa_nil)))) (pe_cal c__law_draw (hr.mono (by decide)) rfl pass0 (pa_cons (pv 0) (pa_cons pe_int pa_nil))) (fun _ _ => rfl))))), ?_⟩), gm, F.kp, F.bindsN fun _ _ _ _ _ _ us hl => match us, hl with | [_], _ => rfl⟩
  · obtain ⟨a, n, rfl, _⟩ := h; rfl
  · obtain ⟨a, n, rfl, hw, hn, q⟩ := h
    walk_at "go"
    refine g_I (powW_ok (b := 10) (by omega) (by omega) (by omega)) ?_
    walk_at "go"
    refine g_I (cmul (a := 10) (b := 100) (by omega) (by decide)) ?_
    walk_at "go"
    refine ⟨a, _, _, rfl, hw, ⟨by decide, by decide⟩, by omega, fun r1 H1 a1 b1 c1 w1 => ?_⟩
    walk_at "go"
    refine g_I (powW_ok (b := 10) (by omega) (by omega) (by omega)) ?_
    walk_at "go"
    refine ⟨a, _, _, rfl, w1, ⟨by decide, by decide⟩, by omega, fun r2 H2 a2 b2 c2 w2 => ?_⟩
    walk_at "go"
    refine ⟨a, _, _, rfl, w2, ⟨by decide, by decide⟩, by omega, fun r3 H3 a3 b3 c3 w3 => ?_⟩
    walk_at "go"
    refine g_newL (sz (by simp)) fun L H4 L0 s4 hL => ?_
    walk_at "go"
    refine ⟨a, _, _, rfl, w3.same s4, ⟨by decide, by decide⟩, by omega, fun r4 H5 a4 b4 c4 w5 => ?_⟩
    walk_at "go"
    have La : L ≠ a := fun z => w3.live (by rw [← z]; exact L0)
    have hL5 := c4 _ _ La hL
    have fin : ∀ v, Q (.int v) H5 := fun v => q v H5 (c1.trans (c2.trans (c3.trans ((But.of s4).trans c4)))) (w5.mono (by omega))
    refine g_ixEx hL5 a4 (by exact b4) fun v hv => ?_
    walk_at "go"
    simp only [List.mem_cons, List.not_mem_nil, or_false] at hv
    rcases hv with rfl | rfl | rfl
    · exact fin _
    · exact fin _
    · exact fin _

theorem sc__law_edge : FnScope ["well", "keys", "key"] ["well", "keys"] (defScope s__law_edge) := ⟨rfl, rfl, rfl, by decide +kernel, rfl, by decide +kernel, by decide +kernel⟩
theorem ok__law_edge {f : Addr} {fd : FuncData} (F : FunD K "_law_edge" "_law_edge" (defArgs s__law_edge) (defBody s__law_edge) (defScope s__law_edge) [] [] f fd) (gm : mg "_law_edge" = some (.ref f)) (B : Bas mg) (c__law_draw : Cal P w K mg base CX0 2 "_law_draw" ["well", "many"] spDraw) : Cal P w K mg base CX0 3 "_law_edge" ["well", "keys"] (spEdge K) := by
  refine ⟨f, fd, F.ok sc__law_edge (fun vs H Q E h => ?_) (fun cdv A outer s H vs Q E hr h => ⟨_, PSs.nox (pss_cons (ps_set (i := 2) sc__law_edge.nd rfl (by first | exact Or.inl rfl | exact Or.inr rfl) (pe_ix (ix_lK K rfl) (pv 1) (pe_cal c__law_draw (hr.mono (by decide)) rfl pass0 (pa_cons (pv 0) (pa_cons (pe_callB call_lenQ (by rfl) B.len PySem.boot_len (pa_cons (pv 1) pa_nil)) pa_nil))) (fun _ _ => rfl)))
  (pss_one (ps_ret (pe_ix (ix_lK K rfl) (pe_lst (pa_cons (pv 2) (pa_cons (pv 2) (pa_cons (pe_op op_addSQ (pv 2) pe_str) (pa_cons (pe_slice sl_str (pv 2) po_none (po_some (pe_un un_neg pe_int))) (pa_cons pe_str (pa_cons pe_str (pa_cons pe_str (pa_cons pe_str pa_nil))))))))) (pe_cal c__law_draw (hr.mono (by decide)) rfl pass0 (pa_cons (pv 0) (pa_cons pe_int pa_nil))) (fun _ _ => rfl))))), ?_⟩), gm, F.kp, F.bindsN fun _ _ _ _ _ _ us hl => match us, hl with | [_, _], _ => rfl⟩
  · obtain ⟨a, l, n, names, rfl, _⟩ := h; rfl
  · obtain ⟨a, l, n, names, rfl, hw, hn, hl, la, ne, nl, tx, q⟩ := h
    walk_at "go"
    have hpos : 0 < names.length := List.length_pos_iff.mpr ne
    refine ⟨a, _, _, rfl, hw, ⟨by rw [List.length_map]; omega, by rw [List.length_map]; omega⟩, by omega, fun r1 H1 a1 b1 c1 w1 => ?_⟩
    walk_at "go"
    have hl1 := c1 _ _ la hl
    obtain ⟨v, hv, ev⟩ := atI_ex a1 b1
    obtain ⟨k, hk, rfl⟩ := List.mem_map.mp hv
    refine g_ixL hl1 ev ?_
    walk_at "go"
    have tk := tx k hk
    refine g_addS tk (Tx.mk (n := 1) (by decide +kernel) (by decide +kernel)) (by omega) ?_
    walk_at "go"
    refine g_slS tk (by omega) ?_
    walk_at "go"
    refine g_newL (sz (by simp)) fun L H2 L0 s2 hL => ?_
    walk_at "go"
    refine ⟨a, _, _, rfl, w1.same s2, ⟨by decide, by decide⟩, by omega, fun r4 H5 a4 b4 c4 w5 => ?_⟩
    walk_at "go"
    have La : L ≠ a := fun z => w1.live (by rw [← z]; exact L0)
    have hL5 := c4 _ _ La hL
    have fin : ∀ x, Tx 9 x → Q (.str x) H5 := fun x t => q x H5 t (c1.trans ((But.of s2).trans c4)) (w5.mono (by omega))
    refine g_ixEx hL5 a4 (by exact b4) fun v hv => ?_
    walk_at "go"
    simp only [List.mem_cons, List.not_mem_nil, or_false] at hv
    rcases hv with rfl | rfl | rfl | rfl | rfl | rfl | rfl | rfl
    · exact fin _ (tk.mono (by omega))
    · exact fin _ (tk.mono (by omega))
    · exact fin _ (tk.app (Tx.mk (n := 1) (by decide +kernel) (by decide +kernel)))
    · exact fin _ ((tk.cut _ _).mono (by omega))
    · exact fin _ ⟨by decide +kernel, by decide +kernel⟩
    · exact fin _ ⟨by decide +kernel, by decide +kernel⟩
    · exact fin _ ⟨by decide +kernel, by decide +kernel⟩
    · exact fin _ ⟨by decide +kernel, by decide +kernel⟩
end
end Hs

set_option maxHeartbeats 4000000
namespace Hs
open PySem PySem.Spec PyProof.Rows L2 Sk
section
variable {P : Program} {w : World} {K : PySem.W.Frag} {mg : Str → Option Value} {base : Heap} {CW CD : Addr}
theorem sc__law_new_name : FnScope ["well", "names", "letters", "pick", "letter", "name", "k", "old", "at", "some", "one"] ["well", "names"] (defScope s__law_new_name) := ⟨rfl, rfl, rfl, by decide +kernel, rfl, by decide +kernel, by decide +kernel⟩
theorem ok__law_new_name {f : Addr} {fd : FuncData} (F : FunD K "_law_new_name" "_law_new_name" (defArgs s__law_new_name) (defBody s__law_new_name) (defScope s__law_new_name) [] [] f fd) (gm : mg "_law_new_name" = some (.ref f)) (B : Bas mg) (c__law_draw : Cal P w K mg base CX0 2 "_law_draw" ["well", "many"] spDraw) : Cal P w K mg base CX0 3 "_law_new_name" ["well", "names"] (spName K) := by
  refine ⟨f, fd, F.ok sc__law_new_name (fun vs H Q E h => ?_) (fun cdv A outer s H vs Q E hr h => ⟨_, PSs.nox (pss_cons (ps_set (i := 2) sc__law_new_name.nd rfl (by first | exact Or.inl rfl | exact Or.inr rfl) pe_str)
  (pss_cons (ps_set (i := 3) sc__law_new_name.nd rfl (by first | exact Or.inl rfl | exact Or.inr rfl) (pe_cal c__law_draw (hr.mono (by decide)) rfl pass0 (pa_cons (pv 0) (pa_cons pe_int pa_nil))))
  (pss_cons (ps_set (i := 4) sc__law_new_name.nd rfl (by first | exact Or.inl rfl | exact Or.inr rfl) (pe_ix ix_str (pv 2) (pe_cal c__law_draw (hr.mono (by decide)) rfl pass0 (pa_cons (pv 0) (pa_cons pe_int pa_nil))) (fun _ _ => rfl)))
  (pss_cons (ps_set (i := 5) sc__law_new_name.nd rfl (by first | exact Or.inl rfl | exact Or.inr rfl) (pe_joinQ pe_str (pe_lc (own := [("k", 6)]) rfl sc__law_new_name.nd (pi_range1 rfl B.range (pa_cons (pe_op op_add pe_int (pe_cal c__law_draw (hr.mono (by decide)) rfl pass0 (pa_cons (pv 0) (pa_cons pe_int pa_nil)))) pa_nil)) (blkOk_by (N := ["well", "names", "letters", "pick", "letter", "name", "k", "old", "at", "some", "one"]) (sc := defScope s__law_new_name) (by decide +kernel)) (fun _ _ _ _ _ => (pg_name (i := 6) sc__law_new_name.nd rfl (by first | exact Or.inl rfl | exact Or.inr rfl))) (fun _ _ _ _ _ => pts_nil) (fun _ _ _ _ _ => (pe_ix ix_str (pv 2) (pe_cal c__law_draw (hr.mono (by decide)) rfl pass0 (pa_cons (pv 0) (pa_cons pe_int pa_nil))) (fun _ _ => rfl))))))
  (pss_cons (ps_mark (ps_if (PW.pt (pw_and (pt_cmpR op_gt (pv 3) pe_int (nomark _)) (pw_and1 (pt_cmpR (op_neD hr.units) (pv 1) (pe_lst pa_nil) (nomark _))))) (pss_cons (ps_set (i := 7) sc__law_new_name.nd rfl (by first | exact Or.inl rfl | exact Or.inr rfl) (pe_ix (ix_lK K rfl) (pv 1) (pe_cal c__law_draw (hr.mono (by decide)) rfl pass0 (pa_cons (pv 0) (pa_cons (pe_callB call_lenQ (by rfl) B.len PySem.boot_len (pa_cons (pv 1) pa_nil)) pa_nil))) (fun _ _ => rfl)))
    (pss_cons (ps_set (i := 8) sc__law_new_name.nd rfl (by first | exact Or.inl rfl | exact Or.inr rfl) (pe_cal c__law_draw (hr.mono (by decide)) rfl pass0 (pa_cons (pv 0) (pa_cons (pe_op op_add (pe_callB call_lenSQ (by rfl) B.len PySem.boot_len (pa_cons (pv 7) pa_nil)) pe_int) pa_nil))))
    (pss_one (ps_set (i := 5) sc__law_new_name.nd rfl (by first | exact Or.inl rfl | exact Or.inr rfl) (pe_slice sl_str (pe_op op_addSQ (pe_op op_addSQ (pe_slice sl_str (pv 7) po_none (po_some (pv 8))) (pv 4)) (pe_slice sl_str (pv 7) (po_some (pe_op op_sub (pe_op op_add (pv 8) (pv 3)) pe_int)) po_none)) po_none (po_some pe_int))))))
    pss_nil))
  (pss_cons (ps_set (i := 9) sc__law_new_name.nd rfl (by first | exact Or.inl rfl | exact Or.inr rfl) (pe_op op_cat (pe_op op_cat (pe_lst (pa_cons (pv 5) pa_nil)) (pe_lc (own := [("k", 6)]) rfl sc__law_new_name.nd (pi_range1 rfl B.range (pa_cons pe_int pa_nil)) (blkOk_by (N := ["well", "names", "letters", "pick", "letter", "name", "k", "old", "at", "some", "one"]) (sc := defScope s__law_new_name) (by decide +kernel)) (fun _ _ _ _ _ => (pg_name (i := 6) sc__law_new_name.nd rfl (by first | exact Or.inl rfl | exact Or.inr rfl))) (fun _ _ _ _ _ => pts_nil) (fun _ _ _ _ _ => (pe_ix ix_str (pv 2) (pv 6) (fun _ _ => rfl))))) (pe_lc (own := [("k", 6)]) rfl sc__law_new_name.nd (pi_range1 rfl B.range (pa_cons pe_int pa_nil)) (blkOk_by (N := ["well", "names", "letters", "pick", "letter", "name", "k", "old", "at", "some", "one"]) (sc := defScope s__law_new_name) (by decide +kernel)) (fun _ _ _ _ _ => (pg_name (i := 6) sc__law_new_name.nd rfl (by first | exact Or.inl rfl | exact Or.inr rfl))) (fun _ _ _ _ _ => pts_nil) (fun _ _ _ _ _ => (pe_op op_addSQ (pe_ix ix_str (pv 2) (pv 6) (fun _ _ => rfl)) (pe_ix ix_str (pv 2) (pv 6) (fun _ _ => rfl)))))))
  (pss_one (ps_ret (pe_ix (ix_lK K rfl) (pe_lc (own := [("one", 10)]) rfl sc__law_new_name.nd (pi_list (pv 9)) (blkOk_by (N := ["well", "names", "letters", "pick", "letter", "name", "k", "old", "at", "some", "one"]) (sc := defScope s__law_new_name) (by decide +kernel)) (fun _ _ _ _ _ => (pg_name (i := 10) sc__law_new_name.nd rfl (by first | exact Or.inl rfl | exact Or.inr rfl))) (fun _ _ _ _ _ => pts_one (pt_cmpR (op_notInK K rfl) (pv 10) (pv 1) rfl)) (fun _ _ _ _ _ => (pv 10))) pe_int (fun _ _ => rfl)))))))))), ?_⟩), gm, F.kp, F.bindsN fun _ _ _ _ _ _ us hl => match us, hl with | [_, _], _ => rfl⟩
  · obtain ⟨a, l, n, names, rfl, _⟩ := h; rfl
  · obtain ⟨a, l, n, names, rfl, hw, hn, hl, la, nl, tx, q⟩ := h
    walk_at "go"
    refine ⟨a, _, _, rfl, hw, ⟨by decide, by decide⟩, by omega, fun pick H1 p0 p1 c1 w1 => ?_⟩
    walk_at "go"
    refine ⟨a, _, _, rfl, w1, ⟨by decide, by decide⟩, by omega, fun r2 H2 a2 b2 c2 w2 => ?_⟩
    walk_at "go"
    refine g_abc a2 b2 ?_
    walk_at "go"
    refine g_lcRg1 ?_
    walk_at "go"
    refine ⟨a, _, _, rfl, w2, ⟨by decide, by decide⟩, by omega, fun r3 H3 a3 b3 c3 w3 => ?_⟩
    walk_at "go"
    refine lcRg_by (n := (1 + r3).toNat) (by omega) (by omega) (fun i acc H' => But a H3 H' ∧ Well H' a (n + 3 + i) ∧ ∃ ys : List Str, acc = ys.map V.str ∧ ys.length = i ∧ ∀ y ∈ ys, Tx 1 y) ⟨But.refl, w3.mono (by omega), [], rfl, rfl, fun y hy => (List.not_mem_nil hy).elim⟩ (fun i acc H' _ r => by obtain ⟨_, _, ys, e1, e2, _⟩ := r; rw [e1, List.length_map, e2]; exact Nat.le_refl _) ?_ ?_ ?_
    · rintro D i acc H' o hD ⟨k1, k2, k3⟩
      have Da : D ≠ a := fun z => w3.live (by rw [← z]; exact hD)
      refine ⟨fun b u hb eb => (upd_ne (ne_of_none eb hD)).trans (k1 b u hb eb), ?_, k3⟩
      obtain ⟨x, s1, t, e, bb⟩ := k2
      exact ⟨x, s1, t, (upd_ne (Ne.symm Da)).trans e, bb⟩
    · rintro D i acc H' hD hi ⟨k1, k2, ys, rfl, e2, e3⟩ hl' Rr k
      have Da : D ≠ a := fun z => w3.live (by rw [← z]; exact hD)
      walk_at "go"
      refine ⟨rfl, ?_⟩
      walk_at "go"
      refine ⟨a, _, _, rfl, k2, ⟨by decide, by decide⟩, by omega, fun r4 H4 a4 b4 c4 w4 => ?_⟩
      walk_at "go"
      refine g_abc a4 b4 ?_
      refine k _ _ ⟨k1.trans c4, w4.mono (by omega), ys ++ [chr r4.toNat], by rw [List.map_append]; rfl, by rw [List.length_append, e2]; rfl, fun y hy => ?_⟩ ?_
      · rcases List.mem_append.mp hy with z | z
        · exact e3 y z
        · rw [List.mem_singleton.mp z]; exact Tx.chr (by omega)
      · cases eD : H' D with
        | none => exact (hl' eD).elim
        | some o => exact c4 _ _ Da eD
    rintro D acc H4 hD ⟨k1, k2, ys, rfl, e2, e3⟩ eD
    walk_at "go"
    refine g_join eD e3 (by omega) ?_
    have tn : Tx 8 (Txt.join Str.empty ys) := (Tx.glued e3).mono (by omega)
    have hl4 : H4 l = _ := k1 _ _ la (c3 _ _ la (c2 _ _ la (c1 _ _ la hl)))
    have w4 : Well H4 a (n + 11) := k2.mono (by omega)
    have c4 : But a H H4 := c1.trans (c2.trans (c3.trans k1))
    generalize Txt.join Str.empty ys = name at tn
    clear e3 e2 eD k2 k1 w3 w2 w1
    have tl : Tx 1 (chr r2.toNat) := Tx.chr (by omega)
    generalize chr r2.toNat = letter at tl
    walk_at "go"
    refine g_mid (fun σ' H' => (∃ x6 x7 x8 x9 x10 nm, σ' = [some (.ref a), some (.ref l), some (.str abc), some (.int pick), some (.str letter), some (.str nm), x6, x7, x8, x9, x10] ∧ Tx 8 nm) ∧ But a H H' ∧ Well H' a (n + 13)) ?_ fun N rest => ?_
    · rintro σ' H5 ⟨⟨x6, x7, x8, x9, x10, nm, rfl, tn⟩, c5, w5⟩
      walk_at "go"
      have hl5 := c5 _ _ la hl
      refine g_newL (sz (by simp)) fun L1 H6 L0 s6 hL1 => ?_
      walk_at "go"
      refine g_lcRg1 ?_
      walk_at "go"
      refine lcRg_to (n := 26) rfl (by decide) (fun k => .str (chr k)) ?_ ?_
      · intro i H' hi s' R r
        walk_at "go"
        refine ⟨rfl, ?_⟩
        walk_at "go"
        refine g_abc (by omega) (by omega) ?_
        exact r H' (Same.refl _)
      intro L2 H7 L20 s7 hL2
      walk_at "go"
      have hL17 := s7 _ _ hL1
      refine g_newC hL17 hL2 (by rw [sizeLine_eq]; simp) fun L3 H8 L30 s8 hL3 => ?_
      walk_at "go"
      refine g_lcRg1 ?_
      walk_at "go"
      refine lcRg_to (n := 26) rfl (by decide) (fun k => .str (chr k ++ chr k)) ?_ ?_
      · intro i H' hi s' R r
        walk_at "go"
        refine ⟨rfl, ?_⟩
        walk_at "go"
        refine g_abc (by omega) (by omega) ?_
        walk_at "go"
        refine g_abc (by omega) (by omega) ?_
        walk_at "go"
        refine g_addS (Tx.chr (by omega)) (Tx.chr (by omega)) (by omega) ?_
        exact r H' (Same.refl _)
      intro L4 H9 L40 s9 hL4
      walk_at "go"
      refine g_newC (s9 _ _ hL3) hL4 (by rw [sizeLine_eq]; simp) fun L5 H10 L50 s10 hL5 => ?_
      walk_at "go"
      have s510 : Same H5 H10 := s6.trans (s7.trans (s8.trans (s9.trans s10)))
      obtain ⟨somes, es, ts, abcin⟩ : ∃ somes : List Str, ([V.str nm] ++ (List.range 26).map (fun k => V.str (chr k)) ++ (List.range 26).map fun k => V.str (chr k ++ chr k)) = somes.map V.str ∧ (∀ x ∈ somes, Tx 8 x) ∧ ∀ k, k < 26 → chr k ∈ somes := by
        refine ⟨[nm] ++ (List.range 26).map chr ++ (List.range 26).map (fun k => chr k ++ chr k), by simp only [List.map_append, List.map_cons, List.map_nil, List.map_map]; rfl, fun x hx => ?_, fun k hk => ?_⟩
        · rcases List.mem_append.mp hx with z | z
          · rcases List.mem_append.mp z with z | z
            · rw [List.mem_singleton.mp z]; exact tn
            · obtain ⟨k, hk, rfl⟩ := List.mem_map.mp z
              exact (Tx.chr (List.mem_range.mp hk)).mono (by omega)
          · obtain ⟨k, hk, rfl⟩ := List.mem_map.mp z
            exact ((Tx.chr (List.mem_range.mp hk)).app (Tx.chr (List.mem_range.mp hk))).mono (by omega)
        · exact List.mem_append_left _ (List.mem_append_right _ (List.mem_map_of_mem (List.mem_range.mpr hk)))
      have ls : somes.length = 53 := by
        have := congrArg List.length es
        simpa using this.symm
      rw [es] at hL5
      refine g_lcL ?_
      walk_at "go"
      refine lcL_to (SqL.of hL5) (somes.map fun x => if x ∈ names then none else some (V.str x)) (by simp) (by rw [List.length_map, ls, sizeLine_eq]; decide) ?_ ?_
      · intro i x y H' hx hy s' R r
        rw [List.getElem?_map] at hx hy
        cases hz : somes[i]? with
        | none => rw [hz] at hx; cases hx
        | some z =>
          rw [hz] at hx hy
          injection hx with hx
          injection hy with hy
          subst hx hy
          have hl' := s' _ _ (s510 _ _ hl5)
          walk_at "go"
          refine ⟨rfl, ?_⟩
          walk_at "go"
          refine g_notinStrs hl' ?_
          walk_at "go"
          refine g_ndec (fun c => ?_) (fun c => ?_)
          · have : R (if z ∈ names then none else some (V.str z)) H' := r H' (Same.refl _)
            rw [if_pos c] at this
            exact this
          · walk_at "go"
            have : R (if z ∈ names then none else some (V.str z)) H' := r H' (Same.refl _)
            rw [if_neg c] at this
            exact this
      intro L6 H11 L60 s11 hL6
      walk_at "go"
      have ex : ∃ x r, ((somes.map fun x => if x ∈ names then none else some (V.str x)).filterMap id) = V.str x :: r ∧ x ∈ somes ∧ x ∉ names := by
        cases e : (somes.map fun x => if x ∈ names then none else some (V.str x)).filterMap id with
        | nil =>
          exfalso
          have all : ∀ k, k < 26 → chr k ∈ names := fun k hk => by
            by_cases c : chr k ∈ names
            · exact c
            · exfalso
              have m : V.str (chr k) ∈ (somes.map fun x => if x ∈ names then none else some (V.str x)).filterMap id := by
                rw [List.mem_filterMap]
                refine ⟨some (.str (chr k)), List.mem_map.mpr ⟨chr k, abcin k hk, by rw [if_neg c]⟩, rfl⟩
              rw [e] at m
              exact List.not_mem_nil m
          have nd : ((List.range 26).map chr).Nodup := by decide +kernel
          have := Hs.nodup_sub_len nd (ys := names) fun x hx => by
            obtain ⟨k, hk, rfl⟩ := List.mem_map.mp hx
            exact all k (List.mem_range.mp hk)
          rw [List.length_map, List.length_range] at this
          omega
        | cons v r =>
          have m : v ∈ (somes.map fun x => if x ∈ names then none else some (V.str x)).filterMap id := by rw [e]; exact List.mem_cons_self
          rw [List.mem_filterMap] at m
          obtain ⟨o, ho, eo⟩ := m
          obtain ⟨x, hx, rfl⟩ := List.mem_map.mp ho
          by_cases c : x ∈ names
          · rw [if_pos c] at eo; cases eo
          · rw [if_neg c] at eo
            have eo' : V.str x = v := by simpa using eo
            exact ⟨x, r, by rw [eo'], hx, c⟩
      obtain ⟨x, r, ex1, ex2, ex3⟩ := ex
      rw [ex1] at hL6
      refine g_ixL hL6 (atI_nat (j := 0) rfl) ?_
      walk_at "go"
      exact q x H11 (ts x ex2) ex3 (c5.trans (But.of (s510.trans s11))) ((w5.same (s510.trans s11)).mono (by omega))
    walk_at "go"
    refine g_dec (fun c => ?_) (fun c => ?_)
    · walk_at "go"
      refine g_newL sz0 fun E H5 E0 s5 hE => ?_
      walk_at "go"
      have hl5 := s5 _ _ hl4
      refine ⟨.list (strsD names), .list [], .lst (SqL.of hl5) (strsDp names), .lst (SqL.of hE) .nil, strs_shaped fun x hx => (tx x hx).ok, rfl, ?_⟩
      walk_at "go"
      cases names with
      | nil =>
        show if (!true) = true then _ else _
        walk_at "go"
        exact rest _ _ ⟨⟨_, _, _, _, _, _, rfl, tn⟩, c4.trans (But.of s5), (w4.same s5).mono (by omega)⟩
      | cons nm0 nms =>
        show if (!false) = true then _ else _
        walk_at "go"
        refine ⟨a, _, _, rfl, w4.same s5, ⟨by rw [List.length_map, List.length_cons]; omega, by rw [List.length_map]; omega⟩, by omega, fun r6 H6 a6 b6 c6 w6 => ?_⟩
        walk_at "go"
        have hl6 := c6 _ _ la hl5
        refine g_ixEx hl6 a6 b6 fun v hv => ?_
        obtain ⟨old, ho, rfl⟩ := List.mem_map.mp hv
        have to := tx old ho
        walk_at "go"
        refine g_lenS to (by omega) ?_
        walk_at "go"
        have hlo := to.le
        refine ⟨a, _, _, rfl, w6, ⟨by omega, by omega⟩, by omega, fun r7 H7 a7 b7 c7 w7 => ?_⟩
        walk_at "go"
        refine g_slS to (by omega) ?_
        walk_at "go"
        refine g_addS (to.cut _ _) tl (by omega) ?_
        walk_at "go"
        refine g_slS to (by omega) ?_
        walk_at "go"
        refine g_addS ((to.cut _ _).app tl) (to.cut _ _) (by omega) ?_
        walk_at "go"
        have tt := ((to.cut none (some r7)).app tl).app (to.cut (some (r7 + pick - 1)) none)
        refine g_slS tt (by omega) ?_
        walk_at "go"
        exact rest _ _ ⟨⟨_, _, _, _, _, _, rfl, tt.cutTo 8⟩, c4.trans ((But.of s5).trans (c6.trans c7)), w7.mono (by omega)⟩
    · walk_at "go"
      exact rest _ _ ⟨⟨_, _, _, _, _, _, rfl, tn⟩, c4, w4.mono (by omega)⟩
end
end Hs

set_option maxHeartbeats 4000000
local macro_rules | `(tactic| walk_at "gs1") => `(tactic| first
  | walk_at "g1"
  | ((with_reducible refine' Sk.g_dgetS ?gvh (Hs.sk_base _ _) ?_); (case gvh => walk_at "lk"))
  | ((with_reducible refine' Sk.g_dgetS ?gvh (Hs.sk_start _ _) ?_); (case gvh => walk_at "lk"))
  | ((with_reducible refine' Sk.g_dgetS ?gvh (Hs.sk_kept _ _) ?_); (case gvh => walk_at "lk"))
  | ((with_reducible refine' Sk.g_dgetS ?gvh (Hs.sk_open _ _) ?_); (case gvh => walk_at "lk")))
local macro_rules | `(tactic| walk_at "gs") => `(tactic| repeat (walk_at "gs1"))
namespace Hs
open PySem PySem.Spec PyProof.Rows L2 Sk
section
variable {P : Program} {w : World} {K : PySem.W.Frag} {mg : Str → Option Value} {base : Heap} {CW CD : Addr}
def spSees : Sp := fun vs H Q _ => ∃ (G : Hp) (p : Addr) (s : St) (a : Sa) (ks : List Str) (n : Nat) (d : Int) (st : Int) (own : Wr) (k : Str), vs = [.ref p, .int d, .str k] ∧ StAt G H p s a ∧ SOk ks n s ∧ n ≤ 1000 ∧ s.find d = some (st, own) ∧ ∀ H', Same H H' → Q (wV (seesL s st own k)) H'
def spKeys : Sp := fun vs H Q _ => ∃ (G : Hp) (p : Addr) (s : St) (a : Sa) (ks : List Str) (n : Nat) (d : Int) (st : Int) (own : Wr), vs = [.ref p, .int d] ∧ StAt G H p s a ∧ SOk ks n s ∧ n ≤ 1000 ∧ KsOk ks ∧ s.find d = some (st, own) ∧ ∀ (ys : List Str) (R : Addr) (H' : Hp), (∀ k, seesL s st own k ≠ none → k ∈ ys) → (∀ k ∈ ys, k ∈ ks) → ys.Nodup → (ys.Pairwise fun a b => ¬ sL b a) → H R = none → Same H H' → H' R = some (.lst (ys.map V.str)) → Q (.ref R) H'
def spScan : Sp := fun vs H Q _ => ∃ (G : Hp) (p : Addr) (s : St) (a : Sa) (ks : List Str) (n : Nat) (d : Int) (st : Int) (own : Wr) (lo hi : Str), vs = [.ref p, .int d, .str lo, .str hi] ∧ StAt G H p s a ∧ SOk ks n s ∧ n ≤ 1000 ∧ KsOk ks ∧ s.find d = some (st, own) ∧ ∀ (rows : List (Str × Int)) (G' H' : Hp) (R : Addr), IsScan s st own lo hi rows → (∀ x ∈ rows, x.1 ∈ ks) → Grow G H G' H' → RowsAt G' (.ref R) rows → Q (.ref R) H'
def spFreeL : Sp := fun vs H Q _ => ∃ (G : Hp) (p : Addr) (s : St) (a : Sa) (ks : List Str) (n : Nat) (d : Int) (st : Int) (own : Wr) (k : Str), vs = [.ref p, .int d, .str k] ∧ StAt G H p s a ∧ SOk ks n s ∧ n ≤ 1000 ∧ KsOk ks ∧ s.find d = some (st, own) ∧ ∀ (b : Bool) (H' : Hp), (b = true ↔ freeK s d st k) → Same H H' → Q (.bl b) H'
def spPlaces : Sp := fun vs H Q _ => ∃ (G : Hp) (p : Addr) (s : St) (a : Sa), vs = [.ref p] ∧ StAt G H p s a ∧ Q (.int s.last) H

theorem sc__law_places : FnScope ["state"] ["state"] (defScope s__law_places) := ⟨rfl, rfl, rfl, by decide +kernel, rfl, by decide +kernel, by decide +kernel⟩
theorem ok__law_places {f : Addr} {fd : FuncData} (F : FunD K "_law_places" "_law_places" (defArgs s__law_places) (defBody s__law_places) (defScope s__law_places) [] [] f fd) (gm : mg "_law_places" = some (.ref f)) (B : Bas mg)  : Cal P w K mg base CX0 1 "_law_places" ["state"] spPlaces := by
  refine ⟨f, fd, F.ok sc__law_places (fun vs H Q E h => ?_) (fun cdv A outer s H vs Q E hr h => ⟨_, PSs.nox (pss_one (ps_ret (pe_op op_add (pe_dget (hu_of hr) (pv 0) pe_str (fun _ _ => rfl)) (pe_callB call_lenQ (by rfl) B.len PySem.boot_len (pa_cons (pe_dget (hu_of hr) (pv 0) pe_str (fun _ _ => rfl)) pa_nil))))), ?_⟩), gm, F.kp, F.bindsN fun _ _ _ _ _ _ us hl => match us, hl with | [_], _ => rfl⟩
  · obtain ⟨G, p, s, a, rfl, _⟩ := h; rfl
  · obtain ⟨G, p, s, a, rfl, hs, q⟩ := h
    have hob := hs.ob
    have hkp := hs.kp
    walk_at "gs"
    have el : (s.kept.length : Int) = ((a.kl.map fun e => V.ref e.T).length : Int) := by rw [List.length_map, ← hs.ks, List.length_map]
    unfold St.last at q
    rw [el] at q
    exact q

theorem sc__law_sees : FnScope ["state", "dealing", "key", "stand", "own", "worth", "one", "writes", "name", "number"] ["state", "dealing", "key"] (defScope s__law_sees) := ⟨rfl, rfl, rfl, by decide +kernel, rfl, by decide +kernel, by decide +kernel⟩
theorem ok__law_sees {f : Addr} {fd : FuncData} (F : FunD K "_law_sees" "_law_sees" (defArgs s__law_sees) (defBody s__law_sees) (defScope s__law_sees) [] [] f fd) (gm : mg "_law_sees" = some (.ref f)) (B : Bas mg)  : Cal P w K mg base CX0 1 "_law_sees" ["state", "dealing", "key"] spSees := by
  refine ⟨f, fd, F.ok sc__law_sees (fun vs H Q E h => ?_) (fun cdv A outer s H vs Q E hr h => ⟨_, PSs.nox (pss_cons (ps_asg (pe_dget (hu_of hr) (pe_dget (hu_of hr) (pv 0) pe_str (fun _ _ => rfl)) (pv 1) (fun _ _ => rfl)) (pg_tup rfl (pgs_cons (pg_name (i := 3) sc__law_sees.nd rfl (by first | exact Or.inl rfl | exact Or.inr rfl)) (pgs_cons (pg_name (i := 4) sc__law_sees.nd rfl (by first | exact Or.inl rfl | exact Or.inr rfl)) pgs_nil))))
  (pss_cons (ps_set (i := 5) sc__law_sees.nd rfl (by first | exact Or.inl rfl | exact Or.inr rfl) (pe_dget1 (hu_of hr) (pe_dget (hu_of hr) (pv 0) pe_str (fun _ _ => rfl)) (pv 2) ⟨rfl, rfl, rfl, rfl⟩))
  (pss_cons (ps_for PassesOwn.never rfl (pi_list (pe_op op_cat (pe_slice sl_list (pe_dget (hu_of hr) (pv 0) pe_str (fun _ _ => rfl)) po_none (po_some (pe_op op_sub (pv 3) (pe_dget (hu_of hr) (pv 0) pe_str (fun _ _ => rfl))))) (pe_lst (pa_cons (pe_tup (pa_cons (pv 1) (pa_cons (pv 4) pa_nil))) pa_nil)))) (pg_tup rfl (pgs_cons (pg_name (i := 6) sc__law_sees.nd rfl (by first | exact Or.inl rfl | exact Or.inr rfl)) (pgs_cons (pg_name (i := 7) sc__law_sees.nd rfl (by first | exact Or.inl rfl | exact Or.inr rfl)) pgs_nil)))
    (pss_one (ps_for PassesOwn.never rfl (pi_list (pv 7)) (pg_tup rfl (pgs_cons (pg_name (i := 8) sc__law_sees.nd rfl (by first | exact Or.inl rfl | exact Or.inr rfl)) (pgs_cons (pg_name (i := 9) sc__law_sees.nd rfl (by first | exact Or.inl rfl | exact Or.inr rfl)) pgs_nil)))
      (pss_one (ps_if (pt_cmpR op_eq (pv 8) (pv 2) (nomark _)) (pss_one (ps_set (i := 5) sc__law_sees.nd rfl (by first | exact Or.inl rfl | exact Or.inr rfl) (pv 9)))
        pss_nil)))))
  (pss_one (ps_ret (pv 5)))))), ?_⟩), gm, F.kp, F.bindsN fun _ _ _ _ _ _ us hl => match us, hl with | [_, _, _], _ => rfl⟩
  · obtain ⟨G, p, s, a, ks, n, d, st, own, k, rfl, _⟩ := h; rfl
  · obtain ⟨G, p, s, a, ks, n, d, st, own, k, rfl, hs, ok, hn, f, q⟩ := h
    obtain ⟨y, hy, e1, e2, e3, e4⟩ := hs.find f
    simp only at e2 e3
    subst e1 e2 e3
    obtain ⟨oT, oW, oP⟩ := hs.oe y hy
    have oT1 := hs.gh _ _ oT
    have hob := hs.ob
    have hop := hs.op
    have hkp := hs.kp
    have bd := ok.lo _ (hs.memOp hy)
    have b1 : s.base ≤ y.st := bd.1
    have ei : y.st - s.base = ((s.ofs y.st : Nat) : Int) := by
      unfold St.ofs
      omega
    walk_at "gs"
    refine g_dgetI hop e4 ?_
    refine g_gTup (SqT.of oT1) rfl ?_
    walk_at "gs"
    have hA := hs.gh _ _ hs.sa
    refine ⟨a.A, rfl, isD_k hA, ?_⟩
    walk_at "gs"
    refine ⟨_, DGet.k (k := Sum.inr k) hA, ?_⟩
    have ew : (valV s.startK (Sum.inr k)).getD .non = wV (start? s.start k) := by
      unfold St.startK
      rw [worth_rows]
      cases start? s.start k <;> rfl
    rw [ew]
    walk_at "gs"
    rw [ei]
    refine g_slTo hkp fun L1 L10 => ?_
    have hL1 : upd H L1 (.lst ((a.kl.map fun e => V.ref e.T).take (s.ofs y.st))) L1 = _ := upd_same
    have s1 : Same H (upd H L1 (.lst ((a.kl.map fun e => V.ref e.T).take (s.ofs y.st)))) := same_new L10
    generalize upd H L1 (.lst ((a.kl.map fun e => V.ref e.T).take (s.ofs y.st))) = H1 at hL1 s1 ⊢
    walk_at "gs"
    refine g_newT (sz (by simp)) fun T H2 T0 s2 hT => ?_
    walk_at "gs"
    refine g_newL (sz (by simp)) fun L2 H3 L20 s3 hL2 => ?_
    walk_at "gs"
    have kl : a.kl.length = s.kept.length := by rw [← hs.ks, List.length_map]
    have kn := ok.kn
    refine g_newC (s3 _ _ (s2 _ _ hL1)) hL2 (by rw [sizeLine_eq, List.length_take, List.length_map]; simp; omega) fun L3 H4 L30 s4 hL3 => ?_
    walk_at "gs"
    have s13 : Same H H4 := s1.trans (s2.trans (s3.trans s4))
    have pw : Paired (WsAt G H4) ((a.kl.map fun e => V.ref e.T).take (s.ofs y.st) ++ [V.ref T]) ((s.kept.take (s.ofs y.st)).map (·.2) ++ [y.own]) := by
      refine Paired.app ?_ (.cons ⟨T, y.d, y.W, y.ws, rfl, s4 _ _ (s3 _ _ hT), s13 _ _ oW, oP⟩ .nil)
      rw [List.map_take]
      exact Paired.imp (fun _ _ z => z.same s13) (Paired.tak _ hs.wss)
    rw [sees_fold] at q
    generalize (a.kl.map fun e => V.ref e.T).take (s.ofs y.st) ++ [V.ref T] = xs at pw hL3
    generalize (s.kept.take (s.ofs y.st)).map (·.2) ++ [y.own] = wrs at pw q
    refine forL_by (SqL.of hL3) (fun i σ' H' => (∃ x6 x7 x8 x9, σ' = [some (.ref p), some (.int y.d), some (.str k), some (.int y.st), some (.ref y.W), some (wV ((wrs.take i).foldl (fun a wr => seesW a wr k) (start? s.start k))), x6, x7, x8, x9]) ∧ Same H4 H') ⟨⟨_, _, _, _, rfl⟩, Same.refl _⟩ (fun i σ' H' _ p => SqL.of (p.2 _ _ hL3)) ?_ ?_
    · rintro i x σ' H' hx ⟨⟨x6, x7, x8, x9, rfl⟩, sH⟩
      obtain ⟨wr, hwr, ha⟩ := Paired.at' pw hx
      obtain ⟨t, d, W, ws, rfl, h1, h2, h3⟩ := ha.same sH
      refine g_gTup (SqT.of h1) rfl ?_
      walk_at "gs"
      have e0 : (wrs.take (i + 1)).foldl (fun a wr => seesW a wr k) (start? s.start k) = seesW ((wrs.take i).foldl (fun a wr => seesW a wr k) (start? s.start k)) wr k := by rw [take_snoc hwr, List.foldl_append]; rfl
      rw [e0]
      generalize (wrs.take i).foldl (fun a wr => seesW a wr k) (start? s.start k) = w0
      refine forL_by (SqL.of h2) (fun j σ' H'' => (∃ x8 x9, σ' = [some (.ref p), some (.int y.d), some (.str k), some (.int y.st), some (.ref y.W), some (wV (seesW w0 (wr.take j) k)), some (.int d), some (.ref W), x8, x9]) ∧ Same H' H'') ⟨⟨_, _, rfl⟩, Same.refl _⟩ (fun i σ' H' _ p => SqL.of (p.2 _ _ h2)) ?_ ?_
      · rintro j x σ' H'' hx' ⟨⟨y8, y9, rfl⟩, sH'⟩
        obtain ⟨z, hz, t', rfl, ht'⟩ := Paired.at' h3 hx'
        have tt := sH' _ _ (sH _ _ (s13 _ _ (hs.gh _ _ ht')))
        refine g_gTup (SqT.of tt) rfl ?_
        walk_at "gs"
        have e1 : seesW w0 (wr.take (j + 1)) k = if z.1 = k then z.2 else seesW w0 (wr.take j) k := by unfold seesW; rw [take_snoc hz, List.foldl_append]; rfl
        refine g_dec (fun c => ?_) (fun c => ?_)
        · walk_at "gs"
          refine ⟨?_, sH'⟩
          rw [e1, if_pos (V.str.inj c)]
          exact ⟨_, _, rfl⟩
        · walk_at "gs"
          refine ⟨?_, sH'⟩
          rw [e1, if_neg (fun z => c (by rw [z]))]
          exact ⟨_, _, rfl⟩
      · rintro σ' H'' ⟨⟨y8, y9, rfl⟩, sH'⟩
        refine ⟨?_, sH.trans sH'⟩
        rw [Paired.len h3, List.take_length]
        exact ⟨_, _, _, _, rfl⟩
    · rintro σ' H' ⟨⟨x6, x7, x8, x9, rfl⟩, sH⟩
      walk_at "gs"
      have := q H' (s13.trans sH)
      rw [Paired.len pw, List.take_length]
      exact this
end
end Hs

set_option maxHeartbeats 4000000
namespace Hs
open PySem PySem.Spec PyProof.Rows L2 Sk
section
variable {P : Program} {w : World} {K : PySem.W.Frag} {mg : Str → Option Value} {base : Heap} {CW CD : Addr}
def Has (kvs : Dk) (k : Str) : Prop := valV kvs (Sum.inr k) ≠ none
theorem Has.put {kvs : Dk} {k j : Str} {v : V} (h : Has kvs k ∨ k = j) : Has (putK kvs (Sum.inr j) v) k := by
  unfold Has
  rw [valV_put]
  by_cases c : k = j
  · rw [if_pos (by rw [c])]; simp
  · rw [if_neg (fun z => c (Sum.inr.inj z))]
    rcases h with h | h
    · exact h
    · exact (c h).elim

theorem sc__law_keys_of : FnScope ["state", "dealing", "found", "one", "writes", "name", "number"] ["state", "dealing"] (defScope s__law_keys_of) := ⟨rfl, rfl, rfl, by decide +kernel, rfl, by decide +kernel, by decide +kernel⟩
theorem ok__law_keys_of {f : Addr} {fd : FuncData} (F : FunD K "_law_keys_of" "_law_keys_of" (defArgs s__law_keys_of) (defBody s__law_keys_of) (defScope s__law_keys_of) [] [] f fd) (gm : mg "_law_keys_of" = some (.ref f)) (B : Bas mg)  : Cal P w K mg base CX0 1 "_law_keys_of" ["state", "dealing"] spKeys := by
  refine ⟨f, fd, F.ok sc__law_keys_of (fun vs H Q E h => ?_) (fun cdv A outer s H vs Q E hr h => ⟨_, PSs.nox (pss_cons (ps_set (i := 2) sc__law_keys_of.nd rfl (by first | exact Or.inl rfl | exact Or.inr rfl) (pe_callTy call_dictDQ (by rfl) B.dict (by decide +kernel) (pa_cons (pe_dget (hu_of hr) (pv 0) pe_str (fun _ _ => rfl)) pa_nil)))
  (pss_cons (ps_for PassesOwn.never rfl (pi_list (pe_op op_cat (pe_dget (hu_of hr) (pv 0) pe_str (fun _ _ => rfl)) (pe_lst (pa_cons (pe_tup (pa_cons (pv 1) (pa_cons (pe_ix (ix_tK K rfl) (pe_dget (hu_of hr) (pe_dget (hu_of hr) (pv 0) pe_str (fun _ _ => rfl)) (pv 1) (fun _ _ => rfl)) pe_int (fun _ _ => rfl)) pa_nil))) pa_nil)))) (pg_tup rfl (pgs_cons (pg_name (i := 3) sc__law_keys_of.nd rfl (by first | exact Or.inl rfl | exact Or.inr rfl)) (pgs_cons (pg_name (i := 4) sc__law_keys_of.nd rfl (by first | exact Or.inl rfl | exact Or.inr rfl)) pgs_nil)))
    (pss_one (ps_for PassesOwn.never rfl (pi_list (pv 4)) (pg_tup rfl (pgs_cons (pg_name (i := 5) sc__law_keys_of.nd rfl (by first | exact Or.inl rfl | exact Or.inr rfl)) (pgs_cons (pg_name (i := 6) sc__law_keys_of.nd rfl (by first | exact Or.inl rfl | exact Or.inr rfl)) pgs_nil)))
      (pss_one (ps_dput (hu_of hr) (pv 2) (pv 5) pe_bl rfl)))))
  (pss_one (ps_ret (pe_callB (call_sortDQ rfl) (by rfl) B.sorted (by decide +kernel) (pa_cons (pv 2) pa_nil)))))), ?_⟩), gm, F.kp, F.bindsN fun _ _ _ _ _ _ us hl => match us, hl with | [_, _], _ => rfl⟩
  · obtain ⟨G, p, s, a, ks, n, d, st, own, rfl, _⟩ := h; rfl
  · obtain ⟨G, p, s, a, ks, n, d, st, own, rfl, hs, ok, hn, hk, f, q⟩ := h
    obtain ⟨y, hy, e1, e2, e3, e4⟩ := hs.find f
    simp only at e2 e3
    subst e1 e2 e3
    obtain ⟨oT, oW, oP⟩ := hs.oe y hy
    have oT1 := hs.gh _ _ oT
    have hob := hs.ob
    have hop := hs.op
    have hkp := hs.kp
    have hA := hs.gh _ _ hs.sa
    walk_at "gs"
    refine g_dictD hA fun F F0 => ?_
    have s1 : Same H (upd H F (.dK s.startK)) := same_new F0
    have hF1 : upd H F (.dK s.startK) F = _ := upd_same
    generalize upd H F (.dK s.startK) = H1 at s1 hF1 ⊢
    have hob1 := s1 _ _ hob
    have hop1 := s1 _ _ hop
    have hkp1 := s1 _ _ hkp
    walk_at "gs"
    refine g_dgetI hop1 e4 ?_
    walk_at "gs"
    refine g_ixT (s1 _ _ oT1) (atI_nat (j := 1) rfl) ?_
    walk_at "gs"
    refine g_newT (sz (by simp)) fun T H2 T0 s2 hT => ?_
    walk_at "gs"
    refine g_newL (sz (by simp)) fun L2 H3 L20 s3 hL2 => ?_
    walk_at "gs"
    have kl : a.kl.length = s.kept.length := by rw [← hs.ks, List.length_map]
    have kn := ok.kn
    refine g_newC (s3 _ _ (s2 _ _ hkp1)) hL2 (by rw [sizeLine_eq, List.length_map]; simp; omega) fun L3 H4 L30 s4 hL3 => ?_
    walk_at "gs"
    have s14 : Same H1 H4 := s2.trans (s3.trans s4)
    have s04 : Same H H4 := s1.trans s14
    have pw : Paired (WsAt G H4) ((a.kl.map fun e => V.ref e.T) ++ [V.ref T]) (s.kept.map (·.2) ++ [y.own]) :=
      Paired.app (Paired.imp (fun _ _ z => z.same s04) hs.wss) (.cons ⟨T, y.d, y.W, y.ws, rfl, s4 _ _ (s3 _ _ hT), s04 _ _ oW, oP⟩ .nil)
    have hF4 := s14 _ _ hF1
    have wks : ∀ wr ∈ s.kept.map (·.2) ++ [y.own], ∀ z ∈ wr, z.1 ∈ ks := fun wr hwr => by
      rcases List.mem_append.mp hwr with z | z
      · obtain ⟨x, hx, rfl⟩ := List.mem_map.mp z
        exact ok.kk x hx
      · rw [List.mem_singleton.mp z]; exact ok.ok _ (hs.memOp hy)
    have hin : ∀ k, seesL s y.st y.own k ≠ none → k ∈ s.start.map (·.1) ∨ ∃ wr ∈ s.kept.map (·.2) ++ [y.own], hasK wr k := fun k h => by
      rcases sees_has h with z | ⟨x, hx, z⟩ | z
      · exact .inl z
      · exact .inr ⟨x.2, List.mem_append_left _ (List.mem_map_of_mem hx), z⟩
      · exact .inr ⟨y.own, List.mem_append_right _ (List.mem_singleton.mpr rfl), z⟩
    generalize (a.kl.map fun e => V.ref e.T) ++ [V.ref T] = xs at pw hL3
    generalize s.kept.map (·.2) ++ [y.own] = wrs at pw wks hin
    have hst : ∀ k ∈ s.start.map (·.1), Has s.startK k := fun k hk' => by
      obtain ⟨x, hx, e⟩ := List.mem_map.mp hk'
      unfold Has
      intro z
      refine valV_not z ?_
      refine List.mem_map.mpr ⟨(Sum.inr x.1, .int x.2), List.mem_map_of_mem hx, by rw [← e]⟩
    have notF : ∀ {b o}, H4 b = some o → (∀ kvs, o ≠ .dK kvs) → b ≠ F := fun e n => ne_val e hF4 (n _)
    refine forL_by (SqL.of hL3) (fun i σ' H' => (∃ x3 x4 x5 x6, σ' = [some (.ref p), some (.int y.d), some (.ref F), x3, x4, x5, x6]) ∧ But F H4 H' ∧ ∃ kvs, H' F = some (.dK kvs) ∧ DkOk ks kvs ∧ (∀ k ∈ s.start.map (·.1), Has kvs k) ∧ ∀ wr ∈ wrs.take i, ∀ k, hasK wr k → Has kvs k) ⟨⟨_, _, _, _, rfl⟩, But.refl, _, hF4, ok.startK, hst, fun wr hwr => (List.not_mem_nil hwr).elim⟩ (fun i σ' H' _ p => SqL.of (p.2.1.seen hL3 (notF hL3 fun _ z => nomatch z))) ?_ ?_
    · rintro i x σ' H' hx ⟨⟨x3, x4, x5, x6, rfl⟩, bH, kvs, hF, dk, k1, k2⟩
      obtain ⟨wr, hwr, ha⟩ := Paired.at' pw hx
      obtain ⟨t, d', W, ws, rfl, h1, h2, h3⟩ := ha
      refine g_gTup (SqT.of (bH.seen h1 (notF h1 fun _ z => nomatch z))) rfl ?_
      walk_at "gs"
      have h2' := bH.seen h2 (notF h2 fun _ z => nomatch z)
      have wk := wks wr (List.mem_of_getElem? hwr)
      refine forL_by (SqL.of h2') (fun j σ' H'' => (∃ x5 x6, σ' = [some (.ref p), some (.int y.d), some (.ref F), some (.int d'), some (.ref W), x5, x6]) ∧ But F H4 H'' ∧ ∃ kvs, H'' F = some (.dK kvs) ∧ DkOk ks kvs ∧ (∀ k ∈ s.start.map (·.1), Has kvs k) ∧ (∀ wr ∈ wrs.take i, ∀ k, hasK wr k → Has kvs k) ∧ ∀ k, hasK (wr.take j) k → Has kvs k) ⟨⟨_, _, rfl⟩, bH, kvs, hF, dk, k1, k2, fun k z => (List.not_mem_nil z).elim⟩ (fun i σ' H' _ p => SqL.of (p.2.1.seen h2 (notF h2 fun _ z => nomatch z))) ?_ ?_
      · rintro j x σ' H'' hx' ⟨⟨y5, y6, rfl⟩, bH', kvs', hF', dk', k1', k2', k3'⟩
        obtain ⟨z, hz, t', rfl, ht'⟩ := Paired.at' h3 hx'
        have ht4 := s04 _ _ (hs.gh _ _ ht')
        refine g_gTup (SqT.of (bH'.seen ht4 (notF ht4 fun _ z => nomatch z))) rfl ?_
        walk_at "gs"
        refine g_dputS hF' (Nat.lt_of_le_of_lt dk'.len (Nat.lt_of_le_of_lt hk.len (by rw [sizeLine_eq]; decide))) ?_
        walk_at "gs"
        refine ⟨⟨_, _, rfl⟩, fun b o hb eb => (upd_ne hb).trans (bH' b o hb eb), _, upd_same, dk'.putK1 (wk z (List.mem_of_getElem? hz)), fun k h => (Has.put (.inl (k1' k h))), fun wr h k h' => Has.put (.inl (k2' wr h k h')), fun k h => ?_⟩
        rw [take_snoc hz] at h
        unfold hasK at h
        rw [List.map_append] at h
        rcases List.mem_append.mp h with h | h
        · exact Has.put (.inl (k3' k h))
        · exact Has.put (.inr (List.mem_singleton.mp h))
      · rintro σ' H'' ⟨⟨y5, y6, rfl⟩, bH', kvs', hF', dk', k1', k2', k3'⟩
        refine ⟨⟨_, _, _, _, rfl⟩, bH', kvs', hF', dk', k1', fun wr' hw' k h => ?_⟩
        rw [take_snoc hwr] at hw'
        rcases List.mem_append.mp hw' with z | z
        · exact k2' wr' z k h
        · rw [List.mem_singleton.mp z] at h
          rw [Paired.len h3, List.take_length] at k3'
          exact k3' k h
    · rintro σ' H' ⟨⟨x3, x4, x5, x6, rfl⟩, bH, kvs, hF, dk, k1, k2⟩
      walk_at "gs"
      obtain ⟨l, el, nl, ml⟩ := dk.strs
      refine ⟨F, kvs, l, rfl, Rd.of hF, el, Nat.lt_of_le_of_lt (nodup_sub_len nl ml) (Nat.lt_of_le_of_lt hk.len (by decide)), fun ys R perm srt R0 => ?_⟩
      have sH : Same H H' := fun b o eb => bH b o (ne_of_none eb F0) (s04 _ _ eb)
      refine q ys R _ (fun k hk' => ?_) (fun k hk' => ml k (perm.mem_iff.mp hk')) (perm.nodup_iff.mpr nl) (sortedS_pw srt) (free_same sH R0) (sH.trans (same_new R0)) upd_same
      have hh : Has kvs k := by
        rcases hin k hk' with z | ⟨wr, h1, h2⟩
        · exact k1 k z
        · rw [Paired.len pw, List.take_length] at k2
          exact k2 wr h1 k h2
      rw [perm.mem_iff]
      unfold Has at hh
      cases e : valV kvs (Sum.inr k) with
      | none => exact (hh e).elim
      | some v =>
        have m := valV_in e
        rw [el] at m
        obtain ⟨k', hk1, hk2⟩ := List.mem_map.mp m
        rw [← Sum.inr.inj hk2]
        exact hk1
end
end Hs

set_option maxHeartbeats 4000000
namespace Hs
open PySem PySem.Spec PyProof.Rows L2 Sk
section
variable {P : Program} {w : World} {K : PySem.W.Frag} {mg : Str → Option Value} {base : Heap} {CW CD : Addr}
theorem scan_in {s : St} {st : Int} {own : Wr} {lo hi : Str} {ys : List Str} {x : Str × Int} (h : x ∈ ys.filterMap (rowOf s st own lo hi)) : x.1 ∈ ys := by
  rw [List.mem_filterMap] at h
  obtain ⟨k, hk, e⟩ := h
  unfold rowOf at e
  split at e
  · obtain ⟨j, _, e⟩ := Option.map_eq_some_iff.mp e
    rw [← e]
    exact hk
  · cases e

theorem sc__law_scanned : FnScope ["state", "dealing", "low", "high", "rows", "key", "worth"] ["state", "dealing", "low", "high"] (defScope s__law_scanned) := ⟨rfl, rfl, rfl, by decide +kernel, rfl, by decide +kernel, by decide +kernel⟩
theorem ok__law_scanned {f : Addr} {fd : FuncData} (F : FunD K "_law_scanned" "_law_scanned" (defArgs s__law_scanned) (defBody s__law_scanned) (defScope s__law_scanned) [] [] f fd) (gm : mg "_law_scanned" = some (.ref f)) (B : Bas mg) (c__law_sees : Cal P w K mg base CX0 1 "_law_sees" ["state", "dealing", "key"] spSees) (c__law_keys_of : Cal P w K mg base CX0 1 "_law_keys_of" ["state", "dealing"] spKeys) : Cal P w K mg base CX0 2 "_law_scanned" ["state", "dealing", "low", "high"] spScan := by
  refine ⟨f, fd, F.ok sc__law_scanned (fun vs H Q E h => ?_) (fun cdv A outer s H vs Q E hr h => ⟨_, PSs.nox (pss_cons (ps_set (i := 4) sc__law_scanned.nd rfl (by first | exact Or.inl rfl | exact Or.inr rfl) (pe_lst pa_nil))
  (pss_cons (ps_for PassesOwn.never rfl (pi_list (pe_cal c__law_keys_of (hr.mono (by decide)) rfl pass0 (pa_cons (pv 0) (pa_cons (pv 1) pa_nil)))) (pg_name (i := 5) sc__law_scanned.nd rfl (by first | exact Or.inl rfl | exact Or.inr rfl))
    (pss_cons (ps_set (i := 6) sc__law_scanned.nd rfl (by first | exact Or.inl rfl | exact Or.inr rfl) (pe_cal c__law_sees (hr.mono (by decide)) rfl pass0 (pa_cons (pv 0) (pa_cons (pv 1) (pa_cons (pv 5) pa_nil)))))
    (pss_one (ps_if (PW.pt (pw_and (pt_cmpR op_notN (pv 6) pe_non (nomark _)) (pw_and (pt_not (pt_cmpR op_ltSQ (pv 5) (pv 2) (nomark _))) (pw_and1 (pt_cmpR op_ltSQ (pv 5) (pv 3) (nomark _)))))) (pss_one (ps_expr (pe_bm PySem.F.plainAttrs_list PySem.F.slot_list_append PySem.F.type_list_append mt_append (pv 4) (pa_cons (pe_tup (pa_cons (pv 5) (pa_cons (pv 6) pa_nil))) pa_nil))))
      pss_nil))))
  (pss_one (ps_ret (pv 4))))), ?_⟩), gm, F.kp, F.bindsN fun _ _ _ _ _ _ us hl => match us, hl with | [_, _, _, _], _ => rfl⟩
  · obtain ⟨G, p, s, a, ks, n, d, st, own, lo, hi, rfl, _⟩ := h; rfl
  · obtain ⟨G, p, s, a, ks, n, d, st, own, lo, hi, rfl, hs, ok, hn, hk, f, q⟩ := h
    walk_at "gs"
    refine g_newL sz0 fun R H1 R0 s1 hR => ?_
    walk_at "gs"
    have g1 : Grow G H G H1 := growM hs.gh s1
    have hs1 := hs.grow g1
    refine ⟨G, p, s, a, ks, n, d, st, own, rfl, hs1, ok, hn, hk, f, fun ys Y H2 hys kin nd srt Y0 s2 hY => ?_⟩
    have g2 : Grow G H G H2 := g1.trans (growM hs1.gh s2)
    have hR2 := s2 _ _ hR
    have GR : G R = none := hs.gh.free R0
    walk_at "gs"
    have RY : R ≠ Y := fun z => by rw [z, Y0] at hR; cases hR
    refine forL_by (SqL.of hY) (fun i σ' H' => (∃ x5 x6, σ' = [some (.ref p), some (.int d), some (.str lo), some (.str hi), some (.ref R), x5, x6]) ∧ ∃ Gi acc, Grow G H Gi H' ∧ Gi R = none ∧ H' R = some (.lst acc) ∧ H' Y = some (.lst (ys.map V.str)) ∧ Paired (RowAt Gi) acc ((ys.take i).filterMap (rowOf s st own lo hi))) ⟨⟨_, _, rfl⟩, G, [], g2, GR, hR2, hY, .nil⟩ (fun i σ' H' _ p => by obtain ⟨_, Gi, acc, _, _, _, e, _⟩ := p; exact SqL.of e) ?_ ?_
    · rintro i x σ' H' hx ⟨⟨x5, x6, rfl⟩, Gi, acc, gr, GiR, eR, eY, pr⟩
      rw [List.getElem?_map] at hx
      cases hki : ys[i]? with
      | none => rw [hki] at hx; cases hx
      | some k =>
        rw [hki] at hx
        injection hx with hx
        subst hx
        have hsi := hs.grow gr
        walk_at "gs"
        refine ⟨Gi, p, s, a, ks, n, d, st, own, k, rfl, hsi, ok, hn, f, fun H3 s3 => ?_⟩
        have g3 : Grow G H Gi H3 := gr.trans (growM gr.gh s3)
        have eR3 := s3 _ _ eR
        have eY3 := s3 _ _ eY
        have fin : rowOf s st own lo hi k = none → Paired (RowAt Gi) acc ((ys.take (i + 1)).filterMap (rowOf s st own lo hi)) := fun c => by
          rw [fm_snoc _ hki, c, Option.toList, List.append_nil]
          exact pr
        walk_at "gs"
        cases hw : seesL s st own k with
        | none =>
          show if (!true) = true then _ else _
          walk_at "gs"
          exact ⟨⟨_, _, rfl⟩, Gi, acc, g3, GiR, eR3, eY3, fin (by unfold rowOf; rw [hw]; simp)⟩
        | some j =>
          show if (!false) = true then _ else _
          walk_at "gs"
          refine g_ndec (fun c => ?_) (fun c => ?_)
          · walk_at "gs"
            exact ⟨⟨_, _, rfl⟩, Gi, acc, g3, GiR, eR3, eY3, fin (by unfold rowOf; rw [if_neg (fun z => z.1 c)])⟩
          · walk_at "gs"
            refine g_dec (fun c2 => ?_) (fun c2 => ?_)
            · walk_at "gs"
              refine g_newT (sz (by simp)) fun T H4 T0 s4 hT => ?_
              walk_at "gs"
              have gT := growF g3.gh T0 s4 hT
              have eR4 := s4 _ _ eR3
              have eY4 := s4 _ _ eY3
              have RT : R ≠ T := fun z => by rw [← z, eR3] at T0; cases T0
              have al : acc.length ≤ 100 := by
                rw [Paired.len pr]
                refine Nat.le_trans (List.length_filterMap_le _ _) (Nat.le_trans (by rw [List.length_take]; exact Nat.min_le_right _ _) (Nat.le_trans (nodup_sub_len nd kin) ?_))
                have := hk.len
                omega
              refine g_app eR4 (by rw [sizeLine_eq]; omega) ?_
              walk_at "gs"
              have g4 := g3.trans gT
              have gR4 : upd Gi T (.tup [.str k, .int j]) R = none := (upd_ne RT).trans GiR
              refine ⟨⟨_, _, rfl⟩, upd Gi T (.tup [.str k, .int j]), acc ++ [.ref T], ⟨g4.gg, fun b o eb => ?_, fun b o _ eb => ?_, g4.old⟩, gR4, upd_same, (upd_ne (Ne.symm RY)).trans eY4, ?_⟩
              · rw [upd_ne (ne_of_none eb gR4)]; exact g4.gh _ _ eb
              · rw [upd_ne (ne_of_none eb R0)]; exact g4.same _ _ eb
              · rw [fm_snoc _ hki, show rowOf s st own lo hi k = some (k, j) from by unfold rowOf; rw [if_pos ⟨c, c2⟩, hw]; rfl]
                exact Paired.app (Paired.imp (fun _ _ z => z.grow gT.gg) pr) (.cons ⟨T, rfl, upd_same⟩ .nil)
            · walk_at "gs"
              exact ⟨⟨_, _, rfl⟩, Gi, acc, g3, GiR, eR3, eY3, fin (by unfold rowOf; rw [if_neg (fun z => c2 z.2)])⟩
    · rintro σ' H' ⟨⟨x5, x6, rfl⟩, Gi, acc, gr, GiR, eR, eY, pr⟩
      walk_at "gs"
      rw [List.length_map, List.take_length] at pr
      have scan := rowOf_mem (lo := lo) (hi := hi) hys srt nd
      have gF : Grow G H (upd Gi R (.lst acc)) H' := by
        refine ⟨fun b o eb => ?_, fun b o eb => ?_, gr.hh, fun b hb => ?_⟩
        · rw [upd_ne (ne_of_none eb GR)]; exact gr.gg _ _ eb
        · by_cases c : b = R
          · rw [c, upd_same] at eb; rw [c, ← eb]; exact eR
          · rw [upd_ne c] at eb; exact gr.gh _ _ eb
        · rw [upd_ne (fun z => hb (by rw [z]; exact R0))]; exact gr.old b hb
      exact q _ _ H' R scan (fun x hx => kin _ (scan_in hx)) gF ⟨R, acc, rfl, upd_same, Paired.imp (fun _ _ z => z.grow (same_new GiR)) pr⟩
end
end Hs

set_option maxHeartbeats 4000000
namespace Hs
open PySem PySem.Spec PyProof.Rows L2 Sk
section
variable {P : Program} {w : World} {K : PySem.W.Frag} {mg : Str → Option Value} {base : Heap} {CW CD : Addr}
def OthAt (G H : Hp) (v : V) (wr : Wr) : Prop := ∃ W ws, v = .ref W ∧ H W = some (.lst ws) ∧ Paired (WrAt G) ws wr
theorem OthAt.same {G H H' : Hp} {v : V} {wr : Wr} (h : OthAt G H v wr) (s : Same H H') : OthAt G H' v wr := by
  obtain ⟨W, ws, e, h1, h2⟩ := h
  exact ⟨W, ws, e, s _ _ h1, h2⟩
def wD : Option Int → PyData
  | none => .none
  | some i => .int i
def wrD (wr : Wr) : List PyData := wr.map fun x => .tuple [.str x.1, wD x.2]
theorem wD_dp {K : PySem.W.Frag} {H : Hp} (w : Option Int) : Dp K H (wV w) (wD w) := by cases w with
  | none => exact .non
  | some i => exact .int i
theorem wrDpAll {K : PySem.W.Frag} {G : Hp} : ∀ {vs : List V} {wr : Wr}, Paired (WrAt G) vs wr → DpAll K G vs (wrD wr)
  | _, _, .nil => .nil
  | _, _, .cons (a := v) (b := x) h t => by
    obtain ⟨q, rfl, e⟩ := h
    exact .cons (.tup (SqT.of e) (.cons (.str _) (.cons (wD_dp _) .nil))) (wrDpAll t)
theorem wrD_lay : ∀ wr : Wr, (∀ x ∈ wr, PyData.strOk x.1 = true) → PyData.canLayAll0 (wrD wr) = true ∧ PyData.depthAll (wrD wr) ≤ 1
  | [], _ => ⟨rfl, Nat.zero_le _⟩
  | x :: r, h => by
    have ih := wrD_lay r fun y hy => h y (List.mem_cons_of_mem _ hy)
    have hw : PyData.canLay0 (wD x.2) = true := by cases x.2 <;> rfl
    have hd : PyData.depth (wD x.2) = 0 := by cases x.2 <;> rfl
    constructor
    · show (((PyData.strOk x.1) && (PyData.canLay0 (wD x.2) && true)) && PyData.canLayAll0 (wrD r)) = true
      rw [h x List.mem_cons_self, ih.1, hw]; rfl
    · show max (max 0 (max (PyData.depth (wD x.2)) 0) + 1) (PyData.depthAll (wrD r)) ≤ 1
      rw [hd]
      have := ih.2
      omega
theorem othDp {K : PySem.W.Frag} {G H : Hp} (gh : Same G H) : ∀ {vs : List V} {wrs : List Wr}, Paired (OthAt G H) vs wrs → DpAll K H vs (wrs.map fun wr => .list (wrD wr))
  | _, _, .nil => .nil
  | _, _, .cons (a := v) (b := x) h t => by
    obtain ⟨W, ws, rfl, e, p⟩ := h
    exact .cons (.lst (SqL.of e) (wrDpAll (Paired.imp (fun _ _ z => z.grow gh) p))) (othDp gh t)
theorem oth_lay : ∀ wrs : List Wr, (∀ wr ∈ wrs, ∀ x ∈ wr, PyData.strOk x.1 = true) → PyData.canLayAll0 (wrs.map fun wr => .list (wrD wr)) = true ∧ PyData.depthAll (wrs.map fun wr => .list (wrD wr)) ≤ 2
  | [], _ => ⟨rfl, Nat.zero_le _⟩
  | x :: r, h => by
    have ih := oth_lay r fun y hy => h y (List.mem_cons_of_mem _ hy)
    have hx := wrD_lay x (h x List.mem_cons_self)
    constructor
    · show (PyData.canLayAll0 (wrD x) && PyData.canLayAll0 (r.map fun wr => PyData.list (wrD wr))) = true
      rw [hx.1, ih.1]; rfl
    · show max (PyData.depthAll (wrD x) + 1) (PyData.depthAll (r.map fun wr => PyData.list (wrD wr))) ≤ 2
      have := ih.2
      have := hx.2
      omega
def selV (k : Str) : List V → List Wr → List (Option V)
  | v :: vs, wr :: wrs => (if k ∈ wr.map (·.1) then some v else none) :: selV k vs wrs
  | _, _ => []
theorem selV_len (k : Str) : ∀ {vs : List V} {wrs : List Wr} {F : V → Wr → Prop}, Paired F vs wrs → (selV k vs wrs).length = vs.length
  | _, _, _, .nil => rfl
  | _, _, _, .cons h t => by
    show (selV k _ _).length + 1 = _ + 1
    rw [selV_len k t]
theorem selV_at (k : Str) : ∀ {vs : List V} {wrs : List Wr} {F : V → Wr → Prop} {i : Nat} {v : V} {wr : Wr}, Paired F vs wrs → vs[i]? = some v → wrs[i]? = some wr → (selV k vs wrs)[i]? = some (if k ∈ wr.map (·.1) then some v else none)
  | _, _, _, _, _, _, .nil, h, _ => by simp at h
  | _, _, _, 0, _, _, .cons _ _, h, h' => by simp at h h'; subst h h'; simp [selV]
  | _, _, _, i + 1, _, _, .cons _ t, h, h' => by
    simp at h h'
    show (selV k _ _)[i]? = _
    exact selV_at k t h h'
theorem selV_pair (k : Str) : ∀ {vs : List V} {wrs : List Wr} {F : V → Wr → Prop}, Paired F vs wrs → Paired F ((selV k vs wrs).filterMap id) (wrs.filter fun wr => decide (k ∈ wr.map (·.1)))
  | _, _, _, .nil => .nil
  | _, _, _, .cons (b := wr) h t => by
    by_cases c : k ∈ wr.map (·.1)
    · unfold selV
      rw [if_pos c, List.filter_cons_of_pos (by simpa using c), List.filterMap_cons_some (f := id) (a := some _) rfl]
      exact .cons h (selV_pair k t)
    · unfold selV
      rw [if_neg c, List.filter_cons_of_neg (by simpa using c), List.filterMap_cons_none (f := id) (a := none) rfl]
      exact selV_pair k t

theorem sc__law_free : FnScope ["state", "dealing", "key", "others", "one", "writes", "name", "number"] ["state", "dealing", "key"] (defScope s__law_free) := ⟨rfl, rfl, rfl, by decide +kernel, rfl, by decide +kernel, by decide +kernel⟩
theorem ok__law_free {f : Addr} {fd : FuncData} (F : FunD K "_law_free" "_law_free" (defArgs s__law_free) (defBody s__law_free) (defScope s__law_free) [] [] f fd) (gm : mg "_law_free" = some (.ref f)) (B : Bas mg)  : Cal P w K mg base CX0 1 "_law_free" ["state", "dealing", "key"] spFreeL := by
  refine ⟨f, fd, F.ok sc__law_free (fun vs H Q E h => ?_) (fun cdv A outer s H vs Q E hr h => ⟨_, PSs.nox (pss_cons (ps_setLc (i := 3) (own := [("one", 4), ("writes", 5)]) rfl sc__law_free.nd rfl rfl (sw_true rfl rfl rfl (by decide +kernel)) (pi_list (pe_slice sl_list (pe_dget (hu_of hr) (pv 0) pe_str (fun _ _ => rfl)) (po_some (pe_op op_sub (pe_ix (ix_tK K rfl) (pe_dget (hu_of hr) (pe_dget (hu_of hr) (pv 0) pe_str (fun _ _ => rfl)) (pv 1) (fun _ _ => rfl)) pe_int (fun _ _ => rfl)) (pe_dget (hu_of hr) (pv 0) pe_str (fun _ _ => rfl)))) po_none)) (blkOk_by (N := ["state", "dealing", "key", "others", "one", "writes", "name", "number"]) (sc := defScope s__law_free) (by decide +kernel)) (fun _ _ _ _ _ => (pg_tupK (n := 2) K rfl rfl (pgs_cons (pg_name (i := 4) sc__law_free.nd rfl (by first | exact Or.inl rfl | exact Or.inr rfl)) (pgs_cons (pg_name (i := 5) sc__law_free.nd rfl (by first | exact Or.inl rfl | exact Or.inr rfl)) pgs_nil)))) (fun _ _ _ _ _ => pts_nil) (fun _ _ _ _ _ => (pv 5)))
  (pss_cons (ps_lock (ps_for PassesOwn.never rfl (pi_keys (pe_dget (hu_of hr) (pv 0) pe_str (fun _ _ => rfl))) (pg_name (i := 4) sc__law_free.nd rfl (by first | exact Or.inl rfl | exact Or.inr rfl))
    (pss_one (ps_if (pt_cmpR op_ne (pv 4) (pv 1) (nomark _)) (pss_one (ps_expr (pe_bm PySem.F.plainAttrs_list PySem.F.slot_list_append PySem.F.type_list_append mt_append (pv 3) (pa_cons (pe_ix (ix_tK K rfl) (pe_dget (hu_of hr) (pe_dget (hu_of hr) (pv 0) pe_str (fun _ _ => rfl)) (pv 4) (fun _ _ => rfl)) pe_int (fun _ _ => rfl)) pa_nil))))
      pss_nil))))
  (pss_one (ps_ret (pe_cmpR (op_eqD hr.units) (pe_lc (own := [("writes", 5)]) rfl sc__law_free.nd (pi_list (pv 3)) (blkOk_by (N := ["state", "dealing", "key", "others", "one", "writes", "name", "number"]) (sc := defScope s__law_free) (by decide +kernel)) (fun _ _ _ _ _ => (pg_name (i := 5) sc__law_free.nd rfl (by first | exact Or.inl rfl | exact Or.inr rfl))) (fun _ _ _ _ _ => pts_one (pt_cmpR (op_inK K rfl) (pv 2) (pe_lc (own := [("name", 6), ("number", 7)]) rfl sc__law_free.nd (pi_listK K rfl (pv 5)) (blkOk_by (N := ["state", "dealing", "key", "others", "one", "writes", "name", "number"]) (sc := _) rfl) (fun _ _ _ _ _ => (pg_tupK (n := 2) K rfl rfl (pgs_cons (pg_name (i := 6) sc__law_free.nd rfl (by first | exact Or.inl rfl | exact Or.inr rfl)) (pgs_cons (pg_name (i := 7) sc__law_free.nd rfl (by first | exact Or.inl rfl | exact Or.inr rfl)) pgs_nil)))) (fun _ _ _ _ _ => pts_nil) (fun _ _ _ _ _ => (pv 6))) rfl)) (fun _ _ _ _ _ => (pv 5))) (pe_lst pa_nil) (nomark _)))))), ?_⟩), gm, F.kp, F.bindsN fun _ _ _ _ _ _ us hl => match us, hl with | [_, _, _], _ => rfl⟩
  · obtain ⟨G, p, s, a, ks, n, d, st, own, k, rfl, _⟩ := h; rfl
  · obtain ⟨G, p, s, a, ks, n, d, st, own, k, rfl, hs, ok, hn, hk, f, q⟩ := h
    obtain ⟨y, hy, e1, e2, e3, e4⟩ := hs.find f
    simp only at e2 e3
    subst e1 e2 e3
    obtain ⟨oT, oW, oP⟩ := hs.oe y hy
    have oT1 := hs.gh _ _ oT
    have hob := hs.ob
    have hop := hs.op
    have hkp := hs.kp
    have bd := ok.lo _ (hs.memOp hy)
    have b1 : s.base ≤ y.st := bd.1
    have ei : y.st - s.base = ((s.ofs y.st : Nat) : Int) := by
      unfold St.ofs
      omega
    have kl : a.kl.length = s.kept.length := by rw [← hs.ks, List.length_map]
    have ol : a.ol.length = s.op.length := by rw [← hs.os, List.length_map]
    have kn := ok.kn
    have dn := ok.dn
    walk_at "gs"
    refine g_lcL ?_
    walk_at "gs"
    refine g_dgetI hop e4 ?_
    walk_at "gs"
    refine g_ixT oT1 (atI_nat (j := 0) rfl) ?_
    walk_at "gs"
    rw [ei]
    refine g_slFrom hkp fun L1 L10 => ?_
    have hL1 : upd H L1 (.lst ((a.kl.map fun e => V.ref e.T).drop (s.ofs y.st))) L1 = _ := upd_same
    have s1 : Same H (upd H L1 (.lst ((a.kl.map fun e => V.ref e.T).drop (s.ofs y.st)))) := same_new L10
    generalize upd H L1 (.lst ((a.kl.map fun e => V.ref e.T).drop (s.ofs y.st))) = H1 at hL1 s1 ⊢
    rw [← List.map_drop] at hL1
    refine lcL_to (SqL.of hL1) ((a.kl.drop (s.ofs y.st)).map fun e => some (V.ref e.W)) (by simp) (by rw [List.length_map, List.length_drop, sizeLine_eq]; omega) ?_ ?_
    · intro i x z H' hx hz s' R r
      rw [List.getElem?_map] at hx hz
      cases hki : (a.kl.drop (s.ofs y.st))[i]? with
      | none => rw [hki] at hx; cases hx
      | some e =>
        rw [hki] at hx hz
        injection hx with hx
        injection hz with hz
        subst hx hz
        have he : e ∈ a.kl := List.mem_of_mem_drop (List.mem_of_getElem? hki)
        refine g_gTup (SqT.of (s' _ _ (s1 _ _ (hs.gh _ _ (hs.ke e he).1)))) rfl ?_
        walk_at "gs"
        refine ⟨rfl, ?_⟩
        walk_at "gs"
        exact r H' (Same.refl _)
    intro O H2 O0 s2 hO
    rw [fm_some] at hO
    have s02 := s1.trans s2
    have hop2 := s02 _ _ hop
    have hob2 := s02 _ _ hob
    have OC : O ≠ a.C := ne_val hO hop2 (fun z => nomatch z)
    have pw : Paired (OthAt G H) ((a.kl.drop (s.ofs y.st)).map fun e => V.ref e.W) ((s.kept.drop (s.ofs y.st)).map (·.2)) := by
      rw [← hs.ks, ← List.map_drop, List.map_map]
      exact pair_map fun e he => ⟨e.W, e.ws, rfl, (hs.ke e (List.mem_of_mem_drop he)).2⟩
    walk_at "gs"
    have pC := hs.pC
    refine forKeys hop2 (fun od R r => ?_) (fun od i σ' H' => (∃ x4 x5 x6 x7, σ' = [some (.ref p), some (.int y.d), some (.str k), some (.ref O), x4, x5, x6, x7]) ∧ But O (upd H2 a.C (.frz od (.dK (olK a.ol)))) H' ∧ ∃ os wrs, H' O = some (.lst os) ∧ Paired (OthAt G H) os wrs ∧ os.length ≤ 1000 + i ∧ ∀ wr, wr ∈ wrs ↔ wr ∈ (s.kept.drop (s.ofs y.st)).map (·.2) ∨ ∃ e ∈ a.ol.take i, e.d ≠ y.d ∧ wr = e.own) (fun od i σ' H' p => p.2.1.seen upd_same (Ne.symm OC)) (fun od => ⟨⟨_, _, _, _, rfl⟩, But.refl, _, _, (upd_ne OC).trans hO, pw, by rw [List.length_map, List.length_drop]; omega, fun wr => ⟨.inl, fun z => ?_⟩⟩) ?_ ?_
    · walk_at "gs"
      exact r
    · rcases z with z | ⟨e, he, _⟩
      · exact z
      · exact (List.not_mem_nil he).elim
    · rintro i kk v σ' H3 od E hi ⟨⟨x4, x5, x6, x7, rfl⟩, bO, os, wrs, hO3, po, lo, mo⟩ enx ect
      obtain ⟨e, he, e1⟩ : ∃ e, a.ol[i]? = some e ∧ (Sum.inl e.d, V.ref e.T) = (kk, v) := by
        unfold olK at hi
        rw [List.getElem?_map] at hi
        cases z : a.ol[i]? with
        | none => rw [z] at hi; cases hi
        | some e => rw [z] at hi; exact ⟨e, rfl, by simpa using hi⟩
      injection e1 with e1 e2
      subst e1 e2
      have hem : e ∈ a.ol := List.mem_of_getElem? he
      have hil : i < a.ol.length := (List.getElem?_eq_some_iff.mp he).1
      obtain ⟨eT, eW, eP⟩ := hs.oe e hem
      have hC3 : H3 a.C = some (.frz od (.dK (olK a.ol))) := bO.seen upd_same (Ne.symm OC)
      have pO : p ≠ O := ne_val hob2 hO (fun z => nomatch z)
      have hp3 : H3 p = some (.dK (stK s a)) := bO.seen ((upd_ne pC).trans hob2) pO
      have TC : e.T ≠ a.C := ne_val (s02 _ _ (hs.gh _ _ eT)) hop2 (fun z => nomatch z)
      have TO : e.T ≠ O := ne_val (s02 _ _ (hs.gh _ _ eT)) hO (fun z => nomatch z)
      have hT3 := bO.seen ((upd_ne TC).trans (s02 _ _ (hs.gh _ _ eT))) TO
      walk_at "gs"
      refine g_ndec (fun c => ?_) (fun c => ?_)
      · have cd : e.d = y.d := V.int.inj c
        walk_at "gs"
        refine enx _ _ ⟨⟨_, _, _, _, rfl⟩, bO, os, wrs, hO3, po, by omega, fun wr => (mo wr).trans ?_⟩
        rw [take_snoc he]
        constructor
        · rintro (z | ⟨e', h1, h2, h3⟩)
          · exact .inl z
          · exact .inr ⟨e', List.mem_append_left _ h1, h2, h3⟩
        · rintro (z | ⟨e', h1, h2, h3⟩)
          · exact .inl z
          · rcases List.mem_append.mp h1 with h1 | h1
            · exact .inr ⟨e', h1, h2, h3⟩
            · rw [List.mem_singleton.mp h1] at h2
              exact (h2 cd).elim
      · have cd : e.d ≠ y.d := fun z => c (by rw [← z]; rfl)
        walk_at "gs"
        have ev : valV (olK a.ol) (Sum.inl e.d) = some (.ref e.T) := by
          have nd : ((olK a.ol).map (·.1)).Nodup := by
            unfold olK
            rw [List.map_map]
            have := ok.nd
            rw [← hs.os, List.map_map] at this
            have e0 : ((fun q : Key × V => q.1) ∘ fun e : Oe => ((Sum.inl e.d : Key), V.ref e.T)) = (Sum.inl : Int → Key) ∘ fun e : Oe => e.d := rfl
            rw [e0, ← List.map_map]
            exact List.pairwise_map.mpr (List.Pairwise.imp (fun h q => h (Sum.inl.inj q)) this)
          exact valV_of_mem (q := (Sum.inl e.d, V.ref e.T)) nd (List.mem_map_of_mem hem)
        refine g_dgetF (k := Sum.inl e.d) hC3 ev ?_
        walk_at "gs"
        refine g_ixT hT3 (atI_nat (j := 1) rfl) ?_
        walk_at "gs"
        refine g_app hO3 (by rw [sizeLine_eq]; omega) ?_
        walk_at "gs"
        refine enx _ _ ⟨⟨_, _, _, _, rfl⟩, bO.trans (fun b o hb eb => (upd_ne hb).trans eb), os ++ [.ref e.W], wrs ++ [e.own], upd_same, Paired.app po (.cons ⟨e.W, e.ws, rfl, eW, eP⟩ .nil), by rw [List.length_append]; simp; omega, fun wr => ?_⟩
        rw [take_snoc he, List.mem_append, mo wr]
        constructor
        · rintro ((z | ⟨e', h1, h2, h3⟩) | z)
          · exact .inl z
          · exact .inr ⟨e', List.mem_append_left _ h1, h2, h3⟩
          · exact .inr ⟨e, List.mem_append_right _ (List.mem_singleton.mpr rfl), cd, List.mem_singleton.mp z⟩
        · rintro (z | ⟨e', h1, h2, h3⟩)
          · exact .inl (.inl z)
          · rcases List.mem_append.mp h1 with h1 | h1
            · exact .inl (.inr ⟨e', h1, h2, h3⟩)
            · rw [List.mem_singleton.mp h1] at h3
              exact .inr (List.mem_singleton.mpr h3)
    · rintro σ' H3 od ⟨⟨x4, x5, x6, x7, rfl⟩, bO, os, wrs, hO3, po, lo, mo⟩
      rw [show (olK a.ol).length = a.ol.length from List.length_map _] at lo
      rw [show (olK a.ol).length = a.ol.length from List.length_map _, List.take_length] at mo
      have s3 : Same H (upd H3 a.C (.dK (olK a.ol))) := fun b o eb => by
        by_cases c : b = a.C
        · subst c; rw [upd_same]; rw [hop] at eb; exact eb
        · rw [upd_ne c]
          have bOn : b ≠ O := ne_of_none (s1 _ _ eb) O0
          exact bO.seen ((upd_ne c).trans (s02 _ _ eb)) bOn
      have hO4 : upd H3 a.C (.dK (olK a.ol)) O = some (.lst os) := (upd_ne OC).trans hO3
      generalize upd H3 a.C (.dK (olK a.ol)) = H4 at s3 hO4 ⊢
      have po4 : Paired (OthAt G H4) os wrs := Paired.imp (fun _ _ z => z.same s3) po
      walk_at "gs"
      refine g_lcL ?_
      walk_at "gs"
      refine lcL_to (SqL.of hO4) (selV k os wrs) (selV_len k po4) (by rw [sizeLine_eq]; omega) ?_ ?_
      · intro i x z H' hx hz s' R r
        obtain ⟨wr, hwr, W, ws, rfl, hW, pW⟩ := Paired.at' po4 hx
        rw [selV_at k po4 hx hwr] at hz
        injection hz with hz
        subst hz
        walk_at "gs"
        refine ⟨rfl, ?_⟩
        walk_at "gs"
        refine g_lcL ?_
        walk_at "gs"
        have gH' : Same G H' := hs.gh.trans (s3.trans s')
        have wl : wr.length ≤ 1000 := by
          rcases (mo wr).mp (List.mem_of_getElem? hwr) with z | ⟨e', h1, _, h3⟩
          · obtain ⟨x, hx', rfl⟩ := List.mem_map.mp z
            exact Nat.le_trans (ok.wk x (List.mem_of_mem_drop hx')) hn
          · rw [h3]; exact Nat.le_trans (ok.wn _ (hs.memOp h1)) hn
        refine lcNames (s' _ _ hW) gH' pW wl ?_ ?_
        · intro t x H'' R' ht r'
          refine g_gTup (SqT.of ht) rfl ?_
          walk_at "gs"
          refine ⟨rfl, ?_⟩
          walk_at "gs"
          exact r'
        · intro D H5 D0 s5 hD
          walk_at "gs"
          refine g_inStrs hD ?_
          walk_at "gs"
          refine g_dec (fun m => ?_) (fun m => ?_)
          · walk_at "gs"
            have := r H5 s5
            rw [if_pos m] at this
            exact this
          · have := r H5 s5
            rw [if_neg m] at this
            exact this
      intro D H5 D0 s5 hD
      walk_at "gs"
      refine g_newL sz0 fun E H6 E0 s6 hE => ?_
      walk_at "gs"
      have sp := selV_pair k po4
      have s36 := s3.trans (s5.trans s6)
      have ksw : ∀ wr ∈ wrs, ∀ x ∈ wr, PyData.strOk x.1 = true := fun wr hwr x hx => by
        rcases (mo wr).mp hwr with z | ⟨e', h1, _, h3⟩
        · obtain ⟨q, hq, rfl⟩ := List.mem_map.mp z
          exact hk.ok _ (ok.kk q (List.mem_of_mem_drop hq) x hx)
        · rw [h3] at hx; exact hk.ok _ (ok.ok _ (hs.memOp h1) x hx)
      have lay := oth_lay (wrs.filter fun wr => decide (k ∈ wr.map (·.1))) fun wr hwr => ksw wr (List.mem_filter.mp hwr).1
      refine ⟨.list ((wrs.filter fun wr => decide (k ∈ wr.map (·.1))).map fun wr => .list (wrD wr)), .list [], .lst (SqL.of (s6 _ _ hD)) (othDp (hs.gh.trans s36) (Paired.imp (fun _ _ z => z.same (s5.trans s6)) sp)), .lst (SqL.of hE) .nil, ?_, rfl, ?_⟩
      · show (PyData.canLayAll0 _ && decide (PyData.depthAll _ + 1 ≤ 64)) = true
        rw [lay.1, Bool.true_and, decide_eq_true_eq]
        have := lay.2
        omega
      have key : (∀ wr ∈ wrs, ¬ k ∈ wr.map (·.1)) ↔ freeK s y.d y.st k := by
        constructor
        · intro h
          constructor
          · intro x hx hd hk'
            rw [← hs.os] at hx
            obtain ⟨e', he', rfl⟩ := List.mem_map.mp hx
            exact h e'.own ((mo _).mpr (.inr ⟨e', he', hd, rfl⟩)) hk'
          · intro x hx hk'
            exact h x.2 ((mo _).mpr (.inl (List.mem_map_of_mem hx))) hk'
        · intro h wr hwr hk'
          rcases (mo wr).mp hwr with z | ⟨e', h1, h2, h3⟩
          · obtain ⟨x, hx, rfl⟩ := List.mem_map.mp z
            exact h.2 x hx hk'
          · rw [h3] at hk'
            exact h.1 _ (hs.memOp h1) h2 hk'
      refine q _ H6 ?_ s36
      rw [← key]
      cases hf : wrs.filter fun wr => decide (k ∈ wr.map (·.1)) with
      | nil =>
        refine ⟨fun _ wr hwr hk' => ?_, fun _ => rfl⟩
        have := List.filter_eq_nil_iff.mp hf wr hwr
        simp at this
        obtain ⟨x, hx, ex⟩ := List.mem_map.mp hk'
        exact this x.2 (by rw [← ex]; exact hx)
      | cons wr r =>
        refine ⟨(fun z => by cases z), fun h => ?_⟩
        have m : wr ∈ wrs.filter fun wr => decide (k ∈ wr.map (·.1)) := by rw [hf]; exact List.mem_cons_self
        have m2 := List.mem_filter.mp m
        exact (h wr m2.1 (by simpa using m2.2)).elim
end
end Hs

set_option maxHeartbeats 4000000
namespace Hs
open PySem PySem.Spec PyProof.Rows L2 Sk
section
variable {P : Program} {w : World} {K : PySem.W.Frag} {mg : Str → Option Value} {base : Heap} {CW CD : Addr}
theorem g_slA2 {K : PySem.W.Frag} {H : Hp} {Q : VK} {a : Addr} {x y : V} {r : List V} (h : H a = some (.tup (x :: y :: r))) (q : ∀ p H1, Same H H1 → H1 p = some (.tup [x, y]) → Q (.ref p) H1) : rSlA K (.ref a) none (some 2) H Q := by
  have e : cutV (x :: y :: r) none (some 2) = [x, y] := cutV_take (x :: y :: r) 2
  refine ⟨a, _, rfl, SqT.of h, fun w => ?_, fun w p hp => ?_⟩
  · have hr : r = [] := by
      have w2 : HT.sIx (x :: y :: r).length (x :: y :: r).length (some ((2 : Nat) : Int)) = (x :: y :: r).length := w.2
      rw [HT.sIx_nat] at w2
      rw [List.length_cons, List.length_cons] at w2
      exact List.length_eq_zero_iff.mp (by omega)
    subst hr
    exact q a H (Same.refl _) h
  · rw [e]
    exact q p _ (same_new hp) upd_same
def Ev.deal : Ev → Option Int
  | .begin _ => none | .fall _ => none | .raised _ _ => none
  | .read d _ _ => some d | .scan d _ _ _ => some d | .put d _ _ => some d | .drop d _ => some d | .mark d _ => some d | .back d _ => some d | .keep d _ => some d | .undo d => some d
def spDeedCan : Sp := fun vs H Q _ => ∃ (G : Hp) (p : Addr) (s : St) (a : Sa) (ks : List Str) (n : Nat) (d : Int) (st : Int) (own : Wr) (t : Addr) (us : List V) (e : Ev), vs = [.ref p, .ref t] ∧ StAt G H p s a ∧ SOk ks n s ∧ n ≤ 1000 ∧ KsOk ks ∧ s.find d = some (st, own) ∧ H t = some (.tup (.str e.word :: us)) ∧ RestAt G e us ∧ e.deal = some d ∧ EvOk ks e ∧ ∀ (b : Bool) (H' : Hp), (b = true ↔ s.can 1 e) → Same H H' → Q (.bl b) H'

theorem sc__law_deed_can : FnScope ["state", "event", "word", "dealing", "many"] ["state", "event"] (defScope s__law_deed_can) := ⟨rfl, rfl, rfl, by decide +kernel, rfl, by decide +kernel, by decide +kernel⟩
theorem ok__law_deed_can {f : Addr} {fd : FuncData} (F : FunD K "_law_deed_can" "_law_deed_can" (defArgs s__law_deed_can) (defBody s__law_deed_can) (defScope s__law_deed_can) [] [] f fd) (gm : mg "_law_deed_can" = some (.ref f)) (B : Bas mg) (c__law_sees : Cal P w K mg base CX0 1 "_law_sees" ["state", "dealing", "key"] spSees) (c__law_scanned : Cal P w K mg base CX0 2 "_law_scanned" ["state", "dealing", "low", "high"] spScan) (c__law_free : Cal P w K mg base CX0 1 "_law_free" ["state", "dealing", "key"] spFreeL) (c__law_places : Cal P w K mg base CX0 1 "_law_places" ["state"] spPlaces) : Cal P w K mg base CX0 3 "_law_deed_can" ["state", "event"] spDeedCan := by
  refine ⟨f, fd, F.ok sc__law_deed_can (fun vs H Q E h => ?_) (fun cdv A outer s H vs Q E hr h => ⟨_, PSs.nox (pss_cons (ps_asg (pe_slice sl_tupA (pv 1) po_none (po_some pe_int)) (pg_tup rfl (pgs_cons (pg_name (i := 2) sc__law_deed_can.nd rfl (by first | exact Or.inl rfl | exact Or.inr rfl)) (pgs_cons (pg_name (i := 3) sc__law_deed_can.nd rfl (by first | exact Or.inl rfl | exact Or.inr rfl)) pgs_nil))))
  (pss_cons (ps_set (i := 4) sc__law_deed_can.nd rfl (by first | exact Or.inl rfl | exact Or.inr rfl) (pe_callB call_lenQ (by rfl) B.len PySem.boot_len (pa_cons (pe_ix (ix_tK K rfl) (pe_dget (hu_of hr) (pe_dget (hu_of hr) (pv 0) pe_str (fun _ _ => rfl)) (pv 3) (fun _ _ => rfl)) pe_int (fun _ _ => rfl)) pa_nil)))
  (pss_cons (ps_if (pt_cmpR op_eq (pv 2) pe_str (nomark _)) (pss_one (ps_ret (pe_cmpR op_eq (pe_cal c__law_sees (hr.mono (by decide)) rfl pass0 (pa_cons (pv 0) (pa_cons (pv 3) (pa_cons (pe_ix (ix_tK K rfl) (pv 1) pe_int (fun _ _ => rfl)) pa_nil)))) (pe_ix (ix_tK K rfl) (pv 1) pe_int (fun _ _ => rfl)) (nomark _))))
    pss_nil)
  (pss_cons (ps_if (pt_cmpR op_eq (pv 2) pe_str (nomark _)) (pss_one (ps_ret (pe_cmpR (op_eqD hr.units) (pe_cal c__law_scanned (hr.mono (by decide)) rfl pass0 (pa_cons (pv 0) (pa_cons (pv 3) (pa_cons (pe_ix (ix_tK K rfl) (pv 1) pe_int (fun _ _ => rfl)) (pa_cons (pe_ix (ix_tK K rfl) (pv 1) pe_int (fun _ _ => rfl)) pa_nil))))) (pe_ix (ix_tK K rfl) (pv 1) pe_int (fun _ _ => rfl)) (nomark _))))
    pss_nil)
  (pss_cons (ps_if (pt_cmpR op_eq (pv 2) pe_str (nomark _)) (pss_one (ps_ret (pe_cal c__law_free (hr.mono (by decide)) rfl pass0 (pa_cons (pv 0) (pa_cons (pv 3) (pa_cons (pe_ix (ix_tK K rfl) (pv 1) pe_int (fun _ _ => rfl)) pa_nil))))))
    pss_nil)
  (pss_cons (ps_if (pt_cmpR op_eq (pv 2) pe_str (nomark _)) (pss_one (ps_ret (pe_and (pe_cal c__law_free (hr.mono (by decide)) rfl pass0 (pa_cons (pv 0) (pa_cons (pv 3) (pa_cons (pe_ix (ix_tK K rfl) (pv 1) pe_int (fun _ _ => rfl)) pa_nil)))) (pe_one (pe_cmpR op_notN (pe_cal c__law_sees (hr.mono (by decide)) rfl pass0 (pa_cons (pv 0) (pa_cons (pv 3) (pa_cons (pe_ix (ix_tK K rfl) (pv 1) pe_int (fun _ _ => rfl)) pa_nil)))) pe_non (nomark _))))))
    pss_nil)
  (pss_cons (ps_if (pt_cmpR op_eq (pv 2) pe_str (nomark _)) (pss_one (ps_ret (pe_cmpR op_eq (pe_ix (ix_tK K rfl) (pv 1) pe_int (fun _ _ => rfl)) (pv 4) (nomark _))))
    pss_nil)
  (pss_cons (ps_if (pt_cmpR op_eq (pv 2) pe_str (nomark _)) (pss_one (ps_ret (pe_chain op_le op_le pe_int (pe_ix (ix_tK K rfl) (pv 1) pe_int (fun _ _ => rfl)) (pv 4))))
    pss_nil)
  (pss_one (ps_ret (pe_or (pe_cmpR op_eq (pv 2) pe_str (nomark _)) (pe_one (pe_cmpR op_eq (pe_ix (ix_tK K rfl) (pv 1) pe_int (fun _ _ => rfl)) (pe_op op_add (pe_cal c__law_places (hr.mono (by decide)) rfl pass0 (pa_cons (pv 0) pa_nil)) pe_int) (nomark _)))))))))))))), ?_⟩), gm, F.kp, F.bindsN fun _ _ _ _ _ _ us hl => match us, hl with | [_, _], _ => rfl⟩
  · obtain ⟨G, p, s, a, ks, n, d, st, own, t, us, e, rfl, _⟩ := h; rfl
  · obtain ⟨G, p, s, a, ks, n, d, st, own, t, us, e, rfl, hs, ok, hn, hk, f, ht, re, hd, eo, q⟩ := h
    obtain ⟨y, hy, e1, e2, e3, e4⟩ := hs.find f
    simp only at e2 e3
    subst e1 e2 e3
    obtain ⟨oT, oW, oP⟩ := hs.oe y hy
    have oT1 := hs.gh _ _ oT
    have hob := hs.ob
    have hop := hs.op
    have hkp := hs.kp
    walk_at "gs"
    cases re with
    | read d k w0 =>
      cases hd
      refine g_slA2 ht fun T H1 s1 hT => ?_
      walk_at "gs"
      refine g_gTup (SqT.of hT) rfl ?_
      walk_at "gs"
      have hs1 := hs.grow (growM hs.gh s1)
      have ob1 := hs1.ob
      have op1 := hs1.op
      have ht1 := s1 _ _ ht
      walk_at "gs"
      refine g_dgetI op1 e4 ?_
      walk_at "gs"
      refine g_ixT (s1 _ _ oT1) (atI_nat (j := 1) rfl) ?_
      walk_at "gs"
      refine g_len (.inl (SqL.of (s1 _ _ oW))) ?_
      walk_at "gs"
      refine g_yes (show V.str "read" = V.str "read" from rfl) ?_
      walk_at "gs"
      refine g_ixT ht1 (atI_nat (j := 2) rfl) ?_
      walk_at "gs"
      refine ⟨G, p, s, a, ks, n, y.d, y.st, y.own, k, rfl, hs1, ok, hn, f, fun H2 s2 => ?_⟩
      walk_at "gs"
      refine g_ixT (s2 _ _ ht1) (atI_nat (j := 3) rfl) ?_
      walk_at "gs"
      refine g_eq (scal_wV _ _) ?_
      refine q _ H2 ?_ (s1.trans s2)
      rw [decide_eq_true_eq]
      constructor
      · intro z; exact ⟨_, _, f, wV_inj z⟩
      · rintro ⟨st', own', f', z⟩
        rw [f] at f'
        cases f'
        rw [z]
    | scan d lo hi hrow =>
      cases hd
      refine g_slA2 ht fun T H1 s1 hT => ?_
      walk_at "gs"
      refine g_gTup (SqT.of hT) rfl ?_
      walk_at "gs"
      have hs1 := hs.grow (growM hs.gh s1)
      have ob1 := hs1.ob
      have op1 := hs1.op
      have ht1 := s1 _ _ ht
      walk_at "gs"
      refine g_dgetI op1 e4 ?_
      walk_at "gs"
      refine g_ixT (s1 _ _ oT1) (atI_nat (j := 1) rfl) ?_
      walk_at "gs"
      refine g_len (.inl (SqL.of (s1 _ _ oW))) ?_
      walk_at "gs"
      refine g_no (show ¬ V.str "scan" = V.str "read" from by decide +kernel) ?_
      walk_at "gs"
      refine g_yes (show V.str "scan" = V.str "scan" from rfl) ?_
      walk_at "gs"
      refine g_ixT ht1 (atI_nat (j := 2) rfl) ?_
      walk_at "gs"
      refine g_ixT ht1 (atI_nat (j := 3) rfl) ?_
      walk_at "gs"
      refine ⟨G, p, s, a, ks, n, y.d, y.st, y.own, lo, hi, rfl, hs1, ok, hn, hk, f, fun rows' G2 H2 R scan rin g2 hrows => ?_⟩
      walk_at "gs"
      refine g_ixT (g2.same _ _ ht1) (atI_nat (j := 4) rfl) ?_
      walk_at "gs"
      obtain ⟨L, vs, rfl, hL, pL⟩ := hrow
      obtain ⟨L2, vs2, e2, hL2, pL2⟩ := hrows
      cases e2
      have sG : Same G H2 := hs1.gh.trans g2.same
      refine ⟨.list (rowsD rows'), .list (rowsD _), .lst (SqL.of (g2.gh _ _ hL2)) (rowsDpAll (Paired.imp (fun _ _ z => z.grow g2.gh) pL2)), .lst (SqL.of (sG _ _ hL)) (rowsDpAll (Paired.imp (fun _ _ z => z.grow sG) pL)), rowsD_shaped fun x hx => hk.ok _ (rin x hx), rowsD_shaped fun x hx => hk.ok _ (eo x hx), ?_⟩
      show Q (.bl (PyData.eqvAll _ _)) H2
      rw [rowsD_eqv]
      refine q _ H2 ?_ (s1.trans g2.same)
      rw [decide_eq_true_eq]
      constructor
      · intro z; exact ⟨_, _, f, z ▸ scan⟩
      · rintro ⟨st', own', f', z⟩
        rw [f] at f'
        cases f'
        exact scan.uniq z
    | put d k w0 =>
      cases hd
      refine g_slA2 ht fun T H1 s1 hT => ?_
      walk_at "gs"
      refine g_gTup (SqT.of hT) rfl ?_
      walk_at "gs"
      have hs1 := hs.grow (growM hs.gh s1)
      have ob1 := hs1.ob
      have op1 := hs1.op
      have ht1 := s1 _ _ ht
      walk_at "gs"
      refine g_dgetI op1 e4 ?_
      walk_at "gs"
      refine g_ixT (s1 _ _ oT1) (atI_nat (j := 1) rfl) ?_
      walk_at "gs"
      refine g_len (.inl (SqL.of (s1 _ _ oW))) ?_
      walk_at "gs"
      refine g_no (show ¬ V.str "put" = V.str "read" from by decide +kernel) ?_
      walk_at "gs"
      refine g_no (show ¬ V.str "put" = V.str "scan" from by decide +kernel) ?_
      walk_at "gs"
      refine g_yes (show V.str "put" = V.str "put" from rfl) ?_
      walk_at "gs"
      refine g_ixT ht1 (atI_nat (j := 2) rfl) ?_
      walk_at "gs"
      refine ⟨G, p, s, a, ks, n, y.d, y.st, y.own, k, rfl, hs1, ok, hn, hk, f, fun b H2 hb s2 => ?_⟩
      walk_at "gs"
      refine q b H2 ?_ (s1.trans s2)
      rw [hb]
      constructor
      · intro z; exact ⟨_, _, f, z⟩
      · rintro ⟨st', own', f', z⟩
        rw [f] at f'
        cases f'
        exact z
    | drop d k =>
      cases hd
      refine g_slA2 ht fun T H1 s1 hT => ?_
      walk_at "gs"
      refine g_gTup (SqT.of hT) rfl ?_
      walk_at "gs"
      have hs1 := hs.grow (growM hs.gh s1)
      have ob1 := hs1.ob
      have op1 := hs1.op
      have ht1 := s1 _ _ ht
      walk_at "gs"
      refine g_dgetI op1 e4 ?_
      walk_at "gs"
      refine g_ixT (s1 _ _ oT1) (atI_nat (j := 1) rfl) ?_
      walk_at "gs"
      refine g_len (.inl (SqL.of (s1 _ _ oW))) ?_
      walk_at "gs"
      refine g_no (show ¬ V.str "drop" = V.str "read" from by decide +kernel) ?_
      walk_at "gs"
      refine g_no (show ¬ V.str "drop" = V.str "scan" from by decide +kernel) ?_
      walk_at "gs"
      refine g_no (show ¬ V.str "drop" = V.str "put" from by decide +kernel) ?_
      walk_at "gs"
      refine g_yes (show V.str "drop" = V.str "drop" from rfl) ?_
      walk_at "gs"
      refine g_ixT ht1 (atI_nat (j := 2) rfl) ?_
      walk_at "gs"
      refine ⟨G, p, s, a, ks, n, y.d, y.st, y.own, k, rfl, hs1, ok, hn, hk, f, fun b H2 hb s2 => ?_⟩
      walk_at "gs"
      cases b with
      | false =>
        walk_at "gs"
        refine q false H2 ⟨(fun z => by cases z), fun z => ?_⟩ (s1.trans s2)
        obtain ⟨st', own', f', z, _⟩ := z
        rw [f] at f'
        cases f'
        exact hb.mpr z
      | true =>
        have hs2 := hs1.grow (growM hs1.gh s2)
        have ht2 := s2 _ _ ht1
        have ob2 := hs2.ob
        walk_at "gs"
        refine g_ixT ht2 (atI_nat (j := 2) rfl) ?_
        walk_at "gs"
        refine ⟨G, p, s, a, ks, n, y.d, y.st, y.own, k, rfl, hs2, ok, hn, f, fun H3 s3 => ?_⟩
        walk_at "gs"
        refine q _ H3 ?_ (s1.trans (s2.trans s3))
        constructor
        · intro z
          refine ⟨_, _, f, hb.mp rfl, fun z' => ?_⟩
          rw [z'] at z
          simp [wV] at z
        · rintro ⟨st', own', f', _, z⟩
          rw [f] at f'
          cases f'
          cases hw : seesL s y.st y.own k with
          | none => exact (z hw).elim
          | some j => simp [wV]
    | mark d m =>
      cases hd
      refine g_slA2 ht fun T H1 s1 hT => ?_
      walk_at "gs"
      refine g_gTup (SqT.of hT) rfl ?_
      walk_at "gs"
      have hs1 := hs.grow (growM hs.gh s1)
      have ob1 := hs1.ob
      have op1 := hs1.op
      have ht1 := s1 _ _ ht
      walk_at "gs"
      refine g_dgetI op1 e4 ?_
      walk_at "gs"
      refine g_ixT (s1 _ _ oT1) (atI_nat (j := 1) rfl) ?_
      walk_at "gs"
      refine g_len (.inl (SqL.of (s1 _ _ oW))) ?_
      walk_at "gs"
      refine g_no (show ¬ V.str "mark" = V.str "read" from by decide +kernel) ?_
      walk_at "gs"
      refine g_no (show ¬ V.str "mark" = V.str "scan" from by decide +kernel) ?_
      walk_at "gs"
      refine g_no (show ¬ V.str "mark" = V.str "put" from by decide +kernel) ?_
      walk_at "gs"
      refine g_no (show ¬ V.str "mark" = V.str "drop" from by decide +kernel) ?_
      walk_at "gs"
      refine g_yes (show V.str "mark" = V.str "mark" from rfl) ?_
      walk_at "gs"
      refine g_ixT ht1 (atI_nat (j := 2) rfl) ?_
      walk_at "gs"
      rw [Paired.len oP]
      refine q _ H1 ?_ s1
      rw [decide_eq_true_eq]
      constructor
      · intro z; exact ⟨_, _, f, V.int.inj z⟩
      · rintro ⟨st', own', f', z⟩
        rw [f] at f'
        cases f'
        rw [z]
    | back d m =>
      cases hd
      refine g_slA2 ht fun T H1 s1 hT => ?_
      walk_at "gs"
      refine g_gTup (SqT.of hT) rfl ?_
      walk_at "gs"
      have hs1 := hs.grow (growM hs.gh s1)
      have ob1 := hs1.ob
      have op1 := hs1.op
      have ht1 := s1 _ _ ht
      walk_at "gs"
      refine g_dgetI op1 e4 ?_
      walk_at "gs"
      refine g_ixT (s1 _ _ oT1) (atI_nat (j := 1) rfl) ?_
      walk_at "gs"
      refine g_len (.inl (SqL.of (s1 _ _ oW))) ?_
      walk_at "gs"
      refine g_no (show ¬ V.str "back" = V.str "read" from by decide +kernel) ?_
      walk_at "gs"
      refine g_no (show ¬ V.str "back" = V.str "scan" from by decide +kernel) ?_
      walk_at "gs"
      refine g_no (show ¬ V.str "back" = V.str "put" from by decide +kernel) ?_
      walk_at "gs"
      refine g_no (show ¬ V.str "back" = V.str "drop" from by decide +kernel) ?_
      walk_at "gs"
      refine g_no (show ¬ V.str "back" = V.str "mark" from by decide +kernel) ?_
      walk_at "gs"
      refine g_yes (show V.str "back" = V.str "back" from rfl) ?_
      walk_at "gs"
      refine g_ixT ht1 (atI_nat (j := 2) rfl) ?_
      walk_at "gs"
      rw [Paired.len oP]
      refine g_dec (fun c => ?_) (fun c => ?_)
      · walk_at "gs"
        refine q _ H1 ?_ s1
        rw [decide_eq_true_eq]
        constructor
        · intro z; exact ⟨_, _, f, c, z⟩
        · rintro ⟨st', own', f', _, z⟩
          rw [f] at f'
          cases f'
          exact z
      · refine q false H1 ⟨(fun z => by cases z), fun z => ?_⟩ s1
        obtain ⟨st', own', f', z, _⟩ := z
        exact (c z).elim
    | keep d m =>
      cases hd
      refine g_slA2 ht fun T H1 s1 hT => ?_
      walk_at "gs"
      refine g_gTup (SqT.of hT) rfl ?_
      walk_at "gs"
      have hs1 := hs.grow (growM hs.gh s1)
      have ob1 := hs1.ob
      have op1 := hs1.op
      have ht1 := s1 _ _ ht
      walk_at "gs"
      refine g_dgetI op1 e4 ?_
      walk_at "gs"
      refine g_ixT (s1 _ _ oT1) (atI_nat (j := 1) rfl) ?_
      walk_at "gs"
      refine g_len (.inl (SqL.of (s1 _ _ oW))) ?_
      walk_at "gs"
      refine g_no (show ¬ V.str "keep" = V.str "read" from by decide +kernel) ?_
      walk_at "gs"
      refine g_no (show ¬ V.str "keep" = V.str "scan" from by decide +kernel) ?_
      walk_at "gs"
      refine g_no (show ¬ V.str "keep" = V.str "put" from by decide +kernel) ?_
      walk_at "gs"
      refine g_no (show ¬ V.str "keep" = V.str "drop" from by decide +kernel) ?_
      walk_at "gs"
      refine g_no (show ¬ V.str "keep" = V.str "mark" from by decide +kernel) ?_
      walk_at "gs"
      refine g_no (show ¬ V.str "keep" = V.str "back" from by decide +kernel) ?_
      walk_at "gs"
      refine g_no (show ¬ V.str "keep" = V.str "undo" from by decide +kernel) ?_
      walk_at "gs"
      refine g_ixT ht1 (atI_nat (j := 2) rfl) ?_
      walk_at "gs"
      refine ⟨G, p, s, a, rfl, hs1, ?_⟩
      walk_at "gs"
      refine q _ H1 ?_ s1
      rw [decide_eq_true_eq]
      constructor
      · intro z; exact ⟨_, _, f, V.int.inj z⟩
      · rintro ⟨st', own', f', z⟩
        rw [z]
    | undo d =>
      cases hd
      refine g_slA2 ht fun T H1 s1 hT => ?_
      walk_at "gs"
      refine g_gTup (SqT.of hT) rfl ?_
      walk_at "gs"
      have hs1 := hs.grow (growM hs.gh s1)
      have ob1 := hs1.ob
      have op1 := hs1.op
      have ht1 := s1 _ _ ht
      walk_at "gs"
      refine g_dgetI op1 e4 ?_
      walk_at "gs"
      refine g_ixT (s1 _ _ oT1) (atI_nat (j := 1) rfl) ?_
      walk_at "gs"
      refine g_len (.inl (SqL.of (s1 _ _ oW))) ?_
      walk_at "gs"
      refine g_no (show ¬ V.str "undo" = V.str "read" from by decide +kernel) ?_
      walk_at "gs"
      refine g_no (show ¬ V.str "undo" = V.str "scan" from by decide +kernel) ?_
      walk_at "gs"
      refine g_no (show ¬ V.str "undo" = V.str "put" from by decide +kernel) ?_
      walk_at "gs"
      refine g_no (show ¬ V.str "undo" = V.str "drop" from by decide +kernel) ?_
      walk_at "gs"
      refine g_no (show ¬ V.str "undo" = V.str "mark" from by decide +kernel) ?_
      walk_at "gs"
      refine g_no (show ¬ V.str "undo" = V.str "back" from by decide +kernel) ?_
      walk_at "gs"
      refine g_yes (show V.str "undo" = V.str "undo" from rfl) ?_
      exact q true H1 ⟨fun _ => ⟨_, _, f⟩, fun _ => rfl⟩ s1
    | begin d => cases hd
    | fall m => cases hd
    | raised m hrow => cases hd
end
end Hs

set_option maxHeartbeats 4000000
namespace Hs
open PySem PySem.Spec PyProof.Rows L2 Sk
section
variable {P : Program} {w : World} {K : PySem.W.Frag} {mg : Str → Option Value} {base : Heap} {CW CD : Addr}
def spHappens : Sp := fun vs H Q _ => ∃ (G : Hp) (p : Addr) (s : St) (a : Sa) (ks : List Str) (n at_ : Nat) (v : V) (e : Ev), vs = [.ref p, v] ∧ StAt G H p s a ∧ SOk ks n s ∧ n ≤ 1000 ∧ EvAt G v e ∧ EvOk ks e ∧ s.can at_ e ∧ (at_ = 0 → s = St.new) ∧
  ∀ (a' : Sa) (G' H' : Hp), Step (a.M p) G H G' H' → StAt G' H' p (s.does e) a' → (∀ m ∈ a'.M p, m ∈ a.M p ∨ H m = none) → Q .non H'

theorem sk_put_base (s : St) (a : Sa) (v : V) : putK (stK s a) kBase v = [(kBase, v), (kStart, .ref a.A), (kKept, .ref a.B), (kOpen, .ref a.C)] := by
  have e1 : ¬ (kStart : Key) = kBase := by show ¬ kStart = kBase; decide +kernel
  have e2 : ¬ (kKept : Key) = kBase := by show ¬ kKept = kBase; decide +kernel
  have e3 : ¬ (kOpen : Key) = kBase := by show ¬ kOpen = kBase; decide +kernel
  unfold putK stK
  rw [if_pos (by simp)]
  simp only [List.map_cons, List.map_nil, if_neg e1, if_neg e2, if_neg e3, if_true]
theorem k4_put_start (b st kp op v : V) : putK [(kBase, b), (kStart, st), (kKept, kp), (kOpen, op)] kStart v = [(kBase, b), (kStart, v), (kKept, kp), (kOpen, op)] := by
  have e1 : ¬ (kBase : Key) = kStart := by show ¬ kBase = kStart; decide +kernel
  have e2 : ¬ (kKept : Key) = kStart := by show ¬ kKept = kStart; decide +kernel
  have e3 : ¬ (kOpen : Key) = kStart := by show ¬ kOpen = kStart; decide +kernel
  unfold putK
  rw [if_pos (by simp)]
  simp only [List.map_cons, List.map_nil, if_neg e1, if_neg e2, if_neg e3, if_true]
theorem k4_put_kept (b st kp op v : V) : putK [(kBase, b), (kStart, st), (kKept, kp), (kOpen, op)] kKept v = [(kBase, b), (kStart, st), (kKept, v), (kOpen, op)] := by
  have e1 : ¬ (kBase : Key) = kKept := by show ¬ kBase = kKept; decide +kernel
  have e2 : ¬ (kStart : Key) = kKept := by show ¬ kStart = kKept; decide +kernel
  have e3 : ¬ (kOpen : Key) = kKept := by show ¬ kOpen = kKept; decide +kernel
  unfold putK
  rw [if_pos (by simp)]
  simp only [List.map_cons, List.map_nil, if_neg e1, if_neg e2, if_neg e3, if_true]
theorem k4_put_open (b st kp op v : V) : putK [(kBase, b), (kStart, st), (kKept, kp), (kOpen, op)] kOpen v = [(kBase, b), (kStart, st), (kKept, kp), (kOpen, v)] := by
  have e1 : ¬ (kBase : Key) = kOpen := by show ¬ kBase = kOpen; decide +kernel
  have e2 : ¬ (kStart : Key) = kOpen := by show ¬ kStart = kOpen; decide +kernel
  have e3 : ¬ (kKept : Key) = kOpen := by show ¬ kKept = kOpen; decide +kernel
  unfold putK
  rw [if_pos (by simp)]
  simp only [List.map_cons, List.map_nil, if_neg e1, if_neg e2, if_neg e3, if_true]
theorem olK_same {G H : Hp} {p : Addr} {s : St} {a : Sa} {ks : List Str} {n : Nat} (h : StAt G H p s a) (ok : SOk ks n s) {e : Oe} (he : e ∈ a.ol) {e' : Oe} (hd : e'.d = e.d) (hT : e'.T = e.T) : olK (replO a.ol e.d e') = olK a.ol := by
  unfold olK replO
  rw [List.map_map]
  refine List.map_congr_left fun x hx => ?_
  by_cases c : x.d = e.d
  · have := uniq_o h ok he hx c
    subst this
    simp [hd, hT]
  · simp [c]
theorem olK_put {ol : List Oe} {e e' : Oe} (he : e ∈ ol) (hd : e'.d = e.d) : putK (olK ol) (Sum.inl e.d) (.ref e'.T) = olK (replO ol e.d e') := by
  unfold putK
  rw [if_pos]
  · unfold olK replO
    rw [List.map_map, List.map_map]
    refine List.map_congr_left fun x _ => ?_
    by_cases c : x.d = e.d
    · simp [c, hd]
    · have : ¬ (Sum.inl x.d : Key) = Sum.inl e.d := fun z => c (Sum.inl.inj z)
      simp [c]
  · rw [List.any_eq_true]
    exact ⟨_, List.mem_map_of_mem he, by simp⟩

theorem List.mem_of_mem_filter' {α : Type} {f : α → Bool} {x : α} {l : List α} (h : x ∈ l.filter f) : x ∈ l := (List.mem_filter.mp h).1

theorem sc__law_happens : FnScope ["state", "event", "word", "stand", "own"] ["state", "event"] (defScope s__law_happens) := ⟨rfl, rfl, rfl, by decide +kernel, rfl, by decide +kernel, by decide +kernel⟩
theorem ok__law_happens {f : Addr} {fd : FuncData} (F : FunD K "_law_happens" "_law_happens" (defArgs s__law_happens) (defBody s__law_happens) (defScope s__law_happens) [] [] f fd) (gm : mg "_law_happens" = some (.ref f)) (B : Bas mg) (c__law_places : Cal P w K mg base CX0 1 "_law_places" ["state"] spPlaces) : Cal P w K mg base CX0 2 "_law_happens" ["state", "event"] spHappens := by
  refine ⟨f, fd, F.ok sc__law_happens (fun vs H Q E h => ?_) (fun cdv A outer s H vs Q E hr h => ⟨_, PSs.nox (pss_cons (ps_set (i := 2) sc__law_happens.nd rfl (by first | exact Or.inl rfl | exact Or.inr rfl) (pe_ix (ix_tK K rfl) (pv 1) pe_int (fun _ _ => rfl)))
  (pss_one (ps_if (pt_cmpR op_eq (pv 2) pe_str (nomark _)) (pss_cons (ps_dput (hu_of hr) (pv 0) pe_str (pe_ix (ix_tK K rfl) (pv 1) pe_int (fun _ _ => rfl)) rfl)
    (pss_one (ps_dput (hu_of hr) (pv 0) pe_str (pe_callTy (call_dictPQ rfl) (by rfl) B.dict (by decide +kernel) (pa_cons (pe_ix (ix_tK K rfl) (pv 1) pe_int (fun _ _ => rfl)) pa_nil)) rfl)))
    (pss_one (ps_if (pt_cmpR op_eq (pv 2) pe_str (nomark _)) (pss_cons (ps_dput (hu_of hr) (pv 0) pe_str (pe_slice sl_list (pe_dget (hu_of hr) (pv 0) pe_str (fun _ _ => rfl)) po_none (po_some (pe_op op_sub (pe_ix (ix_tK K rfl) (pv 1) pe_int (fun _ _ => rfl)) (pe_dget (hu_of hr) (pv 0) pe_str (fun _ _ => rfl))))) rfl)
      (pss_one (ps_dput (hu_of hr) (pv 0) pe_str pe_dnewK rfl)))
      (pss_one (ps_if (pt_cmpR op_eq (pv 2) pe_str (nomark _)) (pss_one (ps_dput (hu_of hr) (pe_dget (hu_of hr) (pv 0) pe_str (fun _ _ => rfl)) (pe_ix (ix_tK K rfl) (pv 1) pe_int (fun _ _ => rfl)) (pe_tup (pa_cons (pe_cal c__law_places (hr.mono (by decide)) rfl pass0 (pa_cons (pv 0) pa_nil)) (pa_cons (pe_lst pa_nil) pa_nil))) rfl))
        (pss_one (ps_if (pt_cmpR op_eq (pv 2) pe_str (nomark _)) (pss_one (ps_expr (pe_bm PySem.F.plainAttrs_list PySem.F.slot_list_append PySem.F.type_list_append mt_append (pe_ix (ix_tK K rfl) (pe_dget (hu_of hr) (pe_dget (hu_of hr) (pv 0) pe_str (fun _ _ => rfl)) (pe_ix (ix_tK K rfl) (pv 1) pe_int (fun _ _ => rfl)) (fun _ _ => rfl)) pe_int (fun _ _ => rfl)) (pa_cons (pe_tup (pa_cons (pe_ix (ix_tK K rfl) (pv 1) pe_int (fun _ _ => rfl)) (pa_cons (pe_ix (ix_tK K rfl) (pv 1) pe_int (fun _ _ => rfl)) pa_nil))) pa_nil))))
          (pss_one (ps_if (pt_cmpR op_eq (pv 2) pe_str (nomark _)) (pss_one (ps_expr (pe_bm PySem.F.plainAttrs_list PySem.F.slot_list_append PySem.F.type_list_append mt_append (pe_ix (ix_tK K rfl) (pe_dget (hu_of hr) (pe_dget (hu_of hr) (pv 0) pe_str (fun _ _ => rfl)) (pe_ix (ix_tK K rfl) (pv 1) pe_int (fun _ _ => rfl)) (fun _ _ => rfl)) pe_int (fun _ _ => rfl)) (pa_cons (pe_tup (pa_cons (pe_ix (ix_tK K rfl) (pv 1) pe_int (fun _ _ => rfl)) (pa_cons pe_non pa_nil))) pa_nil))))
            (pss_one (ps_if (pt_cmpR op_eq (pv 2) pe_str (nomark _)) (pss_cons (ps_asg (pe_dget (hu_of hr) (pe_dget (hu_of hr) (pv 0) pe_str (fun _ _ => rfl)) (pe_ix (ix_tK K rfl) (pv 1) pe_int (fun _ _ => rfl)) (fun _ _ => rfl)) (pg_tup rfl (pgs_cons (pg_name (i := 3) sc__law_happens.nd rfl (by first | exact Or.inl rfl | exact Or.inr rfl)) (pgs_cons (pg_name (i := 4) sc__law_happens.nd rfl (by first | exact Or.inl rfl | exact Or.inr rfl)) pgs_nil))))
              (pss_one (ps_dput (hu_of hr) (pe_dget (hu_of hr) (pv 0) pe_str (fun _ _ => rfl)) (pe_ix (ix_tK K rfl) (pv 1) pe_int (fun _ _ => rfl)) (pe_tup (pa_cons (pv 3) (pa_cons (pe_slice sl_list (pv 4) po_none (po_some (pe_ix (ix_tK K rfl) (pv 1) pe_int (fun _ _ => rfl)))) pa_nil))) rfl)))
              (pss_one (ps_if (pt_cmpR op_eq (pv 2) pe_str (nomark _)) (pss_one (ps_expr (pe_bm PySem.F.plainAttrs_list PySem.F.slot_list_append PySem.F.type_list_append mt_append (pe_dget (hu_of hr) (pv 0) pe_str (fun _ _ => rfl)) (pa_cons (pe_tup (pa_cons (pe_ix (ix_tK K rfl) (pv 1) pe_int (fun _ _ => rfl)) (pa_cons (pe_ix (ix_tK K rfl) (pe_dpop1 (pe_dget (hu_of hr) (pv 0) pe_str (fun _ _ => rfl)) (pe_ix (ix_tK K rfl) (pv 1) pe_int (fun _ _ => rfl)) ⟨rfl, rfl, rfl, rfl⟩) pe_int (fun _ _ => rfl)) pa_nil))) pa_nil))))
                (pss_one (ps_if (pt_cmpR op_eq (pv 2) pe_str (nomark _)) (pss_one (ps_expr (pe_dpop1 (pe_dget (hu_of hr) (pv 0) pe_str (fun _ _ => rfl)) (pe_ix (ix_tK K rfl) (pv 1) pe_int (fun _ _ => rfl)) ⟨rfl, rfl, rfl, rfl⟩)))
                  pss_nil))))))))))))))))), ?_⟩), gm, F.kp, F.bindsN fun _ _ _ _ _ _ us hl => match us, hl with | [_, _], _ => rfl⟩
  · obtain ⟨G, p, s, a, ks, n, at_, v, e, rfl, _⟩ := h; rfl
  · obtain ⟨G, p, s, a, ks, n, at_, v, e, rfl, hs, ok, hn, ⟨t, us, rfl, ht, re⟩, eo, c, h0, q⟩ := h
    have hob := hs.ob
    have hop := hs.op
    have hkp := hs.kp
    have ht1 := hs.gh _ _ ht
    walk_at "gs"
    cases re with
    | begin d =>
      refine g_ixT ht1 (atI_nat (j := 0) rfl) ?_
      walk_at "gs"
      refine g_no (show ¬ V.str "begin" = V.str "raised" from by decide +kernel) ?_
      walk_at "gs"
      refine g_no (show ¬ V.str "begin" = V.str "fall" from by decide +kernel) ?_
      walk_at "gs"
      refine g_yes (show V.str "begin" = V.str "begin" from rfl) ?_
      walk_at "gs"
      obtain ⟨c1, c2, c3⟩ := c
      refine ⟨G, p, s, a, rfl, hs, ?_⟩
      walk_at "gs"
      refine g_newL sz0 fun W H1 W0 s1 hW => ?_
      walk_at "gs"
      refine g_newT (sz (by simp)) fun T H2 T0 s2 hT => ?_
      have s02 := s1.trans s2
      have ht2 := s02 _ _ ht1
      have hob2 := s02 _ _ hob
      have hop2 := s02 _ _ hop
      walk_at "gs"
      refine g_ixT ht2 (atI_nat (j := 1) rfl) ?_
      refine g_dputI hop2 (Nat.lt_of_le_of_lt (m := 1000) ?_ (by rw [sizeLine_eq]; decide)) ?_
      · have := ok.dn
        rw [← hs.os, List.length_map] at this
        unfold olK
        rw [List.length_map]
        omega
      walk_at "gs"
      have gT := growF (growM hs.gh s1).gh T0 s2 hT
      have g02 := (growM hs.gh s1).trans gT
      have hs2 := hs.grow g02
      have st := stepU (M := a.M p) (o := .dK (putK (olK a.ol) (Sum.inl d) (.ref T))) hs2.gh (hs2.gm _ smem_C) smem_C
      have WT : W ≠ T := fun z => by rw [z, T0] at hW; cases hW
      have WC : W ≠ a.C := fun z => by rw [z, hop] at W0; cases W0
      refine q _ _ _ (Step.gthen g02 st hs.live) (hs.begun (d := d) (T := T) (W := W) (fun b o hb eb => (upd_ne hb).trans (s02 _ _ eb)) g02.gg g02.old st.gh W0 ((upd_ne WT).trans (hs.gh.free W0)) upd_same ((upd_ne WC).trans (s2 _ _ hW)) upd_same c2) fun m hm => ?_
      rcases SM_iff.mp hm with z | z | z | ⟨e, he, z⟩ | ⟨e, he, z⟩
      · exact .inl (SM_iff.mpr (.inl z))
      · exact .inl (SM_iff.mpr (.inr (.inl z)))
      · exact .inl (SM_iff.mpr (.inr (.inr (.inl z))))
      · exact .inl (SM_iff.mpr (.inr (.inr (.inr (.inl ⟨e, he, z⟩)))))
      · rcases List.mem_append.mp he with he | he
        · exact .inl (SM_iff.mpr (.inr (.inr (.inr (.inr ⟨e, he, z⟩)))))
        · rw [List.mem_singleton.mp he] at z
          exact .inr (by rw [← z]; exact W0)
    | read d k w0 =>
      refine g_ixT ht1 (atI_nat (j := 0) rfl) ?_
      walk_at "gs"
      refine g_no (show ¬ V.str "read" = V.str "raised" from by decide +kernel) ?_
      walk_at "gs"
      refine g_no (show ¬ V.str "read" = V.str "fall" from by decide +kernel) ?_
      walk_at "gs"
      refine g_no (show ¬ V.str "read" = V.str "begin" from by decide +kernel) ?_
      walk_at "gs"
      refine g_no (show ¬ V.str "read" = V.str "put" from by decide +kernel) ?_
      walk_at "gs"
      refine g_no (show ¬ V.str "read" = V.str "drop" from by decide +kernel) ?_
      walk_at "gs"
      refine g_no (show ¬ V.str "read" = V.str "back" from by decide +kernel) ?_
      walk_at "gs"
      refine g_no (show ¬ V.str "read" = V.str "keep" from by decide +kernel) ?_
      walk_at "gs"
      refine g_no (show ¬ V.str "read" = V.str "undo" from by decide +kernel) ?_
      walk_at "gs"
      exact q a G H (Step.refl hs.gh) hs fun m hm => .inl hm
    | scan d lo hi hrow =>
      refine g_ixT ht1 (atI_nat (j := 0) rfl) ?_
      walk_at "gs"
      refine g_no (show ¬ V.str "scan" = V.str "raised" from by decide +kernel) ?_
      walk_at "gs"
      refine g_no (show ¬ V.str "scan" = V.str "fall" from by decide +kernel) ?_
      walk_at "gs"
      refine g_no (show ¬ V.str "scan" = V.str "begin" from by decide +kernel) ?_
      walk_at "gs"
      refine g_no (show ¬ V.str "scan" = V.str "put" from by decide +kernel) ?_
      walk_at "gs"
      refine g_no (show ¬ V.str "scan" = V.str "drop" from by decide +kernel) ?_
      walk_at "gs"
      refine g_no (show ¬ V.str "scan" = V.str "back" from by decide +kernel) ?_
      walk_at "gs"
      refine g_no (show ¬ V.str "scan" = V.str "keep" from by decide +kernel) ?_
      walk_at "gs"
      refine g_no (show ¬ V.str "scan" = V.str "undo" from by decide +kernel) ?_
      walk_at "gs"
      exact q a G H (Step.refl hs.gh) hs fun m hm => .inl hm
    | put d k w0 =>
      refine g_ixT ht1 (atI_nat (j := 0) rfl) ?_
      walk_at "gs"
      refine g_no (show ¬ V.str "put" = V.str "raised" from by decide +kernel) ?_
      walk_at "gs"
      refine g_no (show ¬ V.str "put" = V.str "fall" from by decide +kernel) ?_
      walk_at "gs"
      refine g_no (show ¬ V.str "put" = V.str "begin" from by decide +kernel) ?_
      walk_at "gs"
      refine g_yes (show V.str "put" = V.str "put" from rfl) ?_
      walk_at "gs"
      obtain ⟨st, own, f, cc⟩ := c
      obtain ⟨y, hy, e1, e2, e3, e4⟩ := hs.find f
      simp only at e2 e3
      subst e1 e2 e3
      obtain ⟨oT, oW, oP⟩ := hs.oe y hy
      have oT1 := hs.gh _ _ oT
      refine g_ixT ht1 (atI_nat (j := 1) rfl) ?_
      walk_at "gs"
      refine g_dgetI hop e4 ?_
      walk_at "gs"
      refine g_ixT oT1 (atI_nat (j := 1) rfl) ?_
      walk_at "gs"
      refine g_ixT ht1 (atI_nat (j := 2) rfl) ?_
      walk_at "gs"
      refine g_ixT ht1 (atI_nat (j := 3) rfl) ?_
      walk_at "gs"
      refine g_newT (sz (by simp)) fun T H1 T0 s1 hT => ?_
      have gT := growF hs.gh T0 s1 hT
      have hs1 := hs.grow gT
      have oW1 := s1 _ _ oW
      walk_at "gs"
      refine g_app oW1 (Nat.lt_of_le_of_lt (m := 1000) (by rw [Paired.len oP]; exact Nat.le_trans (ok.wn _ (hs.memOp hy)) hn) (by rw [sizeLine_eq]; decide)) ?_
      walk_at "gs"
      have gW : upd G T _ y.W = none := hs1.gm _ (smem_O hy)
      have st2 : Step (a.M p) (upd G T _) H1 (upd G T _) (upd H1 y.W (.lst (y.ws ++ [.ref T]))) := stepU hs1.gh gW (smem_O hy)
      have okS := Step.gthen gT st2 hs.live
      obtain ⟨oT2, _, oP2⟩ := hs1.oe y hy
      refine q _ _ _ okS (hs1.repl ok hy (T' := y.T) (fun wr => wr ++ [(k, some w0)]) rfl (.inl rfl) (fun b o h1 h2 eb => (upd_ne h2).trans eb) (Same.refl _) (fun _ _ => rfl) st2.gh ?_ oT2 upd_same (Paired.app oP2 (.cons ⟨T, rfl, upd_same⟩ .nil)) _ rfl) fun m hm => ?_
      · rw [upd_ne (ne_val hs1.op oW1 (fun z => nomatch z)), hs1.op]
        congr 2
        exact (olK_same hs1 ok hy (e' := { d := y.d, T := y.T, W := y.W, ws := y.ws ++ [.ref T], st := y.st, own := y.own ++ [(k, some w0)] }) rfl rfl).symm
      · rcases SM_iff.mp hm with z | z | z | ⟨e, he, z⟩ | ⟨e, he, z⟩
        · exact .inl (SM_iff.mpr (.inl z))
        · exact .inl (SM_iff.mpr (.inr (.inl z)))
        · exact .inl (SM_iff.mpr (.inr (.inr (.inl z))))
        · exact .inl (SM_iff.mpr (.inr (.inr (.inr (.inl ⟨e, he, z⟩)))))
        · obtain ⟨x, hx, ex⟩ := List.mem_map.mp he
          by_cases c : x.d = y.d
          · rw [if_pos c] at ex
            rw [← z, ← ex]
            exact .inl (SM_iff.mpr (.inr (.inr (.inr (.inr ⟨y, hy, rfl⟩)))))
          · rw [if_neg c] at ex
            rw [← z, ← ex]
            exact .inl (smem_O hx)
    | drop d k =>
      refine g_ixT ht1 (atI_nat (j := 0) rfl) ?_
      walk_at "gs"
      refine g_no (show ¬ V.str "drop" = V.str "raised" from by decide +kernel) ?_
      walk_at "gs"
      refine g_no (show ¬ V.str "drop" = V.str "fall" from by decide +kernel) ?_
      walk_at "gs"
      refine g_no (show ¬ V.str "drop" = V.str "begin" from by decide +kernel) ?_
      walk_at "gs"
      refine g_no (show ¬ V.str "drop" = V.str "put" from by decide +kernel) ?_
      walk_at "gs"
      refine g_yes (show V.str "drop" = V.str "drop" from rfl) ?_
      walk_at "gs"
      obtain ⟨st, own, f, cc⟩ := c
      obtain ⟨y, hy, e1, e2, e3, e4⟩ := hs.find f
      simp only at e2 e3
      subst e1 e2 e3
      obtain ⟨oT, oW, oP⟩ := hs.oe y hy
      have oT1 := hs.gh _ _ oT
      refine g_ixT ht1 (atI_nat (j := 1) rfl) ?_
      walk_at "gs"
      refine g_dgetI hop e4 ?_
      walk_at "gs"
      refine g_ixT oT1 (atI_nat (j := 1) rfl) ?_
      walk_at "gs"
      refine g_ixT ht1 (atI_nat (j := 2) rfl) ?_
      walk_at "gs"
      refine g_newT (sz (by simp)) fun T H1 T0 s1 hT => ?_
      have gT := growF hs.gh T0 s1 hT
      have hs1 := hs.grow gT
      have oW1 := s1 _ _ oW
      walk_at "gs"
      refine g_app oW1 (Nat.lt_of_le_of_lt (m := 1000) (by rw [Paired.len oP]; exact Nat.le_trans (ok.wn _ (hs.memOp hy)) hn) (by rw [sizeLine_eq]; decide)) ?_
      walk_at "gs"
      have gW : upd G T _ y.W = none := hs1.gm _ (smem_O hy)
      have st2 : Step (a.M p) (upd G T _) H1 (upd G T _) (upd H1 y.W (.lst (y.ws ++ [.ref T]))) := stepU hs1.gh gW (smem_O hy)
      have okS := Step.gthen gT st2 hs.live
      obtain ⟨oT2, _, oP2⟩ := hs1.oe y hy
      refine q _ _ _ okS (hs1.repl ok hy (T' := y.T) (fun wr => wr ++ [(k, none)]) rfl (.inl rfl) (fun b o h1 h2 eb => (upd_ne h2).trans eb) (Same.refl _) (fun _ _ => rfl) st2.gh ?_ oT2 upd_same (Paired.app oP2 (.cons ⟨T, rfl, upd_same⟩ .nil)) _ rfl) fun m hm => ?_
      · rw [upd_ne (ne_val hs1.op oW1 (fun z => nomatch z)), hs1.op]
        congr 2
        exact (olK_same hs1 ok hy (e' := { d := y.d, T := y.T, W := y.W, ws := y.ws ++ [.ref T], st := y.st, own := y.own ++ [(k, none)] }) rfl rfl).symm
      · rcases SM_iff.mp hm with z | z | z | ⟨e, he, z⟩ | ⟨e, he, z⟩
        · exact .inl (SM_iff.mpr (.inl z))
        · exact .inl (SM_iff.mpr (.inr (.inl z)))
        · exact .inl (SM_iff.mpr (.inr (.inr (.inl z))))
        · exact .inl (SM_iff.mpr (.inr (.inr (.inr (.inl ⟨e, he, z⟩)))))
        · obtain ⟨x, hx, ex⟩ := List.mem_map.mp he
          by_cases c : x.d = y.d
          · rw [if_pos c] at ex
            rw [← z, ← ex]
            exact .inl (SM_iff.mpr (.inr (.inr (.inr (.inr ⟨y, hy, rfl⟩)))))
          · rw [if_neg c] at ex
            rw [← z, ← ex]
            exact .inl (smem_O hx)
    | mark d m =>
      refine g_ixT ht1 (atI_nat (j := 0) rfl) ?_
      walk_at "gs"
      refine g_no (show ¬ V.str "mark" = V.str "raised" from by decide +kernel) ?_
      walk_at "gs"
      refine g_no (show ¬ V.str "mark" = V.str "fall" from by decide +kernel) ?_
      walk_at "gs"
      refine g_no (show ¬ V.str "mark" = V.str "begin" from by decide +kernel) ?_
      walk_at "gs"
      refine g_no (show ¬ V.str "mark" = V.str "put" from by decide +kernel) ?_
      walk_at "gs"
      refine g_no (show ¬ V.str "mark" = V.str "drop" from by decide +kernel) ?_
      walk_at "gs"
      refine g_no (show ¬ V.str "mark" = V.str "back" from by decide +kernel) ?_
      walk_at "gs"
      refine g_no (show ¬ V.str "mark" = V.str "keep" from by decide +kernel) ?_
      walk_at "gs"
      refine g_no (show ¬ V.str "mark" = V.str "undo" from by decide +kernel) ?_
      walk_at "gs"
      exact q a G H (Step.refl hs.gh) hs fun m hm => .inl hm
    | back d m =>
      refine g_ixT ht1 (atI_nat (j := 0) rfl) ?_
      walk_at "gs"
      refine g_no (show ¬ V.str "back" = V.str "raised" from by decide +kernel) ?_
      walk_at "gs"
      refine g_no (show ¬ V.str "back" = V.str "fall" from by decide +kernel) ?_
      walk_at "gs"
      refine g_no (show ¬ V.str "back" = V.str "begin" from by decide +kernel) ?_
      walk_at "gs"
      refine g_no (show ¬ V.str "back" = V.str "put" from by decide +kernel) ?_
      walk_at "gs"
      refine g_no (show ¬ V.str "back" = V.str "drop" from by decide +kernel) ?_
      walk_at "gs"
      refine g_yes (show V.str "back" = V.str "back" from rfl) ?_
      walk_at "gs"
      obtain ⟨st, own, f, cc⟩ := c
      obtain ⟨y, hy, e1, e2, e3, e4⟩ := hs.find f
      simp only at e2 e3
      subst e1 e2 e3
      obtain ⟨oT, oW, oP⟩ := hs.oe y hy
      have oT1 := hs.gh _ _ oT
      refine g_ixT ht1 (atI_nat (j := 1) rfl) ?_
      refine g_dgetI hop e4 ?_
      refine g_gTup (SqT.of oT1) rfl ?_
      walk_at "gs"
      have em : m = ((m.toNat : Nat) : Int) := by omega
      refine g_ixT ht1 (atI_nat (j := 2) rfl) ?_
      walk_at "gs"
      rw [em]
      refine g_slTo oW fun W W0 => ?_
      have s1 : Same H (upd H W (.lst (y.ws.take m.toNat))) := same_new W0
      have hW : upd H W (.lst (y.ws.take m.toNat)) W = _ := upd_same
      generalize upd H W (.lst (y.ws.take m.toNat)) = H1 at s1 hW ⊢
      walk_at "gs"
      refine g_newT (sz (by simp)) fun T H2 T0 s2 hT => ?_
      have s02 := s1.trans s2
      have ht2 := s02 _ _ ht1
      have hob2 := s02 _ _ hob
      have hop2 := s02 _ _ hop
      walk_at "gs"
      refine g_ixT ht2 (atI_nat (j := 1) rfl) ?_
      refine g_dputI hop2 (Nat.lt_of_le_of_lt (m := 1000) ?_ (by rw [sizeLine_eq]; decide)) ?_
      · have := ok.dn
        rw [← hs.os, List.length_map] at this
        unfold olK
        rw [List.length_map]
        omega
      walk_at "gs"
      have gT := growF (growM hs.gh s1).gh T0 s2 hT
      have g02 := (growM hs.gh s1).trans gT
      have hs2 := hs.grow g02
      have st := stepU (M := a.M p) (o := .dK (putK (olK a.ol) (Sum.inl y.d) (.ref T))) hs2.gh (hs2.gm _ smem_C) smem_C
      have WT : W ≠ T := fun z => by rw [z, T0] at hW; cases hW
      have WC : W ≠ a.C := fun z => by rw [z, hop] at W0; cases W0
      have gW : upd G T (.tup [.int y.st, .ref W]) W = none := (upd_ne WT).trans (hs.gh.free W0)
      refine q _ _ _ (Step.gthen g02 st hs.live) (hs.repl ok hy (T' := T) (W' := W) (fun wr => wr.take m.toNat) rfl (.inr ⟨W0, gW⟩) (fun b o h1 h2 eb => (upd_ne h1).trans (s02 _ _ eb)) g02.gg g02.old st.gh ?_ upd_same ((upd_ne WC).trans (s2 _ _ hW)) (Paired.imp (fun _ _ z => z.grow g02.gg) (Paired.tak _ oP)) _ rfl) fun m hm => ?_
      · rw [upd_same]
        congr 2
        exact olK_put (e' := { y with T := T, W := W, ws := y.ws.take m.toNat, own := y.own.take m.toNat }) hy rfl
      · rcases SM_iff.mp hm with z | z | z | ⟨e, he, z⟩ | ⟨e, he, z⟩
        · exact .inl (SM_iff.mpr (.inl z))
        · exact .inl (SM_iff.mpr (.inr (.inl z)))
        · exact .inl (SM_iff.mpr (.inr (.inr (.inl z))))
        · exact .inl (SM_iff.mpr (.inr (.inr (.inr (.inl ⟨e, he, z⟩)))))
        · obtain ⟨x, hx, ex⟩ := List.mem_map.mp he
          by_cases c : x.d = y.d
          · rw [if_pos c] at ex
            rw [← z, ← ex]
            exact .inr W0
          · rw [if_neg c] at ex
            rw [← z, ← ex]
            exact .inl (smem_O hx)
    | keep d m =>
      refine g_ixT ht1 (atI_nat (j := 0) rfl) ?_
      walk_at "gs"
      refine g_no (show ¬ V.str "keep" = V.str "raised" from by decide +kernel) ?_
      walk_at "gs"
      refine g_no (show ¬ V.str "keep" = V.str "fall" from by decide +kernel) ?_
      walk_at "gs"
      refine g_no (show ¬ V.str "keep" = V.str "begin" from by decide +kernel) ?_
      walk_at "gs"
      refine g_no (show ¬ V.str "keep" = V.str "put" from by decide +kernel) ?_
      walk_at "gs"
      refine g_no (show ¬ V.str "keep" = V.str "drop" from by decide +kernel) ?_
      walk_at "gs"
      refine g_no (show ¬ V.str "keep" = V.str "back" from by decide +kernel) ?_
      walk_at "gs"
      refine g_yes (show V.str "keep" = V.str "keep" from rfl) ?_
      walk_at "gs"
      obtain ⟨st, own, f, cc⟩ := c
      obtain ⟨y, hy, e1, e2, e3, e4⟩ := hs.find f
      simp only at e2 e3
      subst e1 e2 e3
      obtain ⟨oT, oW, oP⟩ := hs.oe y hy
      have oT1 := hs.gh _ _ oT
      refine g_ixT ht1 (atI_nat (j := 1) rfl) ?_
      walk_at "gs"
      refine ⟨a.C, rfl, isD_k hop, ?_⟩
      walk_at "gs"
      refine g_ixT ht1 (atI_nat (j := 1) rfl) ?_
      refine ⟨_, Sum.inl y.d, _, hop, rfl, e4, ?_⟩
      have gh1 : Same G (upd H a.C (.dK (dropK (olK a.ol) (Sum.inl y.d)))) := fun b o eb => by
        rw [upd_ne (ne_of_none eb (hs.gm _ smem_C))]
        exact hs.gh _ _ eb
      have hs1 := hs.popped (d := y.d) (fun b o hb eb => (upd_ne hb).trans eb) gh1 upd_same _ rfl
      have fr1 : ∀ b o, b ≠ a.C → H b = some o → upd H a.C (.dK (dropK (olK a.ol) (Sum.inl y.d))) b = some o := fun b o hb eb => (upd_ne hb).trans eb
      have lv1 : Lives H (upd H a.C (.dK (dropK (olK a.ol) (Sum.inl y.d)))) := fun b hb => by
        by_cases c : b = a.C
        · rw [c, upd_same]; simp
        · rw [upd_ne c]; exact hb
      generalize upd H a.C (.dK (dropK (olK a.ol) (Sum.inl y.d))) = H1 at gh1 hs1 fr1 lv1 ⊢
      have oT2 := gh1 _ _ oT
      have oW1 := fr1 _ _ (ne_val oW hop (fun z => nomatch z)) oW
      have hkp1 : H1 a.B = some (.lst (a.kl.map fun e => V.ref e.T)) := hs1.kp
      walk_at "gs"
      refine g_ixT oT2 (atI_nat (j := 1) rfl) ?_
      walk_at "gs"
      refine g_newT (sz (by simp)) fun T H2 T0 s2 hT => ?_
      have gT := growF hs1.gh T0 s2 hT
      have hs2 := hs1.grow gT
      have hkp2 := s2 _ _ hkp1
      walk_at "gs"
      have kl : a.kl.length = s.kept.length := by rw [← hs.ks, List.length_map]
      refine g_app hkp2 (by rw [List.length_map, kl, sizeLine_eq]; have := ok.kn; omega) ?_
      walk_at "gs"
      obtain ⟨n1, n2, n3, n4, n5⟩ := nl_parts hs
      have st := stepU (M := [a.B]) (o := .lst ((a.kl.map fun e => V.ref e.T) ++ [.ref T])) hs2.gh (hs2.gm _ smem_B) (by simp)
      have old : ∀ b, H b ≠ none → upd G T (.tup [.int y.d, .ref y.W]) b = G b := fun b hb => gT.old b (lv1 b hb)
      have hown : s.own y.d = y.own := by unfold St.own; rw [f]
      refine q _ _ _ ⟨gT.gg, st.gh, fun b o hb eb => ?_, old⟩ (hs1.keeps (d := y.d) (own := y.own) (T := T) (W := y.W) (ws := y.ws) (fun b o hb eb => (upd_ne hb).trans (s2 _ _ eb)) gT.gg gT.old st.gh upd_same upd_same oW1 oP (fun z => n5 y hy z.symm) (fun e he => n3 e he y hy) (fun e he z => ?_) (hs.gm _ (smem_O hy)) _ ?_) fun m hm => ?_
      · have bC : b ≠ a.C := fun z => hb (by rw [z]; exact smem_C)
        have bB : b ≠ a.B := fun z => hb (by rw [z]; exact smem_B)
        exact (upd_ne bB).trans (s2 _ _ (fr1 _ _ bC eb))
      · have he' : e ∈ a.ol := List.mem_of_mem_filter' he
        have hne : e.d ≠ y.d := by simpa using (List.mem_filter.mp he).2
        exact hne (by rw [inj_of n2 hy he' z])
      · show St.mk s.base s.start (s.kept ++ [(y.d, s.own y.d)]) (dropOp s.op y.d) = _
        rw [hown]
      · refine .inl ?_
        rcases SM_iff.mp hm with z | z | z | ⟨e, he, z⟩ | ⟨e, he, z⟩
        · exact SM_iff.mpr (.inl z)
        · exact SM_iff.mpr (.inr (.inl z))
        · exact SM_iff.mpr (.inr (.inr (.inl z)))
        · rcases List.mem_append.mp he with he | he
          · exact SM_iff.mpr (.inr (.inr (.inr (.inl ⟨e, he, z⟩))))
          · rw [List.mem_singleton.mp he] at z
            exact SM_iff.mpr (.inr (.inr (.inr (.inr ⟨y, hy, z⟩))))
        · exact SM_iff.mpr (.inr (.inr (.inr (.inr ⟨e, List.mem_of_mem_filter' he, z⟩))))
    | undo d =>
      refine g_ixT ht1 (atI_nat (j := 0) rfl) ?_
      walk_at "gs"
      refine g_no (show ¬ V.str "undo" = V.str "raised" from by decide +kernel) ?_
      walk_at "gs"
      refine g_no (show ¬ V.str "undo" = V.str "fall" from by decide +kernel) ?_
      walk_at "gs"
      refine g_no (show ¬ V.str "undo" = V.str "begin" from by decide +kernel) ?_
      walk_at "gs"
      refine g_no (show ¬ V.str "undo" = V.str "put" from by decide +kernel) ?_
      walk_at "gs"
      refine g_no (show ¬ V.str "undo" = V.str "drop" from by decide +kernel) ?_
      walk_at "gs"
      refine g_no (show ¬ V.str "undo" = V.str "back" from by decide +kernel) ?_
      walk_at "gs"
      refine g_no (show ¬ V.str "undo" = V.str "keep" from by decide +kernel) ?_
      walk_at "gs"
      obtain ⟨st, own, f⟩ := c
      obtain ⟨y, hy, e1, e2, e3, e4⟩ := hs.find f
      simp only at e2 e3
      subst e1 e2 e3
      obtain ⟨oT, oW, oP⟩ := hs.oe y hy
      have oT1 := hs.gh _ _ oT
      refine g_yes (show V.str "undo" = V.str "undo" from rfl) ?_
      walk_at "gs"
      refine ⟨a.C, rfl, isD_k hop, ?_⟩
      walk_at "gs"
      refine g_ixT ht1 (atI_nat (j := 1) rfl) ?_
      refine ⟨_, Sum.inl y.d, _, hop, rfl, e4, ?_⟩
      walk_at "gs"
      have gh : Same G (upd H a.C (.dK (dropK (olK a.ol) (Sum.inl y.d)))) := fun b o eb => by
        rw [upd_ne (ne_of_none eb (hs.gm _ smem_C))]
        exact hs.gh _ _ eb
      refine q _ _ _ (stepU hs.gh (hs.gm _ smem_C) smem_C) (hs.popped (d := y.d) (fun b o hb eb => (upd_ne hb).trans eb) gh upd_same _ rfl) fun m hm => .inl ?_
      rcases SM_iff.mp hm with z | z | z | ⟨e, he, z⟩ | ⟨e, he, z⟩
      · exact SM_iff.mpr (.inl z)
      · exact SM_iff.mpr (.inr (.inl z))
      · exact SM_iff.mpr (.inr (.inr (.inl z)))
      · exact SM_iff.mpr (.inr (.inr (.inr (.inl ⟨e, he, z⟩))))
      · exact SM_iff.mpr (.inr (.inr (.inr (.inr ⟨e, List.mem_of_mem_filter' he, z⟩))))
    | fall m =>
      refine g_ixT ht1 (atI_nat (j := 0) rfl) ?_
      walk_at "gs"
      refine g_no (show ¬ V.str "fall" = V.str "raised" from by decide +kernel) ?_
      walk_at "gs"
      refine g_yes (show V.str "fall" = V.str "fall" from rfl) ?_
      walk_at "gs"
      have m1 : s.base ≤ m := c.1
      have e1 : m - s.base = ((s.ofs m : Nat) : Int) := by unfold St.ofs; omega
      have tp : t ≠ p := ne_of_none ht (hs.gm _ smem_p)
      refine g_ixT ht1 (atI_nat (j := 1) rfl) ?_
      walk_at "gs"
      rw [e1]
      refine g_slTo hkp fun B' B0 => ?_
      have pB : p ≠ B' := ne_of_none hob B0
      walk_at "gs"
      refine g_dputS ((upd_ne pB).trans hob) (by rw [sizeLine_eq]; simp) ?_
      rw [show putK (stK s a) (Sum.inr "kept") (V.ref B') = _ from k4_put_kept _ _ _ _ (V.ref B')]
      walk_at "gs"
      refine g_dnew fun C' C0 => ?_
      obtain ⟨Cp, C1⟩ := free_upd C0
      obtain ⟨CB, C2⟩ := free_upd C1
      walk_at "gs"
      refine g_dputS ((upd_ne (Ne.symm Cp)).trans upd_same) (by rw [sizeLine_eq]; simp) ?_
      rw [show putK [(kBase, V.int s.base), (kStart, .ref a.A), (kKept, .ref B'), (kOpen, .ref a.C)] (Sum.inr "open") (V.ref C') = _ from k4_put_open _ _ _ _ (V.ref C')]
      walk_at "gs"
      have frf : ∀ (x1 x2 x3 x4 : HO) b o, b ≠ p → H b = some o → upd (upd (upd (upd H B' x1) p x2) C' x3) p x4 b = some o := fun _ _ _ _ b o hb eb => (upd_ne hb).trans ((upd_ne (ne_of_none eb C2)).trans ((upd_ne hb).trans ((upd_ne (ne_of_none eb B0)).trans eb)))
      have gh : ∀ x1 x2 x3 x4 : HO, Same G (upd (upd (upd (upd H B' x1) p x2) C' x3) p x4) := fun _ _ _ _ b o eb => frf _ _ _ _ b o (ne_of_none eb (hs.gm _ smem_p)) (hs.gh _ _ eb)
      refine q _ _ _ ⟨Same.refl _, gh _ _ _ _, fun b o hb eb => frf _ _ _ _ b o (fun z => hb (by rw [z]; exact smem_p)) eb, fun _ _ => rfl⟩ (hs.fallen (m := s.ofs m) (B' := B') (C' := C') (frf _ _ _ _) (gh _ _ _ _) B0 C2 upd_same ((upd_ne (Ne.symm pB)).trans ((upd_ne (Ne.symm CB)).trans ((upd_ne (Ne.symm pB)).trans upd_same))) ((upd_ne Cp).trans upd_same) _ rfl) fun m hm => ?_
      rcases SM_iff.mp hm with z | z | z | ⟨e, he, z⟩ | ⟨e, he, z⟩
      · exact .inl (SM_iff.mpr (.inl z))
      · exact .inr (by rw [z]; exact B0)
      · exact .inr (by rw [z]; exact C2)
      · exact .inl (SM_iff.mpr (.inr (.inr (.inr (.inl ⟨e, List.mem_of_mem_take he, z⟩)))))
      · exact (List.not_mem_nil he).elim
    | raised m hrow =>
      refine g_ixT ht1 (atI_nat (j := 0) rfl) ?_
      walk_at "gs"
      refine g_yes (show V.str "raised" = V.str "raised" from rfl) ?_
      walk_at "gs"
      obtain ⟨L, vs, rfl, hL, pL⟩ := hrow
      obtain ⟨ps, rfl, pp⟩ := rowsPs pL
      have hL1 := hs.gh _ _ hL
      have tp : t ≠ p := ne_of_none ht (hs.gm _ smem_p)
      have Lp : L ≠ p := ne_of_none hL (hs.gm _ smem_p)
      refine g_ixT ht1 (atI_nat (j := 1) rfl) ?_
      walk_at "gs"
      refine g_dputS hob (by rw [sizeLine_eq]; simp) ?_
      rw [show putK (stK s a) (Sum.inr "base") (V.int m) = _ from sk_put_base s a (V.int m)]
      walk_at "gs"
      refine g_ixT ((upd_ne tp).trans ht1) (atI_nat (j := 2) rfl) ?_
      walk_at "gs"
      refine ⟨L, ps, rowsK _, rfl, SqL.of ((upd_ne Lp).trans hL1), rowsKP (Paired.imp (fun b x eb => (upd_ne (ne_of_none eb (hs.gm _ smem_p))).trans (hs.gh _ _ eb)) pp), fun F F0 => ?_⟩
      obtain ⟨Fp, F1⟩ := free_upd F0
      rw [mergeK_nd (rowsK _) [] (by exact (DkOk.rows (ks := ks) eo.2.1 eo.2.2).nd), List.nil_append]
      walk_at "gs"
      refine g_dputS ((upd_ne (Ne.symm Fp)).trans upd_same) (by rw [sizeLine_eq]; simp) ?_
      rw [show putK [(kBase, V.int m), (kStart, .ref a.A), (kKept, .ref a.B), (kOpen, .ref a.C)] (Sum.inr "start") (V.ref F) = _ from k4_put_start _ _ _ _ (V.ref F)]
      walk_at "gs"
      have gF : G F = none := hs.gh.free F1
      have frf : ∀ (x1 x2 x3 : HO) b o, b ≠ p → H b = some o → upd (upd (upd H p x1) F x2) p x3 b = some o := fun _ _ _ b o hb eb => (upd_ne hb).trans ((upd_ne (ne_of_none eb F1)).trans ((upd_ne hb).trans eb))
      have gh : ∀ (u x1 x3 : HO), Same (upd G F u) (upd (upd (upd H p x1) F u) p x3) := fun _ _ _ b o eb => by
        by_cases cF : b = F
        · rw [cF, upd_same] at eb
          rw [cF, ← eb]
          exact (upd_ne Fp).trans upd_same
        · rw [upd_ne cF] at eb
          exact frf _ _ _ b o (ne_of_none eb (hs.gm _ smem_p)) (hs.gh _ _ eb)
      have old : ∀ (u : HO) b, H b ≠ none → upd G F u b = G b := fun _ b hb => upd_ne (fun z => hb (by rw [z]; exact F1))
      exact q _ _ _ ⟨same_new gF, gh _ _ _, fun b o hb eb => frf _ _ _ b o (fun z => hb (by rw [z]; exact smem_p)) eb, old _⟩ (hs.raisen (A' := F) (frf _ _ _) (same_new gF) (old _) (gh _ _ _) upd_same upd_same _ rfl) fun m hm => .inl hm
end
end Hs

set_option maxHeartbeats 4000000
namespace Hs
open PySem PySem.Spec PyProof.Rows L2 Sk
section
variable {P : Program} {w : World} {K : PySem.W.Frag} {mg : Str → Option Value} {base : Heap} {CW CD : Addr}
def spNewState : Sp := fun vs H Q _ => ∃ G : Hp, vs = [] ∧ Same G H ∧ ∀ (p : Addr) (a : Sa) (G' H' : Hp), Grow G H G' H' → StAt G' H' p St.new a → (∀ m ∈ a.M p, H m = none) → Q (.ref p) H'

theorem sc__law_new_state : FnScope [] [] (defScope s__law_new_state) := ⟨rfl, rfl, rfl, by decide +kernel, rfl, by decide +kernel, by decide +kernel⟩
theorem ok__law_new_state {f : Addr} {fd : FuncData} (F : FunD K "_law_new_state" "_law_new_state" (defArgs s__law_new_state) (defBody s__law_new_state) (defScope s__law_new_state) [] [] f fd) (gm : mg "_law_new_state" = some (.ref f)) (B : Bas mg)  : Cal P w K mg base CX0 1 "_law_new_state" [] spNewState := by
  refine ⟨f, fd, F.ok sc__law_new_state (fun vs H Q E h => ?_) (fun cdv A outer s H vs Q E hr h => ⟨_, PSs.nox (pss_one (ps_ret (pe_disp (pps_cons pe_str pe_int (pps_cons pe_str pe_dnewK (pps_cons pe_str (pe_lst pa_nil) (pps_cons pe_str pe_dnewK pps_nil)))) rfl rfl (by simp) (by decide)))), ?_⟩), gm, F.kp, F.bindsN fun _ _ _ _ _ _ us hl => match us, hl with | [], _ => rfl⟩
  · obtain ⟨G, rfl, _⟩ := h; rfl
  · obtain ⟨G, rfl, gh, q⟩ := h
    walk_at "gs"
    refine g_disp fun P P0 => ?_
    walk_at "gs"
    refine g_dnew fun A A0 => ?_
    obtain ⟨AP, A1⟩ := free_upd A0
    walk_at "gs"
    refine g_lst' sz0 fun B B0 => ?_
    obtain ⟨BA, B1⟩ := free_upd B0
    obtain ⟨BP, B2⟩ := free_upd B1
    walk_at "gs"
    refine g_dnew fun C C0 => ?_
    obtain ⟨CB, C1⟩ := free_upd C0
    obtain ⟨CA, C2⟩ := free_upd C1
    obtain ⟨CP, C3⟩ := free_upd C2
    walk_at "gs"
    refine ⟨(upd_ne (Ne.symm CP)).trans ((upd_ne (Ne.symm BP)).trans ((upd_ne (Ne.symm AP)).trans upd_same)), [(kBase, .int 0), (kStart, .ref A), (kKept, .ref B), (kOpen, .ref C)], rfl, by simp, ?_⟩
    rw [mergeK_nd _ [] (by show [kBase, kStart, kKept, kOpen].Nodup; decide +kernel), List.nil_append]
    walk_at "gs"
    have fr : ∀ (x1 x2 x3 x4 x5 : HO) b o, H b = some o → upd (upd (upd (upd (upd H P x1) A x2) B x3) C x4) P x5 b = some o := fun _ _ _ _ _ b o eb => by
      have h1 := ne_of_none eb P0
      have h2 := ne_of_none eb A1
      have h3 := ne_of_none eb B2
      have h4 := ne_of_none eb C3
      rw [upd_ne h1, upd_ne h4, upd_ne h3, upd_ne h2, upd_ne h1]
      exact eb
    have gr := growF (G := G) (H := H) (p := A) (o := .dK []) gh A1 (fr (.dK []) (.dK []) (.lst []) (.dK []) (.dK [(kBase, .int 0), (kStart, .ref A), (kKept, .ref B), (kOpen, .ref C)])) ((upd_ne AP).trans ((upd_ne (Ne.symm CA)).trans ((upd_ne (Ne.symm BA)).trans upd_same)))
    refine q P ⟨A, B, C, [], []⟩ _ _ gr ⟨gr.gh, upd_same, upd_same, (upd_ne BP).trans ((upd_ne (Ne.symm CB)).trans upd_same), rfl, fun _ he => (List.not_mem_nil he).elim, (upd_ne CP).trans upd_same, rfl, fun _ he => (List.not_mem_nil he).elim, List.pairwise_singleton _ _, Ne.symm CP, fun m hm => ?_⟩ fun m hm => ?_
    · rcases SM_iff.mp hm with z | z | z | ⟨e, he, z⟩ | ⟨e, he, z⟩
      · rw [z, upd_ne (Ne.symm AP)]; exact gh.free P0
      · rw [z, upd_ne BA]; exact gh.free B2
      · rw [z, upd_ne CA]; exact gh.free C3
      · exact (List.not_mem_nil he).elim
      · exact (List.not_mem_nil he).elim
    · rcases SM_iff.mp hm with z | z | z | ⟨e, he, z⟩ | ⟨e, he, z⟩
      · rw [z]; exact P0
      · rw [z]; exact B2
      · rw [z]; exact C3
      · exact (List.not_mem_nil he).elim
      · exact (List.not_mem_nil he).elim
end
end Hs

set_option maxHeartbeats 4000000
namespace Hs
open PySem PySem.Spec PyProof.Rows L2 Sk
section
variable {P : Program} {w : World} {K : PySem.W.Frag} {mg : Str → Option Value} {base : Heap} {CW CD : Addr}
structure Pos (s : St) : Prop where
  o : ∀ x ∈ s.op, 0 < x.1
  k : ∀ x ∈ s.kept, 0 < x.1
def spBegun : Sp := fun vs H Q _ => ∃ (G : Hp) (w p : Addr) (s : St) (a : Sa) (ks : List Str) (m : Nat) (n : Int), vs = [.ref w, .ref p] ∧ Well H w n ∧ n < 800000 ∧ G w = none ∧ StAt G H p s a ∧ w ∉ a.M p ∧ SOk ks m s ∧ m ≤ 1000 ∧ s.op.length ≤ 60 ∧ Pos s ∧
  ∀ (d : Int) (t : Addr) (G' H' : Hp), Step [w] G H G' H' → Well H' w (n + 3) → EvAt G' (.ref t) (.begin d) → s.can 1 (.begin d) → Q (.ref t) H'
theorem But.stepNew {G H H1 H2 : Hp} {w T : Addr} {o : HO} (gh : Same G H) (gw : G w = none) (c : But w H H1) (T0 : H1 T = none) (hT0 : H T = none) (s : Same H1 H2) (hT : H2 T = some o) : Step [w] G H (upd G T o) H2 := by
  have gT : G T = none := gh.free hT0
  refine ⟨same_new gT, fun b u e => ?_, fun b u hb e => s _ _ (c b u (fun z => hb (by rw [z]; simp)) e), fun b hb => upd_ne (fun z => hb (by rw [z]; exact hT0))⟩
  by_cases z : b = T
  · subst z; rw [upd_same] at e; rw [hT]; exact e
  · rw [upd_ne z] at e
    exact s _ _ (c b u (ne_of_none e gw) (gh _ _ e))
theorem But.freeOf {w T : Addr} {H H1 : Hp} (c : But w H H1) (hw : H1 w ≠ none) (T0 : H1 T = none) : H T = none := by
  cases e : H T with
  | none => rfl
  | some o =>
    have ne : T ≠ w := fun z => hw (by rw [← z]; exact T0)
    rw [c _ _ ne e] at T0
    cases T0

theorem sc__law_begun : FnScope ["well", "state", "there", "one", "writes", "number", "other"] ["well", "state"] (defScope s__law_begun) := ⟨rfl, rfl, rfl, by decide +kernel, rfl, by decide +kernel, by decide +kernel⟩
theorem ok__law_begun {f : Addr} {fd : FuncData} (F : FunD K "_law_begun" "_law_begun" (defArgs s__law_begun) (defBody s__law_begun) (defScope s__law_begun) [] [] f fd) (gm : mg "_law_begun" = some (.ref f)) (B : Bas mg) (c__law_draw : Cal P w K mg base CX0 2 "_law_draw" ["well", "many"] spDraw) : Cal P w K mg base CX0 3 "_law_begun" ["well", "state"] spBegun := by
  refine ⟨f, fd, F.ok sc__law_begun (fun vs H Q E h => ?_) (fun cdv A outer s H vs Q E hr h => ⟨_, PSs.nox (pss_cons (ps_set (i := 2) sc__law_begun.nd rfl (by first | exact Or.inl rfl | exact Or.inr rfl) (pe_op op_cat (pe_callB (call_sortDIQ rfl) (by rfl) B.sorted (by decide +kernel) (pa_cons (pe_dget (hu_of hr) (pv 1) pe_str (fun _ _ => rfl)) pa_nil)) (pe_lc (own := [("one", 3), ("writes", 4)]) rfl sc__law_begun.nd (pi_list (pe_dget (hu_of hr) (pv 1) pe_str (fun _ _ => rfl))) (blkOk_by (N := ["well", "state", "there", "one", "writes", "number", "other"]) (sc := defScope s__law_begun) (by decide +kernel)) (fun _ _ _ _ _ => (pg_tupK (n := 2) K rfl rfl (pgs_cons (pg_name (i := 3) sc__law_begun.nd rfl (by first | exact Or.inl rfl | exact Or.inr rfl)) (pgs_cons (pg_name (i := 4) sc__law_begun.nd rfl (by first | exact Or.inl rfl | exact Or.inr rfl)) pgs_nil)))) (fun _ _ _ _ _ => pts_nil) (fun _ _ _ _ _ => (pv 3)))))
  (pss_cons (ps_mark (ps_set (i := 5) sc__law_begun.nd rfl (by first | exact Or.inl rfl | exact Or.inr rfl) (pe_op op_add (pe_callBK (call_maxDf rfl hr.units) (by rfl) B.max (by decide +kernel) (pa_cons (pv 2) pa_nil) (pk_cons pe_int pk_nil)) pe_int)))
  (pss_cons (ps_set (i := 6) sc__law_begun.nd rfl (by first | exact Or.inl rfl | exact Or.inr rfl) (pe_ix (ix_lK K rfl) (pe_lst (pa_cons (pv 5) (pa_cons (pv 5) (pa_cons (pe_op op_add pe_int (pe_cal c__law_draw (hr.mono (by decide)) rfl pass0 (pa_cons (pv 0) (pa_cons pe_int pa_nil)))) (pa_cons (pe_op op_add pe_int (pe_cal c__law_draw (hr.mono (by decide)) rfl pass0 (pa_cons (pv 0) (pa_cons (pe_op op_sub (pe_op op_powW pe_int pe_int) pe_int) pa_nil)))) pa_nil))))) (pe_cal c__law_draw (hr.mono (by decide)) rfl pass0 (pa_cons (pv 0) (pa_cons pe_int pa_nil))) (fun _ _ => rfl)))
  (pss_cons (ps_if (pt_cmpR op_notIn_seq (pv 6) (pv 2) rfl) (pss_one (ps_set (i := 5) sc__law_begun.nd rfl (by first | exact Or.inl rfl | exact Or.inr rfl) (pv 6)))
    pss_nil)
  (pss_one (ps_ret (pe_tup (pa_cons pe_str (pa_cons (pv 5) pa_nil))))))))), ?_⟩), gm, F.kp, F.bindsN fun _ _ _ _ _ _ us hl => match us, hl with | [_, _], _ => rfl⟩
  · obtain ⟨G, w, p, s, a, ks, m, n, rfl, _⟩ := h; rfl
  · obtain ⟨G, w, p, s, a, ks, m, n, rfl, hw, hn, gw, hs, wM, ok, hm, ho, po, q⟩ := h
    have hob := hs.ob
    have hop := hs.op
    have hkp := hs.kp
    have kl : a.kl.length = s.kept.length := by rw [← hs.ks, List.length_map]
    have ol : a.ol.length = s.op.length := by rw [← hs.os, List.length_map]
    have kn := ok.kn
    walk_at "gs"
    refine ⟨a.C, olK a.ol, a.ol.map (·.d), rfl, Rd.of hop, ?_, by rw [List.length_map]; omega, fun ys Y perm srt Y0 => ?_⟩
    · unfold olK
      rw [List.map_map, List.map_map]
      rfl
    have s1 : Same H (upd H Y (.lst (ys.map V.int))) := same_new Y0
    have hY : upd H Y (.lst (ys.map V.int)) Y = _ := upd_same
    generalize upd H Y (.lst (ys.map V.int)) = H1 at s1 hY ⊢
    have hob1 := s1 _ _ hob
    have hkp1 := s1 _ _ hkp
    walk_at "gs"
    refine g_lcL ?_
    walk_at "gs"
    refine lcL_to (SqL.of hkp1) (a.kl.map fun e => some (.int e.d)) (by simp) (by rw [List.length_map, sizeLine_eq]; omega) ?_ ?_
    · intro i x z H' hx hz s' R r
      rw [List.getElem?_map] at hx hz
      cases hki : a.kl[i]? with
      | none => rw [hki] at hx; cases hx
      | some e =>
        rw [hki] at hx hz
        injection hx with hx
        injection hz with hz
        subst hx hz
        refine g_gTup (SqT.of (s' _ _ (s1 _ _ (hs.gh _ _ (hs.ke e (List.mem_of_getElem? hki)).1)))) rfl ?_
        walk_at "gs"
        refine ⟨rfl, ?_⟩
        walk_at "gs"
        exact r H' (Same.refl _)
    intro D H2 D0 s2 hD
    rw [fm_some] at hD
    walk_at "gs"
    have ly : ys.length = a.ol.length := by rw [perm.length_eq, List.length_map]
    refine g_newC (s2 _ _ hY) hD (by rw [List.length_map, List.length_map, sizeLine_eq]; omega) fun L H3 L0 s3 hL => ?_
    have s03 : Same H H3 := s1.trans (s2.trans s3)
    have el : (ys.map V.int ++ a.kl.map fun e => V.int e.d) = (ys ++ a.kl.map fun e => e.d).map V.int := by rw [List.map_append, List.map_map]; rfl
    rw [el] at hL
    have pos : ∀ x ∈ ys ++ a.kl.map (fun e => e.d), 0 < x := fun x hx => by
      rcases List.mem_append.mp hx with z | z
      · obtain ⟨e, he, rfl⟩ := List.mem_map.mp (perm.mem_iff.mp z)
        exact po.o _ (hs.memOp he)
      · obtain ⟨e, he, rfl⟩ := List.mem_map.mp z
        exact po.k _ (hs.memKp he)
    have canB : ∀ d, 0 < d → d ∉ ys ++ a.kl.map (fun e => e.d) → s.can 1 (.begin d) := fun d h0 hd => by
      refine ⟨h0, ?_, fun x hx z => ?_⟩
      · cases f : s.find d with
        | none => rfl
        | some x =>
          obtain ⟨e, he, e1, _⟩ := hs.find f
          exact (hd (List.mem_append_left _ (perm.mem_iff.mpr (List.mem_map.mpr ⟨e, he, e1⟩)))).elim
      · rw [← hs.ks] at hx
        obtain ⟨e, he, rfl⟩ := List.mem_map.mp hx
        exact hd (List.mem_append_right _ (List.mem_map.mpr ⟨e, he, z⟩))
    have lns : (ys ++ a.kl.map fun e => e.d).length ≤ 2000 := by rw [List.length_append, List.length_map]; omega
    generalize ys ++ a.kl.map (fun e => e.d) = ns at hL pos canB lns
    have hw3 := hw.same s03
    have Lw : L ≠ w := fun z => (hw.same (s1.trans s2)).live (by rw [← z]; exact L0)
    walk_at "gs"
    refine g_mid (fun σ' H' => (∃ x3 x4 x6 d, σ' = [some (.ref w), some (.ref p), some (.ref L), x3, x4, some (.int d), x6] ∧ 0 < d ∧ d ∉ ns) ∧ H' = H3) ?_ fun N rest => ?_
    · rintro σ' H' ⟨⟨x3, x4, x6, d, rfl, d0, dn⟩, rfl⟩
      walk_at "gs"
      refine ⟨w, _, _, rfl, hw3, ⟨by decide, by decide⟩, by omega, fun r1 H4 a1 b1 c1 w1 => ?_⟩
      walk_at "gs"
      refine g_I (powW_ok (b := 10) (by omega) (by omega) (by omega)) ?_
      walk_at "gs"
      refine ⟨w, _, _, rfl, w1, ⟨by decide, by decide⟩, by omega, fun r2 H5 a2 b2 c2 w2 => ?_⟩
      walk_at "gs"
      refine g_newL (sz (by simp)) fun E H6 E0 s6 hE => ?_
      have w6 := w2.same s6
      have Ew : E ≠ w := fun z => w2.live (by rw [← z]; exact E0)
      walk_at "gs"
      refine ⟨w, _, _, rfl, w6, ⟨by decide, by decide⟩, by omega, fun r3 H7 a3 b3 c3 w7 => ?_⟩
      walk_at "gs"
      have bu : But w H H7 := (But.of s03).trans (c1.trans (c2.trans ((But.of s6).trans c3)))
      have hL7 : H7 L = some (.lst (ns.map V.int)) := c3 _ _ Lw (s6 _ _ (c2 _ _ Lw (c1 _ _ Lw hL)))
      refine g_ixEx (c3 _ _ Ew hE) a3 (by exact b3) fun v hv => ?_
      obtain ⟨o, rfl, o0⟩ : ∃ o : Int, v = .int o ∧ 0 < o := by
        simp only [List.mem_cons, List.not_mem_nil, or_false] at hv
        rcases hv with rfl | rfl | rfl | rfl
        · exact ⟨_, rfl, d0⟩
        · exact ⟨_, rfl, d0⟩
        · exact ⟨_, rfl, by omega⟩
        · exact ⟨_, rfl, by omega⟩
      walk_at "gs"
      refine g_notinInts hL7 ?_
      walk_at "gs"
      have fin : ∀ (d : Int) (T : Addr) (H8 : Hp), 0 < d → d ∉ ns → H7 T = none → Same H7 H8 → H8 T = some (.tup [.str "begin", .int d]) → Q (.ref T) H8 := fun d T H8 d0 dn T0 s8 hT =>
        q d T (upd G T (.tup [.str "begin", .int d])) H8 (But.stepNew hs.gh gw bu T0 (But.freeOf bu w7.live T0) s8 hT) ((w7.same s8).mono (by omega)) ⟨T, _, rfl, upd_same, .begin d⟩ (canB d d0 dn)
      refine g_ndec (fun c => ?_) (fun c => ?_)
      · walk_at "gs"
        exact g_newT (sz (by simp)) fun T H8 T0 s8 hT => fin d T H8 d0 dn T0 s8 hT
      · walk_at "gs"
        exact g_newT (sz (by simp)) fun T H8 T0 s8 hT => fin o T H8 o0 c T0 s8 hT
    walk_at "gs"
    refine ⟨L, ns, .int 0, rfl, rfl, SqL.of hL, fun e => ?_, fun mx hmx hle => ?_⟩
    · walk_at "gs"
      exact rest _ _ ⟨⟨_, _, _, _, rfl, by omega, by rw [e]; exact List.not_mem_nil⟩, rfl⟩
    · walk_at "gs"
      have := pos mx hmx
      exact rest _ _ ⟨⟨_, _, _, _, rfl, by omega, fun z => by have := hle _ z; omega⟩, rfl⟩
end
end Hs

set_option maxHeartbeats 4000000
namespace Hs
open PySem PySem.Spec PyProof.Rows L2 Sk
section
variable {P : Program} {w : World} {K : PySem.W.Frag} {mg : Str → Option Value} {base : Heap} {CW CD : Addr}
def EvTx : Ev → Prop
  | .read _ k _ => PyData.strOk k = true
  | .scan _ lo hi rows => PyData.strOk lo = true ∧ PyData.strOk hi = true ∧ rows.length ≤ 60
  | _ => True
theorem scan_len {s : St} {st : Int} {own : Wr} {lo hi : Str} {rows : List (Str × Int)} {ks : List Str} (h : IsScan s st own lo hi rows) (hr : ∀ x ∈ rows, x.1 ∈ ks) (hk : KsOk ks) : rows.length ≤ 60 := by
  have nd : (rows.map (·.1)).Nodup := by
    refine List.pairwise_map.mpr (List.Pairwise.imp ?_ h.pw)
    intro a b q z
    have z' : a.1 = b.1 := z
    rw [z'] at q
    exact sL_irrefl _ q
  have := nodup_sub_len nd (ys := ks) fun x hx => by
    obtain ⟨y, hy, rfl⟩ := List.mem_map.mp hx
    exact hr y hy
  rw [List.length_map] at this
  have := hk.len
  omega
theorem StAt.findOf {G H : Hp} {p : Addr} {s : St} {a : Sa} {ks : List Str} {n : Nat} (h : StAt G H p s a) (ok : SOk ks n s) {e : Oe} (he : e ∈ a.ol) : s.find e.d = some (e.st, e.own) ∧ valV (olK a.ol) (Sum.inl e.d) = some (.ref e.T) := by
  have f : s.find e.d = some (e.st, e.own) := by
    unfold St.find
    rw [find_of_mem ok.nd (h.memOp he)]
    rfl
  obtain ⟨y, hy, e1, _, _, e4⟩ := h.find f
  rw [uniq_o h ok he hy e1] at e4
  exact ⟨f, e4⟩
def spDeed : Sp := fun vs H Q _ => ∃ (G : Hp) (w p l : Addr) (s : St) (a : Sa) (ks : List Str) (m : Nat) (n falls : Int) (names : List Str), vs = [.ref w, .ref p, .ref l, .int falls] ∧ Well H w n ∧ n < 700000 ∧ G w = none ∧ StAt G H p s a ∧ w ∉ a.M p ∧ SOk ks m s ∧ m ≤ 900 ∧ s.op.length ≤ 60 ∧ Pos s ∧ KsOk ks ∧ H l = some (.lst (names.map V.str)) ∧ l ≠ w ∧ names ≠ [] ∧ names.length ≤ 60 ∧ (∀ x ∈ names, Tx 8 x ∧ x ∈ ks) ∧
  ∀ (e : Ev) (t : Addr) (G' H' : Hp), Step [w] G H G' H' → Well H' w (n + 20) → EvAt G' (.ref t) e → EvOk ks e → EvTx e → s.can 1 e → (∀ d, e = .begin d → s.op.length < 4) → (∀ r rows, e ≠ .raised r rows) → (∀ k, e = .fall k → falls = 1) → Q (.ref t) H'

theorem sc__law_deed : FnScope ["well", "state", "keys", "falls", "words", "word", "dealing", "key", "many", "low", "high"] ["well", "state", "keys", "falls"] (defScope s__law_deed) := ⟨rfl, rfl, rfl, by decide +kernel, rfl, by decide +kernel, by decide +kernel⟩
theorem ok__law_deed {f : Addr} {fd : FuncData} (F : FunD K "_law_deed" "_law_deed" (defArgs s__law_deed) (defBody s__law_deed) (defScope s__law_deed) [] [] f fd) (gm : mg "_law_deed" = some (.ref f)) (B : Bas mg) (c__law_draw : Cal P w K mg base CX0 2 "_law_draw" ["well", "many"] spDraw) (c__law_sees : Cal P w K mg base CX0 1 "_law_sees" ["state", "dealing", "key"] spSees) (c__law_scanned : Cal P w K mg base CX0 2 "_law_scanned" ["state", "dealing", "low", "high"] spScan) (c__law_free : Cal P w K mg base CX0 1 "_law_free" ["state", "dealing", "key"] spFreeL) (c__law_places : Cal P w K mg base CX0 1 "_law_places" ["state"] spPlaces) (c__law_deed_can : Cal P w K mg base CX0 3 "_law_deed_can" ["state", "event"] spDeedCan) (c__law_begun : Cal P w K mg base CX0 3 "_law_begun" ["well", "state"] spBegun) (c__law_worth : Cal P w K mg base CX0 3 "_law_worth" ["well"] spWorth) (c__law_edge : Cal P w K mg base CX0 3 "_law_edge" ["well", "keys"] (spEdge K)) : Cal P w K mg base CX0 4 "_law_deed" ["well", "state", "keys", "falls"] spDeed := by
  refine ⟨f, fd, F.ok sc__law_deed (fun vs H Q E h => ?_) (fun cdv A outer s H vs Q E hr h => ⟨_, PSs.nox (pss_cons (ps_set (i := 4) sc__law_deed.nd rfl (by first | exact Or.inl rfl | exact Or.inr rfl) (pe_lst (pa_cons pe_str (pa_cons pe_str (pa_cons pe_str (pa_cons pe_str (pa_cons pe_str (pa_cons pe_str (pa_cons pe_str (pa_cons pe_str (pa_cons pe_str (pa_cons pe_str (pa_cons pe_str (pa_cons pe_str (pa_cons pe_str pa_nil)))))))))))))))
  (pss_cons (ps_mark (ps_if (pt_cmpR op_eq (pv 3) pe_int (nomark _)) (pss_one (ps_expr (pe_bm PySem.F.plainAttrs_list PySem.F.slot_list_append PySem.F.type_list_append mt_append (pv 4) (pa_cons pe_str pa_nil))))
    pss_nil))
  (pss_cons (ps_set (i := 5) sc__law_deed.nd rfl (by first | exact Or.inl rfl | exact Or.inr rfl) (pe_ix (ix_lK K rfl) (pv 4) (pe_cal c__law_draw (hr.mono (by decide)) rfl pass0 (pa_cons (pv 0) (pa_cons (pe_callB call_lenQ (by rfl) B.len PySem.boot_len (pa_cons (pv 4) pa_nil)) pa_nil))) (fun _ _ => rfl)))
  (pss_cons (ps_if (pt_cmpR op_eq (pv 5) pe_str (nomark _)) (pss_one (ps_ret (pe_tup (pa_cons (pv 5) (pa_cons (pe_op op_add (pe_dget (hu_of hr) (pv 1) pe_str (fun _ _ => rfl)) (pe_cal c__law_draw (hr.mono (by decide)) rfl pass0 (pa_cons (pv 0) (pa_cons (pe_op op_add (pe_callB call_lenQ (by rfl) B.len PySem.boot_len (pa_cons (pe_dget (hu_of hr) (pv 1) pe_str (fun _ _ => rfl)) pa_nil)) pe_int) pa_nil)))) pa_nil)))))
    pss_nil)
  (pss_cons (ps_mark (ps_if (PW.pt (pw_or (PW.pt (pw_and (pt_cmpR op_eq (pv 5) pe_str (nomark _)) (pw_and1 (pt_cmpR op_lt (pe_callB call_lenDQ (by rfl) B.len PySem.boot_len (pa_cons (pe_dget (hu_of hr) (pv 1) pe_str (fun _ _ => rfl)) pa_nil)) pe_int (nomark _))))) (pw_or1 (pt_cmpR (op_eqE (Nat.lt_of_le_of_lt (Nat.le_add_right _ _) hr.units)) (pe_dget (hu_of hr) (pv 1) pe_str (fun _ _ => rfl)) pe_dnewK (nomark _))))) (pss_one (ps_ret (pe_cal c__law_begun (hr.mono (by decide)) rfl pass0 (pa_cons (pv 0) (pa_cons (pv 1) pa_nil)))))
    pss_nil))
  (pss_cons (ps_set (i := 6) sc__law_deed.nd rfl (by first | exact Or.inl rfl | exact Or.inr rfl) (pe_ix (ix_lK K rfl) (pe_callB (call_sortDIQ rfl) (by rfl) B.sorted (by decide +kernel) (pa_cons (pe_dget (hu_of hr) (pv 1) pe_str (fun _ _ => rfl)) pa_nil)) (pe_cal c__law_draw (hr.mono (by decide)) rfl pass0 (pa_cons (pv 0) (pa_cons (pe_callB call_lenDQ (by rfl) B.len PySem.boot_len (pa_cons (pe_dget (hu_of hr) (pv 1) pe_str (fun _ _ => rfl)) pa_nil)) pa_nil))) (fun _ _ => rfl)))
  (pss_cons (ps_set (i := 7) sc__law_deed.nd rfl (by first | exact Or.inl rfl | exact Or.inr rfl) (pe_ix (ix_lK K rfl) (pv 2) (pe_cal c__law_draw (hr.mono (by decide)) rfl pass0 (pa_cons (pv 0) (pa_cons (pe_callB call_lenQ (by rfl) B.len PySem.boot_len (pa_cons (pv 2) pa_nil)) pa_nil))) (fun _ _ => rfl)))
  (pss_cons (ps_set (i := 8) sc__law_deed.nd rfl (by first | exact Or.inl rfl | exact Or.inr rfl) (pe_callB call_lenQ (by rfl) B.len PySem.boot_len (pa_cons (pe_ix (ix_tK K rfl) (pe_dget (hu_of hr) (pe_dget (hu_of hr) (pv 1) pe_str (fun _ _ => rfl)) (pv 6) (fun _ _ => rfl)) pe_int (fun _ _ => rfl)) pa_nil)))
  (pss_cons (ps_mark (ps_if (PW.pt (pw_and (pt_cmpR op_eq (pv 5) pe_str (nomark _)) (pw_and1 (pt_val (pe_cal c__law_free (hr.mono (by decide)) rfl pass0 (pa_cons (pv 1) (pa_cons (pv 6) (pa_cons (pv 7) pa_nil)))))))) (pss_one (ps_ret (pe_tup (pa_cons (pv 5) (pa_cons (pv 6) (pa_cons (pv 7) (pa_cons (pe_cal c__law_worth (hr.mono (by decide)) rfl pass0 (pa_cons (pv 0) pa_nil)) pa_nil)))))))
    pss_nil))
  (pss_cons (ps_mark (ps_if (PW.pt (pw_and (pt_cmpR op_eq (pv 5) pe_str (nomark _)) (pw_and1 (pt_val (pe_cal c__law_deed_can (hr.mono (by decide)) rfl pass0 (pa_cons (pv 1) (pa_cons (pe_tup (pa_cons (pv 5) (pa_cons (pv 6) (pa_cons (pv 7) pa_nil)))) pa_nil))))))) (pss_one (ps_ret (pe_tup (pa_cons (pv 5) (pa_cons (pv 6) (pa_cons (pv 7) pa_nil))))))
    pss_nil))
  (pss_cons (ps_if (pt_cmpR op_eq (pv 5) pe_str (nomark _)) (pss_one (ps_ret (pe_tup (pa_cons (pv 5) (pa_cons (pv 6) (pa_cons (pe_cal c__law_draw (hr.mono (by decide)) rfl pass0 (pa_cons (pv 0) (pa_cons (pe_op op_add (pv 8) pe_int) pa_nil))) pa_nil))))))
    pss_nil)
  (pss_cons (ps_if (pt_cmpR op_eq (pv 5) pe_str (nomark _)) (pss_one (ps_ret (pe_tup (pa_cons (pv 5) (pa_cons (pv 6) (pa_cons (pv 8) pa_nil))))))
    pss_nil)
  (pss_cons (ps_if (pt_cmpR op_eq (pv 5) pe_str (nomark _)) (pss_one (ps_ret (pe_tup (pa_cons (pv 5) (pa_cons (pv 6) (pa_cons (pe_op op_add (pe_cal c__law_places (hr.mono (by decide)) rfl pass0 (pa_cons (pv 1) pa_nil)) pe_int) pa_nil))))))
    pss_nil)
  (pss_cons (ps_if (pt_cmpR op_eq (pv 5) pe_str (nomark _)) (pss_one (ps_ret (pe_tup (pa_cons (pv 5) (pa_cons (pv 6) pa_nil)))))
    pss_nil)
  (pss_cons (ps_if (pt_cmpR op_eq (pv 5) pe_str (nomark _)) (pss_cons (ps_set (i := 9) sc__law_deed.nd rfl (by first | exact Or.inl rfl | exact Or.inr rfl) (pe_cal c__law_edge (hr.mono (by decide)) rfl pass0 (pa_cons (pv 0) (pa_cons (pv 2) pa_nil))))
    (pss_cons (ps_set (i := 10) sc__law_deed.nd rfl (by first | exact Or.inl rfl | exact Or.inr rfl) (pe_cal c__law_edge (hr.mono (by decide)) rfl pass0 (pa_cons (pv 0) (pa_cons (pv 2) pa_nil))))
    (pss_one (ps_ret (pe_tup (pa_cons (pv 5) (pa_cons (pv 6) (pa_cons (pv 9) (pa_cons (pv 10) (pa_cons (pe_cal c__law_scanned (hr.mono (by decide)) rfl pass0 (pa_cons (pv 1) (pa_cons (pv 6) (pa_cons (pv 9) (pa_cons (pv 10) pa_nil))))) pa_nil))))))))))
    pss_nil)
  (pss_one (ps_ret (pe_tup (pa_cons pe_str (pa_cons (pv 6) (pa_cons (pv 7) (pa_cons (pe_cal c__law_sees (hr.mono (by decide)) rfl pass0 (pa_cons (pv 1) (pa_cons (pv 6) (pa_cons (pv 7) pa_nil)))) pa_nil)))))))))))))))))))))), ?_⟩), gm, F.kp, F.bindsN fun _ _ _ _ _ _ us hl => match us, hl with | [_, _, _, _], _ => rfl⟩
  · obtain ⟨G, w, p, l, s, a, ks, m, n, falls, names, rfl, _⟩ := h; rfl
  · obtain ⟨G, w, p, l, s, a, ks, m, n, falls, names, rfl, hw, hn, gw, hs, wM, ok, hm, ho, po, hk, hl, lw, ne, nl, tx, q⟩ := h
    have hob := hs.ob
    have hop := hs.op
    have hkp := hs.kp
    have ol : a.ol.length = s.op.length := by rw [← hs.os, List.length_map]
    walk_at "gs"
    refine g_newL (sz (by simp)) fun L H1 L0 s1 hL => ?_
    walk_at "gs"
    refine g_mid (fun σ' H' => (∃ ws : List Str, H' L = some (.lst (ws.map V.str)) ∧ 0 < ws.length ∧ ws.length ≤ 14 ∧ (("fall" : Str) ∈ ws → falls = 1)) ∧ Same H H' ∧ ∃ x5 x6 x7 x8 x9 x10, σ' = [some (.ref w), some (.ref p), some (.ref l), some (.int falls), some (.ref L), x5, x6, x7, x8, x9, x10]) ?_ fun N rest => ?_
    · rintro σ' H2 ⟨⟨ws, hL2, w0, w14, wf⟩, s2, x5, x6, x7, x8, x9, x10, rfl⟩
      have Lw : L ≠ w := fun z => hw.live (by rw [← z]; exact L0)
      walk_at "gs"
      refine ⟨w, _, _, rfl, hw.same s2, ⟨by rw [List.length_map]; omega, by rw [List.length_map]; omega⟩, by omega, fun r1 H3 a1 b1 c1 w1 => ?_⟩
      walk_at "gs"
      refine g_ixEx (c1 _ _ Lw hL2) a1 b1 fun v hv => ?_
      obtain ⟨wd, hwd, rfl⟩ := List.mem_map.mp hv
      have st3 : Step [w] G H G H3 := ⟨Same.refl _, fun b o eb => c1 _ _ (ne_of_none eb gw) (s2 _ _ (hs.gh _ _ eb)), fun b o hb eb => c1 _ _ (fun z => hb (by rw [z]; simp)) (s2 _ _ eb), fun _ _ => rfl⟩
      have hs3 : StAt G H3 p s a := hs.move st3 fun b hb z => wM (by rw [← List.mem_singleton.mp z]; exact hb)
      have hob3 := hs3.ob
      have hop3 := hs3.op
      have hkp3 := hs3.kp
      have kl : a.kl.length = s.kept.length := by rw [← hs.ks, List.length_map]
      have kn := ok.kn
      walk_at "gs"
      refine g_dec (fun cf => ?_) (fun cf => ?_)
      · have ef := V.str.inj cf
        subst ef
        walk_at "gs"
        refine ⟨w, _, _, rfl, w1, ⟨by rw [List.length_map]; omega, by rw [List.length_map, kl]; omega⟩, by omega, fun r2 H4 a2 b2 c2 w2 => ?_⟩
        walk_at "gs"
        refine g_newT (sz (by simp)) fun T H5 T0 s5 hT => ?_
        rw [List.length_map, kl] at b2
        have bu : But w H H4 := (But.of s2).trans (c1.trans c2)
        refine q (.fall (s.base + r2)) T _ H5 (But.stepNew hs.gh gw bu T0 (But.freeOf bu w2.live T0) s5 hT) ((w2.same s5).mono (by omega)) ⟨T, _, rfl, upd_same, .fall _⟩ True.intro True.intro ⟨by omega, by unfold St.last; omega⟩ (fun d z => by cases z) (fun r rows z => by cases z) (fun _ _ => wf hwd)
      have bg : ∀ H', But w H3 H' → Well H' w (n + 1) → s.op.length < 4 → spBegun [.ref w, .ref p] H' Q E0 := fun H' cc ww lt => by
        have bu : But w H H' := (But.of s2).trans (c1.trans cc)
        have st4 : Step [w] G H G H' := ⟨Same.refl _, fun b o eb => bu _ _ (ne_of_none eb gw) (hs.gh _ _ eb), fun b o hb eb => bu _ _ (fun z => hb (by rw [z]; simp)) eb, fun _ _ => rfl⟩
        have hs4 : StAt G H' p s a := hs.move st4 fun b hb z => wM (by rw [← List.mem_singleton.mp z]; exact hb)
        refine ⟨G, w, p, s, a, ks, m, n + 1, rfl, ww, by omega, gw, hs4, wM, ok, by omega, ho, po, fun d t G5 H5 st5 w5 ea cb => ?_⟩
        refine q (.begin d) t G5 H5 (st4.trans (fun b hb => ?_) st5 fun x hx => .inl hx) (w5.mono (by omega)) ea True.intro True.intro cb (fun _ _ => lt) (fun r rows z => by cases z) (fun k z => by cases z)
        by_cases c : b = w
        · rw [c]; exact ww.live
        · cases e : H b with
          | none => exact (hb e).elim
          | some o => rw [bu _ _ c e]; simp
      have lol : (olK a.ol).length = s.op.length := by unfold olK; rw [List.length_map, ol]
      walk_at "gs"
      refine g_mid (fun σ' H' => Same H3 H' ∧ σ' = [some (.ref w), some (.ref p), some (.ref l), some (.int falls), some (.ref L), some (.str wd), x6, x7, x8, x9, x10] ∧ s.op ≠ []) ?_ fun N2 rest2 => ?_
      · rintro σ' H4 ⟨s4, rfl, nop⟩
        have hob4 := s4 _ _ hob3
        have hop4 := s4 _ _ hop3
        walk_at "gs"
        refine ⟨a.C, olK a.ol, a.ol.map (·.d), rfl, Rd.of hop4, ?_, by rw [List.length_map]; omega, fun ys Y perm srt Y0 => ?_⟩
        · unfold olK
          rw [List.map_map, List.map_map]
          rfl
        have s5 : Same H4 (upd H4 Y (.lst (ys.map V.int))) := same_new Y0
        have hY : upd H4 Y (.lst (ys.map V.int)) Y = _ := upd_same
        generalize upd H4 Y (.lst (ys.map V.int)) = H5 at s5 hY ⊢
        have s35 := s4.trans s5
        have hob5 := s5 _ _ hob4
        have hop5 := s5 _ _ hop4
        walk_at "gs"
        refine g_lenD hop5 ?_
        walk_at "gs"
        have lop : 0 < s.op.length := List.length_pos_iff.mpr nop
        refine ⟨w, _, _, rfl, w1.same s35, ⟨by rw [lol]; omega, by rw [lol]; omega⟩, by omega, fun r6 H6 a6 b6 c6 w6 => ?_⟩
        walk_at "gs"
        have Yw : Y ≠ w := fun z => (w1.same s4).live (by rw [← z]; exact Y0)
        refine g_ixEx (c6 _ _ Yw hY) a6 (by rw [List.length_map, perm.length_eq, List.length_map]; rw [lol, ← ol] at b6; exact b6) fun v hv => ?_
        obtain ⟨d, hd, rfl⟩ := List.mem_map.mp hv
        obtain ⟨y, hy, rfl⟩ := List.mem_map.mp (perm.mem_iff.mp hd)
        have bu6 : But w H H6 := (But.of s2).trans (c1.trans ((But.of s35).trans c6))
        have mv : ∀ H', But w H H' → StAt G H' p s a := fun H' bu => hs.move (M := [w]) (G' := G) ⟨Same.refl _, fun b o eb => bu _ _ (ne_of_none eb gw) (hs.gh _ _ eb), fun b o hb eb => bu _ _ (fun z => hb (by rw [z]; simp)) eb, fun _ _ => rfl⟩ fun b hb z => wM (by rw [← List.mem_singleton.mp z]; exact hb)
        obtain ⟨f, e4⟩ := hs.findOf ok hy
        have npos : 0 < names.length := List.length_pos_iff.mpr ne
        walk_at "gs"
        refine g_len (.inl (SqL.of (bu6 _ _ lw hl))) ?_
        walk_at "gs"
        refine ⟨w, _, _, rfl, w6, ⟨by rw [List.length_map]; omega, by rw [List.length_map]; omega⟩, by omega, fun r7 H7 a7 b7 c7 w7 => ?_⟩
        walk_at "gs"
        have bu7 := bu6.trans c7
        refine g_ixEx (bu7 _ _ lw hl) a7 b7 fun v hv => ?_
        obtain ⟨k, hkm, rfl⟩ := List.mem_map.mp hv
        have hs7 := mv H7 bu7
        have hob7 := hs7.ob
        have hop7 := hs7.op
        obtain ⟨oT, oW, oP⟩ := hs7.oe y hy
        have oT7 := hs7.gh _ _ oT
        obtain ⟨tk, kin⟩ := tx k hkm
        walk_at "gs"
        refine g_dgetI hop7 e4 ?_
        walk_at "gs"
        refine g_ixT oT7 (atI_nat (j := 1) rfl) ?_
        walk_at "gs"
        rw [Paired.len oP]
        have out : ∀ (e : Ev) (us : List V) (T : Addr) (H8 H9 : Hp) (k : Int), But w H7 H8 → Well H8 w k → k ≤ n + 20 → H8 T = none → Same H8 H9 → H9 T = some (.tup (.str e.word :: us)) → RestAt G e us → EvOk ks e → EvTx e → s.can 1 e → (∀ d, e ≠ .begin d) → (∀ r rows, e ≠ .raised r rows) → (∀ k, e ≠ .fall k) → Q (.ref T) H9 := fun e us T H8 H9 kk b8 w8 lk T0 s9 hT re eo et ec nb nr nf =>
          q e T _ H9 (But.stepNew hs.gh gw (bu7.trans b8) T0 (But.freeOf (bu7.trans b8) w8.live T0) s9 hT) ((w8.same s9).mono lk) ⟨T, us, rfl, upd_same, re.grow (same_new (hs.gh.free (But.freeOf (bu7.trans b8) w8.live T0)))⟩ eo et ec (fun d z => (nb d z).elim) nr (fun k z => (nf k z).elim)
        have at_ : ∀ H', Same H7 H' → StAt G H' p s a := fun H' z => hs7.grow (growM hs7.gh z)
        have lw7 : H7 l = some (.lst (names.map V.str)) := bu7 _ _ lw hl
        have on : y.own.length ≤ m := ok.wn _ (hs.memOp hy)
        walk_at "gs"
        refine g_mid (fun σ' H' => Same H7 H' ∧ σ' = [some (.ref w), some (.ref p), some (.ref l), some (.int falls), some (.ref L), some (.str wd), some (.int y.d), some (.str k), some (.int (y.own.length : Int)), x9, x10]) ?_ fun N3 rest3 => ?_
        · rintro σ' H8 ⟨s8, rfl⟩
          walk_at "gs"
          refine g_mid (fun σ' H' => Same H7 H' ∧ σ' = [some (.ref w), some (.ref p), some (.ref l), some (.int falls), some (.ref L), some (.str wd), some (.int y.d), some (.str k), some (.int (y.own.length : Int)), x9, x10]) ?_ fun N4 rest4 => ?_
          · rintro σ' H9 ⟨s9, rfl⟩
            walk_at "gs"
            refine g_dec (fun cw => ?_) (fun cw => ?_)
            · have ew := V.str.inj cw
              subst ew
              walk_at "gs"
              refine ⟨w, _, _, rfl, w7.same s9, ⟨by omega, by omega⟩, by omega, fun r H10 a10 b10 c10 w10 => ?_⟩
              walk_at "gs"
              refine g_newT (sz (by simp)) fun T H11 T0 s11 hT => ?_
              exact out (.back y.d r) _ T H10 H11 _ ((But.of s9).trans c10) w10 (by omega) T0 s11 hT (.back _ _) True.intro True.intro ⟨_, _, f, a10, by omega⟩ (fun d z => by cases z) (fun r rows z => by cases z) (fun k z => by cases z)
            walk_at "gs"
            refine g_dec (fun cw => ?_) (fun cw => ?_)
            · have ew := V.str.inj cw
              subst ew
              walk_at "gs"
              refine g_newT (sz (by simp)) fun T H11 T0 s11 hT => ?_
              exact out (.mark y.d y.own.length) _ T H9 H11 _ (But.of s9) (w7.same s9) (by omega) T0 s11 hT (.mark _ _) True.intro True.intro ⟨_, _, f, rfl⟩ (fun d z => by cases z) (fun r rows z => by cases z) (fun k z => by cases z)
            walk_at "gs"
            refine g_dec (fun cw => ?_) (fun cw => ?_)
            · have ew := V.str.inj cw
              subst ew
              walk_at "gs"
              refine ⟨G, p, s, a, rfl, at_ _ s9, ?_⟩
              walk_at "gs"
              refine g_newT (sz (by simp)) fun T H11 T0 s11 hT => ?_
              exact out (.keep y.d (s.last + 1)) _ T H9 H11 _ (But.of s9) (w7.same s9) (by omega) T0 s11 hT (.keep _ _) True.intro True.intro ⟨_, _, f, rfl⟩ (fun d z => by cases z) (fun r rows z => by cases z) (fun k z => by cases z)
            walk_at "gs"
            refine g_dec (fun cw => ?_) (fun cw => ?_)
            · have ew := V.str.inj cw
              subst ew
              walk_at "gs"
              refine g_newT (sz (by simp)) fun T H11 T0 s11 hT => ?_
              exact out (.undo y.d) _ T H9 H11 _ (But.of s9) (w7.same s9) (by omega) T0 s11 hT (.undo _) True.intro True.intro ⟨_, _, f⟩ (fun d z => by cases z) (fun r rows z => by cases z) (fun k z => by cases z)
            walk_at "gs"
            refine g_dec (fun cw => ?_) (fun cw => ?_)
            · have ew := V.str.inj cw
              subst ew
              walk_at "gs"
              have lw9 := s9 _ _ lw7
              refine ⟨w, l, _, names, rfl, w7.same s9, by omega, lw9, lw, ne, nl, fun x hx => (tx x hx).1, fun lo H10 tlo c10 w10 => ?_⟩
              walk_at "gs"
              have lw10 := c10 _ _ lw lw9
              refine ⟨w, l, _, names, rfl, w10, by omega, lw10, lw, ne, nl, fun x hx => (tx x hx).1, fun hi H11 thi c11 w11 => ?_⟩
              walk_at "gs"
              have bu11 : But w H H11 := bu7.trans ((But.of s9).trans (c10.trans c11))
              refine ⟨G, p, s, a, ks, m, y.d, y.st, y.own, lo, hi, rfl, mv _ bu11, ok, by omega, hk, f, fun rows G12 H12 R isc rin g12 hrows => ?_⟩
              walk_at "gs"
              refine g_newT (sz (by simp)) fun T H13 T0 s13 hT => ?_
              have g13 := growF g12.gh T0 s13 hT
              have st11 : Step [w] G H G H11 := ⟨Same.refl _, fun b o eb => bu11 _ _ (ne_of_none eb gw) (hs.gh _ _ eb), fun b o hb eb => bu11 _ _ (fun z => hb (by rw [z]; simp)) eb, fun _ _ => rfl⟩
              have lv11 : Lives H H11 := fun b hb => by
                by_cases c : b = w
                · rw [c]; exact w11.live
                · cases e : H b with
                  | none => exact (hb e).elim
                  | some o => rw [bu11 _ _ c e]; simp
              exact q (.scan y.d lo hi rows) T _ H13 (st11.trans lv11 (g12.trans g13) fun x hx => (List.not_mem_nil hx).elim) ((w11.same (g12.same.trans s13)).mono (by omega)) ⟨T, _, rfl, upd_same, .scan _ _ _ (hrows.grow g13.gg)⟩ rin ⟨tlo.ok, thi.ok, scan_len isc rin hk⟩ ⟨_, _, f, isc⟩ (fun d z => by cases z) (fun r rows z => by cases z) (fun k z => by cases z)
            walk_at "gs"
            refine ⟨G, p, s, a, ks, m, y.d, y.st, y.own, k, rfl, at_ _ s9, ok, by omega, f, fun H10 s10 => ?_⟩
            walk_at "gs"
            refine g_newT (sz (by simp)) fun T H11 T0 s11 hT => ?_
            exact out (.read y.d k _) _ T H10 H11 _ (But.of (s9.trans s10)) (w7.same (s9.trans s10)) (by omega) T0 s11 hT (.read _ _ _) True.intro tk.ok ⟨_, _, f, rfl⟩ (fun d z => by cases z) (fun r rows z => by cases z) (fun k z => by cases z)
          · walk_at "gs"
            refine g_dec (fun cw => ?_) (fun cw => ?_)
            · have ew := V.str.inj cw
              subst ew
              walk_at "gs"
              refine g_newT (sz (by simp)) fun T1 H9 T10 s9 hT1 => ?_
              walk_at "gs"
              have s79 := s8.trans s9
              refine ⟨G, p, s, a, ks, m, y.d, y.st, y.own, T1, [.int y.d, .str k], .drop y.d k, rfl, at_ _ s79, ok, by omega, hk, f, hT1, .drop _ _, rfl, kin, fun b H10 hb s10 => ?_⟩
              walk_at "gs"
              refine g_bool (fun hbt => ?_) (fun hbf => ?_)
              · walk_at "gs"
                refine g_newT (sz (by simp)) fun T H11 T0 s11 hT => ?_
                exact out (.drop y.d k) _ T H10 H11 _ (But.of (s79.trans s10)) (w7.same (s79.trans s10)) (by omega) T0 s11 hT (.drop _ _) kin True.intro (hb.mp hbt) (fun d z => by cases z) (fun r rows z => by cases z) (fun k z => by cases z)
              · walk_at "gs"
                exact rest4 _ _ ⟨s79.trans s10, rfl⟩
            · walk_at "gs"
              exact rest4 _ _ ⟨s8, rfl⟩
        · walk_at "gs"
          refine g_dec (fun cw => ?_) (fun cw => ?_)
          · have ew := V.str.inj cw
            subst ew
            walk_at "gs"
            refine ⟨G, p, s, a, ks, m, y.d, y.st, y.own, k, rfl, at_ _ (Same.refl _), ok, by omega, hk, f, fun b H9 hb s9 => ?_⟩
            walk_at "gs"
            refine g_bool (fun hbt => ?_) (fun hbf => ?_)
            · walk_at "gs"
              refine ⟨w, _, rfl, w7.same s9, by omega, fun i H10 c10 w10 => ?_⟩
              walk_at "gs"
              refine g_newT (sz (by simp)) fun T H11 T0 s11 hT => ?_
              exact out (.put y.d k i) _ T H10 H11 _ ((But.of s9).trans c10) w10 (by omega) T0 s11 hT (.put _ _ _) kin True.intro ⟨_, _, f, hb.mp hbt⟩ (fun d z => by cases z) (fun r rows z => by cases z) (fun k z => by cases z)
            · walk_at "gs"
              exact rest3 _ _ ⟨s9, rfl⟩
          · walk_at "gs"
            exact rest3 _ _ ⟨Same.refl _, rfl⟩
      · walk_at "gs"
        refine g_dec (fun cb => ?_) (fun cb => ?_)
        · walk_at "gs"
          refine g_lenD hop3 ?_
          walk_at "gs"
          refine g_dec (fun c4 => ?_) (fun c4 => ?_)
          · walk_at "gs"
            exact bg H3 But.refl w1 (by rw [← lol]; omega)
          · walk_at "gs"
            refine g_dnew fun E E0 => ?_
            walk_at "gs"
            refine g_eqE ((same_new E0) _ _ hop3) upd_same ?_
            walk_at "gs"
            refine g_dec (fun ce => ?_) (fun ce => ?_)
            · walk_at "gs"
              exact bg _ (But.of (same_new E0)) (w1.same (same_new E0)) (by rw [← lol, ce]; decide)
            · walk_at "gs"
              exact rest2 _ _ ⟨same_new E0, rfl, fun z => ce (List.length_eq_zero_iff.mp (by rw [lol, z]; rfl))⟩
        · walk_at "gs"
          refine g_dnew fun E E0 => ?_
          walk_at "gs"
          refine g_eqE ((same_new E0) _ _ hop3) upd_same ?_
          walk_at "gs"
          refine g_dec (fun ce => ?_) (fun ce => ?_)
          · walk_at "gs"
            exact bg _ (But.of (same_new E0)) (w1.same (same_new E0)) (by rw [← lol, ce]; decide)
          · walk_at "gs"
            exact rest2 _ _ ⟨same_new E0, rfl, fun z => ce (List.length_eq_zero_iff.mp (by rw [lol, z]; rfl))⟩
    · walk_at "gs"
      refine g_dec (fun c => ?_) (fun c => ?_)
      · walk_at "gs"
        refine g_app hL (by rw [sizeLine_eq]; simp) ?_
        walk_at "gs"
        exact rest _ _ ⟨⟨["read", "read", "scan", "put", "put", "put", "drop", "back", "mark", "keep", "keep", "undo", "begin", "fall"], upd_same, by simp, by simp, fun _ => V.int.inj c⟩, fun b o eb => (upd_ne (ne_of_none eb L0)).trans (s1 _ _ eb), _, _, _, _, _, _, rfl⟩
      · walk_at "gs"
        exact rest _ _ ⟨⟨["read", "read", "scan", "put", "put", "put", "drop", "back", "mark", "keep", "keep", "undo", "begin"], hL, by simp, by simp, fun z => absurd z (by decide +kernel)⟩, s1, _, _, _, _, _, _, rfl⟩
end
end Hs

set_option maxHeartbeats 4000000
namespace Hs
open PySem PySem.Spec PyProof.Rows L2 Sk
section
variable {P : Program} {w : World} {K : PySem.W.Frag} {mg : Str → Option Value} {base : Heap} {CW CD : Addr}
theorem Step.livesW {G H G' H' : Hp} {w : Addr} (st : Step [w] G H G' H') (wl : H' w ≠ Option.none) : Lives H H' := fun b hb => by
  by_cases c : b = w
  · rw [c]; exact wl
  · cases e : H b with
    | none => exact (hb e).elim
    | some o => rw [st.hh b o (fun z => c (List.mem_singleton.mp z)) e]; simp
theorem Step.takes {M : List Addr} {G H Gi H' : Hp} {R : Addr} {o : HO} (st : Step M G H Gi H') (R0 : H R = Option.none) (gR : Gi R = Option.none) (eR : H' R = some o) : Step M G H (upd Gi R o) H' := by
  refine ⟨fun b u eb => ?_, fun b u eb => ?_, st.hh, fun b hb => ?_⟩
  · have := st.gg _ _ eb
    rw [upd_ne (ne_of_none this gR)]; exact this
  · by_cases c : b = R
    · rw [c, upd_same] at eb; rw [c, ← eb]; exact eR
    · rw [upd_ne c] at eb; exact st.gh _ _ eb
  · rw [upd_ne (fun z => hb (by rw [z]; exact R0))]; exact st.old b hb
theorem _root_.Sk.Well.at_ {H H' : Hp} {w : Addr} {n : Int} (h : Well H w n) (e : H' w = H w) : Well H' w n := by
  obtain ⟨x, s, t, h1, h2⟩ := h
  exact ⟨x, s, t, by rw [e]; exact h1, h2⟩
theorem sub_in {ys : List Str} {i : Nat} {rows : List (Str × Int)} (sb : (rows.map (·.1)).Sublist (ys.take i)) : ∀ x ∈ rows, x.1 ∈ ys := fun x hx => List.mem_of_mem_take (sb.subset (List.mem_map_of_mem hx))
def spRaised : Sp := fun vs H Q _ => ∃ (G : Hp) (w l : Addr) (ks names : List Str) (n : Int), vs = [.ref w, .ref l] ∧ Same G H ∧ Well H w n ∧ n < 700000 ∧ G w = none ∧ H l = some (.lst (names.map V.str)) ∧ l ≠ w ∧ names.length ≤ 20 ∧ names.Nodup ∧ (∀ x ∈ names, x ∈ ks) ∧
  ∀ (k : Int) (rows : List (Str × Int)) (t : Addr) (G' H' : Hp), Step [w] G H G' H' → Well H' w (n + 400) → EvAt G' (.ref t) (.raised k rows) → EvOk ks (.raised k rows) → Q (.ref t) H'

theorem sc__law_raised : FnScope ["well", "keys", "rows", "key"] ["well", "keys"] (defScope s__law_raised) := ⟨rfl, rfl, rfl, by decide +kernel, rfl, by decide +kernel, by decide +kernel⟩
theorem ok__law_raised {f : Addr} {fd : FuncData} (F : FunD K "_law_raised" "_law_raised" (defArgs s__law_raised) (defBody s__law_raised) (defScope s__law_raised) [] [] f fd) (gm : mg "_law_raised" = some (.ref f)) (B : Bas mg) (c__law_draw : Cal P w K mg base CX0 2 "_law_draw" ["well", "many"] spDraw) (c__law_worth : Cal P w K mg base CX0 3 "_law_worth" ["well"] spWorth) : Cal P w K mg base CX0 4 "_law_raised" ["well", "keys"] spRaised := by
  refine ⟨f, fd, F.ok sc__law_raised (fun vs H Q E h => ?_) (fun cdv A outer s H vs Q E hr h => ⟨_, PSs.nox (pss_cons (ps_set (i := 2) sc__law_raised.nd rfl (by first | exact Or.inl rfl | exact Or.inr rfl) (pe_lst pa_nil))
  (pss_cons (ps_for PassesOwn.never rfl (pi_list (pe_callB cr_sortedS (by rfl) B.sorted (by decide +kernel) (pa_cons (pv 1) pa_nil))) (pg_name (i := 3) sc__law_raised.nd rfl (by first | exact Or.inl rfl | exact Or.inr rfl))
    (pss_one (ps_if (pt_cmpR op_eq (pe_cal c__law_draw (hr.mono (by decide)) rfl pass0 (pa_cons (pv 0) (pa_cons pe_int pa_nil))) pe_int (nomark _)) (pss_one (ps_expr (pe_bm PySem.F.plainAttrs_list PySem.F.slot_list_append PySem.F.type_list_append mt_append (pv 2) (pa_cons (pe_tup (pa_cons (pv 3) (pa_cons (pe_cal c__law_worth (hr.mono (by decide)) rfl pass0 (pa_cons (pv 0) pa_nil)) pa_nil))) pa_nil))))
      pss_nil)))
  (pss_one (ps_ret (pe_tup (pa_cons pe_str (pa_cons (pe_cal c__law_draw (hr.mono (by decide)) rfl pass0 (pa_cons (pv 0) (pa_cons (pe_ix (ix_lK K rfl) (pe_lst (pa_cons pe_int (pa_cons (pe_op op_powW pe_int pe_int) pa_nil))) (pe_cal c__law_draw (hr.mono (by decide)) rfl pass0 (pa_cons (pv 0) (pa_cons pe_int pa_nil))) (fun _ _ => rfl)) pa_nil))) (pa_cons (pv 2) pa_nil)))))))), ?_⟩), gm, F.kp, F.bindsN fun _ _ _ _ _ _ us hl => match us, hl with | [_, _], _ => rfl⟩
  · obtain ⟨G, w, l, ks, names, n, rfl, _⟩ := h; rfl
  · obtain ⟨G, w, l, ks, names, n, rfl, gh, hw, hn, gw, hl, lw, nl, nd, tx, q⟩ := h
    walk_at "go"
    refine g_newL sz0 fun R H1 R0 s1 hR => ?_
    walk_at "go"
    refine ⟨l, names, rfl, SqL.of (s1 _ _ hl), by omega, fun ys Y perm srt Y0 => ?_⟩
    have s2 : Same H1 (upd H1 Y (.lst (ys.map V.str))) := same_new Y0
    have hY : upd H1 Y (.lst (ys.map V.str)) Y = _ := upd_same
    generalize upd H1 Y (.lst (ys.map V.str)) = H2 at s2 hY ⊢
    have hR2 := s2 _ _ hR
    have RY : R ≠ Y := fun z => by rw [z, Y0] at hR; cases hR
    have GR : G R = none := gh.free R0
    have Rw : R ≠ w := fun z => hw.live (by rw [← z]; exact R0)
    have Yw : Y ≠ w := fun z => (hw.same s1).live (by rw [← z]; exact Y0)
    have yn : ys.Nodup := perm.nodup_iff.mpr nd
    have yl : ys.length ≤ 20 := by rw [perm.length_eq]; exact nl
    refine forL_by (SqL.of hY) (fun i σ' H' => (∃ x3, σ' = [some (.ref w), some (.ref l), some (.ref R), x3]) ∧ ∃ Gi acc rows, Step [w] G H Gi H' ∧ Well H' w (n + 5 * i) ∧ Gi R = none ∧ H' R = some (.lst acc) ∧ H' Y = some (.lst (ys.map V.str)) ∧ Paired (RowAt Gi) acc rows ∧ (rows.map (·.1)).Sublist (ys.take i)) ⟨⟨_, rfl⟩, G, [], [], (growM gh (s1.trans s2)).mono (fun _ z => (List.not_mem_nil z).elim), (hw.same (s1.trans s2)).mono (by omega), GR, hR2, hY, .nil, .slnil⟩ (fun i σ' H' _ p => by obtain ⟨_, Gi, acc, rows, _, _, _, _, e, _⟩ := p; exact SqL.of e) ?_ ?_
    · rintro i x σ' H' hx ⟨⟨x3, rfl⟩, Gi, acc, rows, st, wi, GiR, eR, eY, pr, sb⟩
      rw [List.getElem?_map] at hx
      cases hki : ys[i]? with
      | none => rw [hki] at hx; cases hx
      | some key =>
        rw [hki] at hx
        injection hx with hx
        subst hx
        have il : i < ys.length := (List.getElem?_eq_some_iff.mp hki).1
        have ts : ys.take (i + 1) = ys.take i ++ [key] := take_snoc hki
        have gwi : Gi w = none := by rw [st.old w hw.live, gw]
        walk_at "go"
        refine ⟨w, _, _, rfl, wi, ⟨by decide, by decide⟩, by omega, fun r1 H3 a1 b1 c1 w1 => ?_⟩
        walk_at "go"
        have eR3 := c1 _ _ Rw eR
        have eY3 := c1 _ _ Yw eY
        refine g_dec (fun c => ?_) (fun c => ?_)
        · walk_at "go"
          refine ⟨w, _, rfl, w1, by omega, fun j H4 c2 w2 => ?_⟩
          walk_at "go"
          refine g_newT (sz (by simp)) fun T H5 T0 s5 hT => ?_
          walk_at "go"
          have bu := c1.trans c2
          have eR5 := s5 _ _ (c2 _ _ Rw eR3)
          have eY5 := s5 _ _ (c2 _ _ Yw eY3)
          have al : acc.length ≤ 100 := by
            have h1 := sb.length_le
            rw [List.length_map, List.length_take] at h1
            rw [Paired.len pr]
            omega
          refine g_app eR5 (by rw [sizeLine_eq]; omega) ?_
          walk_at "go"
          have st2 := But.stepNew st.gh gwi bu T0 (But.freeOf bu w2.live T0) s5 hT
          have RT : R ≠ T := fun z => by rw [← z, c2 _ _ Rw eR3] at T0; cases T0
          have gR' : upd Gi T (.tup [.str key, .int j]) R = none := (upd_ne RT).trans GiR
          have st3 := stepU (M := [R]) (o := .lst (acc ++ [.ref T])) st2.gh gR' (by simp)
          have st12 := st.trans (st.livesW wi.live) st2 (fun x hx => .inl hx)
          have w5 := w2.same s5
          refine ⟨⟨_, rfl⟩, _, acc ++ [.ref T], rows ++ [(key, j)], st12.trans (st12.livesW w5.live) st3 (fun x hx => .inr (by rw [List.mem_singleton.mp hx]; exact R0)), (w5.at_ (upd_ne (Ne.symm Rw))).mono (by omega), gR', upd_same, (upd_ne (Ne.symm RY)).trans eY5, Paired.app (Paired.imp (fun _ _ z => z.grow st2.gg) pr) (.cons ⟨T, rfl, upd_same⟩ .nil), ?_⟩
          rw [List.map_append, ts]
          exact sb.append (List.Sublist.refl _)
        · walk_at "go"
          refine ⟨⟨_, rfl⟩, Gi, acc, rows, ⟨st.gg, fun b o eb => c1 _ _ (ne_of_none eb gwi) (st.gh _ _ eb), fun b o hb eb => c1 _ _ (fun z => hb (by rw [z]; simp)) (st.hh _ _ hb eb), st.old⟩, w1.mono (by omega), GiR, eR3, eY3, pr, ?_⟩
          rw [ts]
          exact sb.trans (List.sublist_append_left _ _)
    · rintro σ' H' ⟨⟨x3, rfl⟩, Gi, acc, rows, st, wi, GiR, eR, eY, pr, sb⟩
      rw [List.length_map] at wi sb
      have gwi : Gi w = none := by rw [st.old w hw.live, gw]
      walk_at "go"
      refine g_I (powW_ok (b := 10) (by omega) (by omega) (by omega)) ?_
      walk_at "go"
      refine g_newL (sz (by simp)) fun E H3 E0 s3 hE => ?_
      walk_at "go"
      refine ⟨w, _, _, rfl, wi.same s3, ⟨by decide, by decide⟩, by omega, fun r1 H4 a1 b1 c1 w1 => ?_⟩
      walk_at "go"
      have Ew : E ≠ w := fun z => wi.live (by rw [← z]; exact E0)
      refine g_ixEx (c1 _ _ Ew hE) a1 (by exact b1) fun v hv => ?_
      obtain ⟨m, rfl, m0, m1⟩ : ∃ m : Int, v = .int m ∧ 0 < m ∧ m < 2 ^ 100 := by
        simp only [List.mem_cons, List.not_mem_nil, or_false] at hv
        rcases hv with rfl | rfl
        · exact ⟨_, rfl, by decide, by decide⟩
        · exact ⟨_, rfl, by decide, by decide⟩
      walk_at "go"
      refine ⟨w, _, _, rfl, w1, ⟨m0, m1⟩, by omega, fun r2 H5 a2 b2 c2 w2 => ?_⟩
      walk_at "go"
      refine g_newT (sz (by simp)) fun T H6 T0 s6 hT => ?_
      have bu : But w H' H5 := (But.of s3).trans (c1.trans c2)
      have st1 := st.takes R0 GiR eR
      have gw1 : upd Gi R (.lst acc) w = none := (upd_ne (Ne.symm Rw)).trans gwi
      have st2 := But.stepNew st1.gh gw1 bu T0 (But.freeOf bu w2.live T0) s6 hT
      have RT : R ≠ T := fun z => by
        have := But.freeOf bu w2.live T0
        rw [← z, eR] at this; cases this
      refine q r2 rows T _ H6 (st1.trans (st1.livesW wi.live) st2 fun x hx => .inl hx) ((w2.same s6).mono (by omega)) ⟨T, _, rfl, upd_same, .raised _ ⟨R, acc, rfl, (upd_ne RT).trans upd_same, Paired.imp (fun _ _ z => (z.grow (same_new GiR)).grow st2.gg) pr⟩⟩ ⟨a2, fun x hx => tx _ (perm.mem_iff.mp (sub_in sb x hx)), (sb.trans (List.take_sublist _ _)).nodup yn⟩
end
end Hs

set_option maxHeartbeats 4000000
namespace Hs
open PySem PySem.Spec PyProof.Rows L2 Sk
section
variable {P : Program} {w : World} {K : PySem.W.Frag} {mg : Str → Option Value} {base : Heap} {CW CD : Addr}
def EvF (falls : Int) (e : Ev) : Prop := falls ≤ 0 → (∀ n, e ≠ .fall n) ∧ ∀ n r, e ≠ .raised n r
structure HistAt (G0 H0 : Hp) (names : List Str) (falls : Int) (p L F : Addr) (G H : Hp) (s : St) (a : Sa) (es : List Ev) (us : List V) : Prop where
  g0 : Grow G0 H0 G H
  st : StAt G H p s a
  ok : SOk names es.length s
  po : Pos s
  o4 : s.op.length ≤ 4
  eL : G L = some (.lst (names.map V.str))
  eF : H F = some (.lst us)
  gF : G F = none
  hF : H0 F = none
  fM : F ∉ a.M p
  m0 : ∀ m ∈ a.M p, H0 m = none
  pe : Paired (EvAt G) us es
  eo : ∀ e ∈ es, EvOk names e ∧ EvTx e ∧ EvF falls e
  ej : ∀ r, judge St.new 0 (es ++ r) = judge s es.length r
  z : es.length = 0 → s = St.new
theorem can_at {s : St} {e : Ev} (i : Nat) (h : s.can 1 e) (nr : ∀ r rows, e ≠ .raised r rows) : s.can i e := (can_any 1 i nr).mp h
theorem Pos.does {s : St} {e : Ev} {i : Nat} (po : Pos s) (c : s.can i e) : Pos (s.does e) := by
  have setP : ∀ d f, Pos { s with op := setOp s.op d f } := fun d f => ⟨fun x hx => by
    obtain ⟨y, hy, e1, _⟩ := setOp_mem hx
    rw [e1]; exact po.o y hy, po.k⟩
  have dropP : ∀ d, ∀ x ∈ dropOp s.op d, 0 < x.1 := fun d x hx => po.o x (List.mem_filter.mp hx).1
  cases e with
  | begin d =>
    refine ⟨fun x hx => ?_, po.k⟩
    rcases List.mem_append.mp hx with z | z
    · exact po.o x z
    · rw [List.mem_singleton.mp z]; exact c.1
  | put d k w0 => exact setP _ _
  | drop d k => exact setP _ _
  | back d n => exact setP _ _
  | keep d n =>
    refine ⟨dropP d, fun x hx => ?_⟩
    rcases List.mem_append.mp hx with z | z
    · exact po.k x z
    · rw [List.mem_singleton.mp z]
      obtain ⟨st, own, f, _⟩ := c
      exact po.o _ (find_mem f)
  | undo d => exact ⟨dropP d, po.k⟩
  | fall n => exact ⟨fun _ h => (List.not_mem_nil h).elim, fun x hx => po.k x (List.mem_of_mem_take hx)⟩
  | raised n rows => exact ⟨po.o, po.k⟩
  | read d k w0 => exact po
  | scan d lo hi rows => exact po
  | mark d n => exact po
theorem op4 {s : St} {e : Ev} (h : s.op.length ≤ 4) (b : ∀ d, e = .begin d → s.op.length < 4) : (s.does e).op.length ≤ 4 := by
  have setL : ∀ d f, (setOp s.op d f).length ≤ 4 := fun d f => by unfold setOp; rw [List.length_map]; exact h
  have dropL : ∀ d, (dropOp s.op d).length ≤ 4 := fun d => Nat.le_trans (List.length_filter_le _ _) h
  cases e with
  | begin d =>
    have := b d rfl
    show (s.op ++ [_]).length ≤ 4
    rw [List.length_append, List.length_singleton]
    omega
  | put d k w0 => exact setL d (fun wr => wr ++ [(k, some w0)])
  | drop d k => exact setL d (fun wr => wr ++ [(k, none)])
  | back d n => exact setL d (fun wr => wr.take n.toNat)
  | keep d n => exact dropL d
  | undo d => exact dropL d
  | fall n => exact Nat.zero_le _
  | raised n rows => exact h
  | read d k w0 => exact h
  | scan d lo hi rows => exact h
  | mark d n => exact h
theorem judge_go {s : St} {i : Nat} {e : Ev} {r : List Ev} (c : s.can i e) : judge s i (e :: r) = judge (s.does e) (i + 1) r := by
  rw [judge, if_pos c]
theorem judge_take : ∀ (es : List Ev) (s : St) (i k : Nat), judge s i es = none → judge s i (es.take k) = none
  | [], s, i, k, h => by rw [List.take_nil]; rfl
  | e :: r, s, i, 0, h => rfl
  | e :: r, s, i, k + 1, h => by
    by_cases c : s.can i e
    · rw [judge_go c] at h
      rw [List.take_succ_cons, judge_go c]
      exact judge_take r _ _ k h
    · rw [judge, if_neg c] at h
      cases h
section
variable {G0 H0 G H : Hp} {names : List Str} {falls : Int} {p L F : Addr} {s : St} {a : Sa} {es : List Ev} {us : List V}
theorem HistAt.grow {H' : Hp} (h : HistAt G0 H0 names falls p L F G H s a es us) (s1 : Same H H') : HistAt G0 H0 names falls p L F G H' s a es us :=
  ⟨h.g0.trans (growM h.st.gh s1), h.st.grow (growM h.st.gh s1), h.ok, h.po, h.o4, h.eL, s1 _ _ h.eF, h.gF, h.hF, h.fM, h.m0, h.pe, h.eo, h.ej, h.z⟩
theorem HistAt.only {w : Addr} {H' : Hp} (h : HistAt G0 H0 names falls p L F G H s a es us) (bu : But w H H') (gw : G w = none) (w0 : H0 w = none) (wM : w ∉ a.M p) (Fw : F ≠ w) : HistAt G0 H0 names falls p L F G H' s a es us := by
  have st1 : Step [w] G H G H' := ⟨Same.refl _, fun b o eb => bu _ _ (ne_of_none eb gw) (h.st.gh _ _ eb), fun b o hb eb => bu _ _ (fun z => hb (by rw [z]; simp)) eb, fun _ _ => rfl⟩
  exact ⟨Step.trans h.g0 h.g0.lives0 st1 fun x hx => .inr (by rw [List.mem_singleton.mp hx]; exact w0), h.st.move st1 (fun m hm z => wM (by rw [← List.mem_singleton.mp z]; exact hm)), h.ok, h.po, h.o4, h.eL, bu _ _ Fw h.eF, h.gF, h.hF, h.fM, h.m0, h.pe, h.eo, h.ej, h.z⟩
theorem HistAt.added (h : HistAt G0 H0 names falls p L F G H s a es us) {w t : Addr} {G1 H1 : Hp} {e : Ev} (gw : G w = none) (w0 : H0 w = none) (wl : H w ≠ none) (Fw : F ≠ w) (wM : w ∉ a.M p) (st1 : Step [w] G H G1 H1) (ea : EvAt G1 (.ref t) e) (eo : EvOk names e) (et : EvTx e) (ef : EvF falls e) (c : s.can es.length e) (b4 : ∀ d, e = .begin d → s.op.length < 4) :
    H1 F = some (.lst us) ∧ StAt G1 (upd H1 F (.lst (us ++ [.ref t]))) p s a ∧ ∀ (a' : Sa) (G' H' : Hp), Step (a.M p) G1 (upd H1 F (.lst (us ++ [.ref t]))) G' H' → StAt G' H' p (s.does e) a' → (∀ m ∈ a'.M p, m ∈ a.M p ∨ upd H1 F (.lst (us ++ [.ref t])) m = none) →
      HistAt G0 H0 names falls p L F G' H' (s.does e) a' (es ++ [e]) (us ++ [.ref t]) ∧ (H1 w ≠ none → H' w = H1 w ∧ G' w = none ∧ w ∉ a'.M p) := by
  have eF1 := st1.hh F _ (fun z => Fw (List.mem_singleton.mp z)) h.eF
  have gF1 : G1 F = none := by rw [st1.old F (by rw [h.eF]; simp), h.gF]
  have hs1 : StAt G1 H1 p s a := h.st.move st1 (fun m hm z => wM (by rw [← List.mem_singleton.mp z]; exact hm))
  have st2 := stepU (M := [F]) (o := .lst (us ++ [.ref t])) hs1.gh gF1 (by simp)
  have hs2 := hs1.move st2 (fun m hm z => h.fM (by rw [← List.mem_singleton.mp z]; exact hm))
  refine ⟨eF1, hs2, fun a' G' H' stp st' mem => ?_⟩
  have g1 : Step [] G0 H0 G1 H1 := Step.trans h.g0 h.g0.lives0 st1 fun x hx => .inr (by rw [List.mem_singleton.mp hx]; exact w0)
  have g2 : Step [] G0 H0 G1 (upd H1 F (.lst (us ++ [.ref t]))) := Step.trans g1 g1.lives0 st2 fun x hx => .inr (by rw [List.mem_singleton.mp hx]; exact h.hF)
  have g3 : Step [] G0 H0 G' H' := Step.trans g2 g2.lives0 stp fun x hx => .inr (h.m0 x hx)
  have gg : Same G G' := st1.gg.trans stp.gg
  have F2 : upd H1 F (.lst (us ++ [.ref t])) F = some (.lst (us ++ [.ref t])) := upd_same
  refine ⟨⟨g3, st', ?_, h.po.does c, op4 h.o4 b4, gg _ _ h.eL, stp.hh _ _ h.fM F2, ?_, h.hF, fun z => ?_, fun m hm => ?_, ?_, ?_, fun r => ?_, fun z => ?_⟩, fun wl1 => ?_⟩
  · rw [List.length_append]
    exact h.ok.does eo c h.z
  · rw [stp.old F (by rw [F2]; simp), gF1]
  · rcases mem _ z with q | q
    · exact h.fM q
    · rw [F2] at q; cases q
  · rcases mem m hm with q | q
    · exact h.m0 m q
    · cases e0 : H0 m with
      | none => rfl
      | some o => rw [g2.same _ _ e0] at q; cases q
  · exact Paired.app (Paired.imp (fun _ _ z => z.grow gg) h.pe) (.cons (ea.grow stp.gg) .nil)
  · intro x hx
    rcases List.mem_append.mp hx with q | q
    · exact h.eo x q
    · rw [List.mem_singleton.mp q]; exact ⟨eo, et, ef⟩
  · rw [List.append_assoc, h.ej, List.length_append]
    exact judge_go c
  · rw [List.length_append, List.length_singleton] at z
    omega
  · have e2 : upd H1 F (.lst (us ++ [.ref t])) w = H1 w := upd_ne (Ne.symm Fw)
    refine ⟨?_, ?_, fun z => ?_⟩
    · cases q : H1 w with
      | none => exact (wl1 q).elim
      | some o => exact stp.hh _ _ wM (by rw [e2, q])
    · rw [stp.old w (by rw [e2]; exact wl1), st1.old w wl, gw]
    · rcases mem _ z with q | q
      · exact wM q
      · rw [e2] at q; exact wl1 q
end
def spHist : Sp := fun vs H Q _ => ∃ (G : Hp) (c : Addr) (ns : List Int) (first most falls : Int), vs = [.ref c, .int first, .int most, .int falls] ∧ Same G H ∧ SqL K H c (ns.map V.int) ∧ ns.length ≤ 63 ∧ 0 ≤ first ∧ first < 1000 ∧ most ≤ 186 ∧ 1 ≤ most ∧
  ∀ (names : List Str) (es : List Ev) (us : List V) (G' H' : Hp) (T L F : Addr), Grow G H G' H' → KsOk names → (∀ x ∈ names, Tx 8 x) → names ≠ [] → H' T = some (.tup [.ref L, .ref F]) → H' L = some (.lst (names.map V.str)) → H' F = some (.lst us) → H F = none → Paired (EvAt G') us es → (∀ e ∈ es, EvOk names e ∧ EvTx e ∧ EvF falls e) → es.length ≤ 186 → 1 ≤ es.length → judge St.new 0 es = none → Q (.ref T) H'

theorem sc__law_history : FnScope ["cells", "first", "most", "falls", "head", "keys", "k", "state", "found", "well", "j"] ["cells", "first", "most", "falls"] (defScope s__law_history) := ⟨rfl, rfl, rfl, by decide +kernel, rfl, by decide +kernel, by decide +kernel⟩
theorem ok__law_history {f : Addr} {fd : FuncData} (F : FunD K "_law_history" "_law_history" (defArgs s__law_history) (defBody s__law_history) (defScope s__law_history) [] [] f fd) (gm : mg "_law_history" = some (.ref f)) (B : Bas mg) (c__law_cell_at : Cal P w K mg base CX0 1 "_law_cell_at" ["script", "k"] (Sk.spCell K)) (c__law_well : Cal P w K mg base CX0 2 "_law_well" ["cell", "k"] spWell) (c__law_draw : Cal P w K mg base CX0 2 "_law_draw" ["well", "many"] spDraw) (c__law_new_name : Cal P w K mg base CX0 3 "_law_new_name" ["well", "names"] (spName K)) (c__law_new_state : Cal P w K mg base CX0 1 "_law_new_state" [] spNewState) (c__law_raised : Cal P w K mg base CX0 4 "_law_raised" ["well", "keys"] spRaised) (c__law_happens : Cal P w K mg base CX0 2 "_law_happens" ["state", "event"] spHappens) (c__law_deed : Cal P w K mg base CX0 4 "_law_deed" ["well", "state", "keys", "falls"] spDeed) : Cal P w K mg base CX0 5 "_law_history" ["cells", "first", "most", "falls"] (spHist (K := K)) := by
  refine ⟨f, fd, F.ok sc__law_history (fun vs H Q E h => ?_) (fun cdv A outer s H vs Q E hr h => ⟨_, PSs.nox (pss_cons (ps_set (i := 4) sc__law_history.nd rfl (by first | exact Or.inl rfl | exact Or.inr rfl) (pe_cal c__law_well (hr.mono (by decide)) rfl pass0 (pa_cons (pe_cal c__law_cell_at (hr.mono (by decide)) rfl pass0 (pa_cons (pv 0) (pa_cons pe_int pa_nil))) (pa_cons (pv 1) pa_nil))))
  (pss_cons (ps_set (i := 5) sc__law_history.nd rfl (by first | exact Or.inl rfl | exact Or.inr rfl) (pe_lst pa_nil))
  (pss_cons (ps_for PassesOwn.never rfl (pi_range1 rfl B.range (pa_cons (pe_op op_add pe_int (pe_cal c__law_draw (hr.mono (by decide)) rfl pass0 (pa_cons (pv 4) (pa_cons pe_int pa_nil)))) pa_nil)) (pg_name (i := 6) sc__law_history.nd rfl (by first | exact Or.inl rfl | exact Or.inr rfl))
    (pss_one (ps_expr (pe_bm PySem.F.plainAttrs_list PySem.F.slot_list_append PySem.F.type_list_append mt_append (pv 5) (pa_cons (pe_cal c__law_new_name (hr.mono (by decide)) rfl pass0 (pa_cons (pv 4) (pa_cons (pv 5) pa_nil))) pa_nil)))))
  (pss_cons (ps_set (i := 7) sc__law_history.nd rfl (by first | exact Or.inl rfl | exact Or.inr rfl) (pe_cal0 c__law_new_state (hr.mono (by decide)) rfl pass0))
  (pss_cons (ps_set (i := 8) sc__law_history.nd rfl (by first | exact Or.inl rfl | exact Or.inr rfl) (pe_lst pa_nil))
  (pss_cons (ps_mark (ps_if (PW.pt (pw_and (pt_cmpR op_gt (pv 3) pe_int (nomark _)) (pw_and1 (pt_cmpR op_eq (pe_cal c__law_draw (hr.mono (by decide)) rfl pass0 (pa_cons (pv 4) (pa_cons pe_int pa_nil))) pe_int (nomark _))))) (pss_cons (ps_expr (pe_bm PySem.F.plainAttrs_list PySem.F.slot_list_append PySem.F.type_list_append mt_append (pv 8) (pa_cons (pe_cal c__law_raised (hr.mono (by decide)) rfl pass0 (pa_cons (pv 4) (pa_cons (pv 5) pa_nil))) pa_nil)))
    (pss_one (ps_expr (pe_cal c__law_happens (hr.mono (by decide)) rfl pass0 (pa_cons (pv 7) (pa_cons (pe_ix (ix_lK K rfl) (pv 8) pe_int (fun _ _ => rfl)) pa_nil))))))
    pss_nil))
  (pss_cons (ps_for PassesOwn.never rfl (pi_range2 rfl B.range (pa_cons pe_int (pa_cons (pe_callB (call_max2Q rfl) (by rfl) B.max (by decide +kernel) (pa_cons pe_int (pa_cons (pe_callB call_lenQ (by rfl) B.len PySem.boot_len (pa_cons (pv 0) pa_nil)) pa_nil))) pa_nil))) (pg_name (i := 6) sc__law_history.nd rfl (by first | exact Or.inl rfl | exact Or.inr rfl))
    (pss_cons (ps_set (i := 9) sc__law_history.nd rfl (by first | exact Or.inl rfl | exact Or.inr rfl) (pe_cal c__law_well (hr.mono (by decide)) rfl pass0 (pa_cons (pe_cal c__law_cell_at (hr.mono (by decide)) rfl pass0 (pa_cons (pv 0) (pa_cons (pv 6) pa_nil))) (pa_cons (pe_op op_add (pv 1) (pv 6)) pa_nil))))
    (pss_one (ps_for PassesOwn.never rfl (pi_range1 rfl B.range (pa_cons (pe_op op_add pe_int (pe_cal c__law_draw (hr.mono (by decide)) rfl pass0 (pa_cons (pv 9) (pa_cons pe_int pa_nil)))) pa_nil)) (pg_name (i := 10) sc__law_history.nd rfl (by first | exact Or.inl rfl | exact Or.inr rfl))
      (pss_one (ps_if (pt_cmpR op_lt (pe_callB call_lenQ (by rfl) B.len PySem.boot_len (pa_cons (pv 8) pa_nil)) (pv 2) (nomark _)) (pss_cons (ps_expr (pe_bm PySem.F.plainAttrs_list PySem.F.slot_list_append PySem.F.type_list_append mt_append (pv 8) (pa_cons (pe_cal c__law_deed (hr.mono (by decide)) rfl pass0 (pa_cons (pv 9) (pa_cons (pv 7) (pa_cons (pv 5) (pa_cons (pv 3) pa_nil))))) pa_nil)))
        (pss_one (ps_expr (pe_cal c__law_happens (hr.mono (by decide)) rfl pass0 (pa_cons (pv 7) (pa_cons (pe_ix (ix_lK K rfl) (pv 8) (pe_un un_neg pe_int) (fun _ _ => rfl)) pa_nil))))))
        pss_nil))))))
  (pss_one (ps_ret (pe_tup (pa_cons (pv 5) (pa_cons (pv 8) pa_nil)))))))))))), ?_⟩), gm, F.kp, F.bindsN fun _ _ _ _ _ _ us hl => match us, hl with | [_, _, _, _], _ => rfl⟩
  · obtain ⟨G, c, ns, first, most, falls, rfl, _⟩ := h; rfl
  · obtain ⟨G, c, ns, first, most, falls, rfl, gh, hS, nl, f0, f1, mo, mo1, q⟩ := h
    walk_at "go"
    refine ⟨c, ns, 0, rfl, hS, nl, by omega, fun v0 => ?_⟩
    walk_at "go"
    refine ⟨v0, first, rfl, ⟨by omega, by omega⟩, fun w H1 w0 s1 hw => ?_⟩
    walk_at "go"
    refine g_newL sz0 fun L H2 L0 s2 hL => ?_
    walk_at "go"
    have hLw : L ≠ w := fun z => hw.live (by rw [← z]; exact L0)
    have HL0 : H L = none := free_same s1 L0
    refine ⟨w, _, _, rfl, hw.same s2, ⟨by decide, by decide⟩, by omega, fun r1 H3 a1 b1 c1 w1 => ?_⟩
    walk_at "go"
    have hL3 := c1 _ _ hLw hL
    have s3 : Same H H3 := fun b o eb => c1 _ _ (ne_of_none eb w0) (s2 _ _ (s1 _ _ eb))
    refine forR1_by (n := (1 + r1).toNat) (by omega) (by omega) (fun i σ' H' => (∃ x6 x7 x8 x9 x10, σ' = [some (.ref c), some (.int first), some (.int most), some (.int falls), some (.ref w), some (.ref L), x6, x7, x8, x9, x10]) ∧ Same H H' ∧ Well H' w (1 + 16 * i) ∧ ∃ names : List Str, H' L = some (.lst (names.map V.str)) ∧ names.length = i ∧ names.Nodup ∧ ∀ x ∈ names, Tx 8 x) ⟨⟨_, _, _, _, _, rfl⟩, s3, w1.mono (by omega), [], hL3, rfl, List.nodup_nil, fun _ z => (List.not_mem_nil z).elim⟩ ?_ ?_
    · rintro i σ' H' hi ⟨⟨x6, x7, x8, x9, x10, rfl⟩, sH, wi, names, eL, ln, nd, tx⟩
      walk_at "go"
      refine ⟨w, L, _, names, rfl, wi, by omega, eL, hLw, by omega, tx, fun x H4 tx1 nx c4 w4 => ?_⟩
      walk_at "go"
      have eL4 := c4 _ _ hLw eL
      refine g_app eL4 (by rw [List.length_map, sizeLine_eq]; omega) ?_
      walk_at "go"
      refine ⟨⟨_, _, _, _, _, rfl⟩, fun b o eb => ?_, (w4.at_ (upd_ne (Ne.symm hLw))).mono (by omega), names ++ [x], by rw [upd_same, List.map_append]; rfl, by rw [List.length_append, ln]; rfl, List.nodup_append.mpr ⟨nd, List.pairwise_singleton _ _, fun b hb c' hc z => ?_⟩, fun y hy => ?_⟩
      · rw [upd_ne (ne_of_none eb HL0)]
        exact c4 _ _ (ne_of_none eb w0) (sH _ _ eb)
      · rw [List.mem_singleton.mp hc] at z
        exact nx (z ▸ hb)
      · rcases List.mem_append.mp hy with z | z
        · exact tx y z
        · rw [List.mem_singleton.mp z]; exact tx1
    rintro σ' H4 ⟨⟨x6, x7, x8, x9, x10, rfl⟩, s4, w4, names, eL, ln, nd, tx⟩
    have ln5 : 1 ≤ names.length ∧ names.length ≤ 5 := by omega
    have hk : KsOk names := ⟨by omega, fun x hx => (tx x hx).ok⟩
    have nne : names ≠ [] := fun z => by rw [z] at ln5; simp at ln5
    clear ln hL hL3 c1 w1 hw s1 s2 s3 L0
    have GL : G L = none := gh.free HL0
    have gr4 : Grow G H (upd G L (.lst (names.map V.str))) H4 := (growM gh s4).takes HL0 GL eL
    walk_at "go"
    refine ⟨upd G L (.lst (names.map V.str)), rfl, gr4.gh, fun p a G5 H5 g5 hst mM => ?_⟩
    have eL5 := g5.gg _ _ (show upd G L (.lst (names.map V.str)) L = _ from upd_same)
    walk_at "go"
    refine g_newL sz0 fun F H6 F0 s6 hF => ?_
    have g45 := gr4.trans g5
    have g46 := g45.trans (growM hst.gh s6)
    have hst6 := hst.grow (growM hst.gh s6)
    have GF : G5 F = none := hst.gh.free F0
    have HF : H F = none := free_same g45.same F0
    have MH : ∀ m ∈ a.M p, H m = none := fun m hm => free_same s4 (mM m hm)
    have hi : HistAt G H names falls p L F G5 H6 St.new a [] [] := ⟨g46, hst6, SOk.new, ⟨fun _ z => (List.not_mem_nil z).elim, fun _ z => (List.not_mem_nil z).elim⟩, by decide, eL5, hF, GF, HF, fun z => hst.live F z F0, MH, .nil, fun _ z => (List.not_mem_nil z).elim, fun r => rfl, fun _ => rfl⟩
    have w6 : Well H6 w 200 := ((w4.same g5.same).same s6).mono (by omega)
    have w4l := w4.live
    have gw : G5 w = none := by rw [g5.old w w4l, upd_ne (Ne.symm hLw)]; exact gh.free w0
    have wM : w ∉ a.M p := fun z => w4l (mM w z)
    have Fw : F ≠ w := fun z => (w4.same g5.same).live (by rw [← z]; exact F0)
    clear w4 g5 hst mM F0 s6 hst6 MH GF HF g45 g46 gr4 s4 eL hF
    walk_at "go"
    refine g_mid (fun σ' H' => ∃ G' s a es us x7 x10 x11, σ' = [some (.ref c), some (.int first), some (.int most), some (.int falls), some (.ref w), some (.ref L), x7, some (.ref p), some (.ref F), x10, x11] ∧ HistAt G H names falls p L F G' H' s a es us ∧ es.length ≤ 1) ?_ fun N rest => ?_
    · clear hi w6 gw wM
      rintro σ' H7 ⟨G7, s, a, es, us, x7, x10, x11, rfl, hi, l1⟩
      have hS7 : SqL K H7 c (ns.map V.int) := hi.g0.same.seq hS
      walk_at "go"
      have two : ∃ m : Int, (if (((ns.map V.int).length : Nat) : Int) > 2 then (((ns.map V.int).length : Nat) : Int) else 2) = m ∧ 2 ≤ m ∧ m ≤ 63 := by
        rw [List.length_map]
        by_cases cc : ((ns.length : Nat) : Int) > 2
        · rw [if_pos cc]; exact ⟨_, rfl, by omega, by omega⟩
        · rw [if_neg cc]; exact ⟨_, rfl, by omega, by omega⟩
      obtain ⟨m, em, m2, m63⟩ := two
      rw [em]
      refine forR2_by (lo := 1) (n := m.toNat) rfl (by omega) (by omega) (by omega) (fun i σ' H' => ∃ G' s a es us x5 x7 x10 x11, σ' = [some (.ref c), some (.int first), some (.int most), some (.int falls), x5, some (.ref L), x7, some (.ref p), some (.ref F), x10, x11] ∧ HistAt G H names falls p L F G' H' s a es us ∧ es.length ≤ 186 ∧ (0 < i → 1 ≤ es.length)) ⟨_, _, _, _, _, _, _, _, _, rfl, hi, by omega, fun z => absurd z (by decide)⟩ ?_ ?_
      · clear hi hS7
        rintro i σ' H8 hi8 ⟨G8, s, a, es, us, x5, x7, x10, x11, rfl, hi, l186, _⟩
        walk_at "go"
        refine ⟨c, ns, _, rfl, hi.g0.same.seq hS, nl, by omega, fun v1 => ?_⟩
        walk_at "go"
        refine ⟨v1, _, rfl, ⟨by omega, by omega⟩, fun w' H9 w'0 s9 hw' => ?_⟩
        have hi9 := hi.grow s9
        have gw' : G8 w' = none := hi.st.gh.free w'0
        have w'0' : H w' = none := free_same hi.g0.same w'0
        have wM' : w' ∉ a.M p := fun z => hi.st.live w' z w'0
        have Fw' : F ≠ w' := fun z => by have := hi.eF; rw [z, w'0] at this; cases this
        walk_at "go"
        refine ⟨w', _, _, rfl, hw', ⟨by decide, by decide⟩, by omega, fun r1 H10 a1 b1 c1 w1 => ?_⟩
        have hi10 := hi9.only c1 gw' w'0' wM' Fw'
        walk_at "go"
        refine forR1_by (n := (1 + r1).toNat) (by omega) (by omega) (fun j σ' H' => ∃ G' s a es us x11, σ' = [some (.ref c), some (.int first), some (.int most), some (.int falls), x5, some (.ref L), some (.int ((1 + i : Nat) : Int)), some (.ref p), some (.ref F), some (.ref w'), x11] ∧ HistAt G H names falls p L F G' H' s a es us ∧ es.length ≤ 186 ∧ Well H' w' (1 + 20 * j) ∧ G' w' = none ∧ w' ∉ a.M p ∧ (0 < j → 1 ≤ es.length)) ⟨_, _, _, _, _, _, rfl, hi10, l186, w1.mono (by omega), gw', wM', fun z => absurd z (by decide)⟩ ?_ ?_
        · clear hi hi9 hi10 hw' s9 w1 c1 gw' wM' l186
          rintro j σ' H11 hj ⟨G11, s, a, es, us, x11, rfl, hi, l186, wj, gw', wM', _⟩
          have hF := hi.eF
          walk_at "go"
          rw [Paired.len hi.pe]
          refine g_dec (fun cl => ?_) (fun cl => ?_)
          · have leM : es.length < 186 := by omega
            have hLl := hi.st.gh _ _ hi.eL
            walk_at "go"
            have hLw' : L ≠ w' := ne_of_none hi.eL gw'
            refine ⟨G11, w', p, L, s, a, names, es.length, _, falls, names, rfl, wj, by omega, gw', hi.st, wM', hi.ok, by omega, by have := hi.o4; omega, hi.po, hk, hLl, hLw', nne, by omega, fun x hx => ⟨tx x hx, hx⟩, fun e t G12 H12 st12 w12 ea eo et ec eb nr nf => ?_⟩
            obtain ⟨eF1, hs2, fin⟩ := hi.added gw' w'0' wj.live Fw' wM' st12 ea eo et (fun z => ⟨fun n q => by have := nf n q; omega, nr⟩) (can_at _ ec nr) eb
            walk_at "go"
            refine g_app eF1 (by rw [Paired.len hi.pe, sizeLine_eq]; omega) ?_
            walk_at "go"
            have lst : atI (us ++ [V.ref t]) (-1) = some (.ref t) := atI_last us (.ref t)
            refine g_ixL upd_same lst ?_
            walk_at "go"
            refine ⟨G12, p, s, a, names, es.length, es.length, .ref t, e, rfl, hs2, hi.ok, by omega, ea, eo, can_at _ ec nr, hi.z, fun a' G' H' stp st' mem => ?_⟩
            obtain ⟨hi', more⟩ := fin a' G' H' stp st' mem
            obtain ⟨m1, m2, m3⟩ := more w12.live
            walk_at "go"
            exact ⟨G', _, a', _, _, _, rfl, hi', by rw [List.length_append]; simp; omega, (w12.at_ m1).mono (by omega), m2, m3, fun _ => by rw [List.length_append]; simp⟩
          · walk_at "go"
            exact ⟨G11, s, a, es, us, _, rfl, hi, l186, wj.mono (by omega), gw', wM', fun _ => by omega⟩
        · rintro σ' H11 ⟨G11, s, a, es, us, x11, rfl, hi, l186, wj, gw', wM', lj⟩
          exact ⟨G11, s, a, es, us, _, _, _, _, rfl, hi, l186, fun _ => lj (by omega)⟩
      · rintro σ' H8 ⟨G8, s, a, es, us, x5, x7, x10, x11, rfl, hi, l186, lz⟩
        walk_at "go"
        refine g_newT (sz (by simp)) fun T H9 T0 s9 hT => ?_
        have hi9 := hi.grow s9
        have := hi.ej []
        rw [List.append_nil] at this
        exact q names es us G8 H9 T L F hi9.g0 hk tx nne hT (hi9.st.gh _ _ hi9.eL) hi9.eF hi9.hF hi9.pe hi9.eo l186 (lz (by omega)) this
    · walk_at "go"
      refine g_dec (fun cf => ?_) (fun cf => ?_)
      · walk_at "go"
        refine ⟨w, _, _, rfl, w6, ⟨by decide, by decide⟩, by omega, fun r2 H7 a2 b2 c2 w7 => ?_⟩
        walk_at "go"
        have hi7 := hi.only c2 gw w0 wM Fw
        refine g_dec (fun cr => ?_) (fun cr => ?_)
        · have hF7 := hi7.eF
          walk_at "go"
          have hLl := hi7.st.gh _ _ hi7.eL
          refine ⟨G5, w, L, names, names, _, rfl, hi7.st.gh, w7, by omega, gw, hLl, hLw, by omega, nd, fun x hx => hx, fun k rows t G8 H8 st8 w8 ea eo => ?_⟩
          obtain ⟨eF1, hs2, fin⟩ := hi7.added gw w0 w7.live Fw wM st8 ea eo True.intro (fun z => by omega) rfl (fun d z => by cases z)
          walk_at "go"
          refine g_app eF1 (by rw [sizeLine_eq]; decide) ?_
          walk_at "go"
          refine ⟨G8, p, St.new, a, names, 0, 0, .ref t, .raised k rows, rfl, hs2, hi7.ok, by omega, ea, eo, rfl, fun _ => rfl, fun a' G' H' stp st' mem => ?_⟩
          obtain ⟨hi', more⟩ := fin a' G' H' stp st' mem
          walk_at "go"
          exact rest _ _ ⟨G', _, a', _, _, _, _, _, rfl, hi', by simp⟩
        · walk_at "go"
          exact rest _ _ ⟨G5, _, a, _, _, _, _, _, rfl, hi7, by simp⟩
      · walk_at "go"
        exact rest _ _ ⟨G5, _, a, _, _, _, _, _, rfl, hi, by simp⟩
end
end Hs

set_option maxHeartbeats 4000000
namespace Hs
open PySem PySem.Spec PyProof.Rows L2 Sk
section
variable {P : Program} {w : World} {K : PySem.W.Frag} {mg : Str → Option Value} {base : Heap} {CW CD : Addr}
theorem Grow.withD {G H G' H' : Hp} {D : Addr} {o : HO} (g : Grow G H G' H') (hD : H D = none) (gD : G' D = none) : Grow G H G' (upd H' D o) := Step.trans g g.lives0 (stepU (M := [D]) g.gh gD (by simp)) fun x hx => .inr (by rw [List.mem_singleton.mp hx]; exact hD)
theorem cutV_init (ini : List V) (v : V) : cutV (ini ++ [v]) none (some (-1)) = ini ∧ ¬ (HT.sIx (ini ++ [v]).length 0 none = 0 ∧ HT.sIx (ini ++ [v]).length (ini ++ [v]).length (some (-1)) = (ini ++ [v]).length) := by
  have e : HT.sIx (ini ++ [v]).length (ini ++ [v]).length (some (-1)) = ini.length := by
    unfold HT.sIx
    simp
    try omega
  have e0 : HT.sIx (ini ++ [v]).length 0 none = 0 := HT.sIx_none ..
  constructor
  · unfold cutV
    rw [e, e0]
    simp
  · rw [e, List.length_append, List.length_singleton]
    omega
theorem isi_no {K : PySem.W.Frag} {H : Hp} {Q : VK} {v : V} (h : v = .non ∨ (∃ i, v = .int i) ∨ ∃ s, v = .str s) (q : Q (.bl false) H) : rIsi K [v, .ty "list"] H Q := by
  rcases h with rfl | ⟨i, rfl⟩ | ⟨s, rfl⟩
  · exact ⟨_, _, _, _, false, rfl, .ty _, .base .non, kit_ty (r := false) (by decide +kernel), q⟩
  · exact ⟨_, _, _, _, false, rfl, .ty _, .base (.int i), kit_ty (r := false) (by decide +kernel), q⟩
  · exact ⟨_, _, _, _, false, rfl, .ty _, .base (.str s), kit_ty (r := false) (by decide +kernel), q⟩
theorem isi_yes {K : PySem.W.Frag} {H : Hp} {Q : VK} {a : Addr} {xs : List V} (h : H a = some (.lst xs)) (q : Q (.bl true) H) : rIsi K [.ref a, .ty "list"] H Q :=
  ⟨_, _, _, _, true, rfl, .ty _, .base (.lst h), kit_ty (r := true) (by decide +kernel), q⟩
theorem isb_no {K : PySem.W.Frag} {H : Hp} {Q : VK} {v : V} (h : v = .non ∨ (∃ i, v = .int i)) (q : Q (.bl false) H) : rIsi K [v, .ty "bool"] H Q := by
  rcases h with rfl | ⟨i, rfl⟩
  · exact ⟨_, _, _, _, false, rfl, .ty _, .base .non, kit_ty (r := false) (by decide +kernel), q⟩
  · exact ⟨_, _, _, _, false, rfl, .ty _, .base (.int i), kit_ty (r := false) (by decide +kernel), q⟩
theorem wV_plain (w : Option Int) : wV w = .non ∨ (∃ i, wV w = .int i) ∨ ∃ s, wV w = .str s := by cases w with
  | none => exact .inl rfl
  | some i => exact .inr (.inl ⟨i, rfl⟩)
theorem last_of {G : Hp} {e : Ev} {vs : List V} (re : RestAt G e vs) : ∃ ini v, V.str e.word :: vs = ini ++ [v] ∧ ini ≠ [] ∧ ini.length ≤ 5 ∧ ((v = .non ∨ (∃ i, v = .int i) ∨ ∃ s, v = .str s) ∨
    ∃ l ws rows, v = .ref l ∧ G l = some (.lst ws) ∧ Paired (RowAt G) ws rows ∧ ∀ (G' : Hp) (l' : Addr), RowsAt G' (.ref l') rows → ∃ vs', ini ++ [.ref l'] = V.str e.word :: vs' ∧ RestAt G' e vs') := by
  cases re with
  | begin d => exact ⟨[_], _, rfl, by simp, by simp, .inl (.inr (.inl ⟨_, rfl⟩))⟩
  | read d k w => exact ⟨[_, _, _], _, rfl, by simp, by simp, .inl (wV_plain w)⟩
  | @scan d lo hi rows v h =>
    obtain ⟨l, ws, rfl, hl, hp⟩ := h
    exact ⟨[_, _, _, _], _, rfl, by simp, by simp, .inr ⟨l, ws, rows, rfl, hl, hp, fun G' l' h' => ⟨_, rfl, .scan _ _ _ h'⟩⟩⟩
  | put d k w => exact ⟨[_, _, _], _, rfl, by simp, by simp, .inl (.inr (.inl ⟨_, rfl⟩))⟩
  | drop d k => exact ⟨[_, _], _, rfl, by simp, by simp, .inl (.inr (.inr ⟨_, rfl⟩))⟩
  | mark d n => exact ⟨[_, _], _, rfl, by simp, by simp, .inl (.inr (.inl ⟨_, rfl⟩))⟩
  | back d n => exact ⟨[_, _], _, rfl, by simp, by simp, .inl (.inr (.inl ⟨_, rfl⟩))⟩
  | keep d p => exact ⟨[_, _], _, rfl, by simp, by simp, .inl (.inr (.inl ⟨_, rfl⟩))⟩
  | undo d => exact ⟨[_], _, rfl, by simp, by simp, .inl (.inr (.inl ⟨_, rfl⟩))⟩
  | fall n => exact ⟨[_], _, rfl, by simp, by simp, .inl (.inr (.inl ⟨_, rfl⟩))⟩
  | @raised n rows v h =>
    obtain ⟨l, ws, rfl, hl, hp⟩ := h
    exact ⟨[_, _], _, rfl, by simp, by simp, .inr ⟨l, ws, rows, rfl, hl, hp, fun G' l' h' => ⟨_, rfl, .raised _ h'⟩⟩⟩
def spCopied : Sp := fun vs H Q _ => ∃ (G : Hp) (F : Addr) (us : List V) (es : List Ev), vs = [.ref F] ∧ Same G H ∧ H F = some (.lst us) ∧ Paired (EvAt G) us es ∧ es.length ≤ 1000 ∧ ∀ (F' : Addr) (us' : List V) (G' H' : Hp), Grow G H G' H' → H F' = none → G' F' = some (.lst us') → Paired (EvAt G') us' es → Q (.ref F') H'

theorem sc__law_copied : FnScope ["events", "event"] ["events"] (defScope s__law_copied) := ⟨rfl, rfl, rfl, by decide +kernel, rfl, by decide +kernel, by decide +kernel⟩
theorem ok__law_copied {f : Addr} {fd : FuncData} (F : FunD K "_law_copied" "_law_copied" (defArgs s__law_copied) (defBody s__law_copied) (defScope s__law_copied) [] [] f fd) (gm : mg "_law_copied" = some (.ref f)) (B : Bas mg)  : Cal P w K mg base CX0 1 "_law_copied" ["events"] spCopied := by
  refine ⟨f, fd, F.ok sc__law_copied (fun vs H Q E h => ?_) (fun cdv A outer s H vs Q E hr h => ⟨_, PSs.nox (pss_one (ps_ret (pe_lc (own := [("event", 1)]) rfl sc__law_copied.nd (pi_list (pv 0)) (blkOk_by (N := ["events", "event"]) (sc := defScope s__law_copied) (by decide +kernel)) (fun _ _ _ _ _ => (pg_name (i := 1) sc__law_copied.nd rfl (by first | exact Or.inl rfl | exact Or.inr rfl))) (fun _ _ _ _ _ => pts_nil) (fun _ _ _ _ _ => (pe_ifExp (pt_val (pe_callB (call_isiK' K rfl) (by rfl) B.isi (by decide +kernel) (pa_cons (pe_ix (ix_tK K rfl) (pv 1) (pe_un un_neg pe_int) (fun _ _ => rfl)) (pa_cons (pe_bltn (v := .ty "list") rfl B.lst (by decide +kernel) rfl) pa_nil)))) (pe_op (op_catAK K rfl) (pe_slice (sl_tupAK K rfl) (pv 1) po_none (po_some (pe_un un_neg pe_int))) (pe_tup (pa_cons (pe_callTy (call_list_ofK K rfl) (by rfl) B.lst (by decide +kernel) (pa_cons (pe_ix (ix_tK K rfl) (pv 1) (pe_un un_neg pe_int) (fun _ _ => rfl)) pa_nil)) pa_nil))) (pv 1)))))), ?_⟩), gm, F.kp, F.bindsN fun _ _ _ _ _ _ us hl => match us, hl with | [_], _ => rfl⟩
  · obtain ⟨G, F, us, es, rfl, _⟩ := h; rfl
  · obtain ⟨G, F, us, es, rfl, gh, hF, pe, el, q⟩ := h
    walk_at "go"
    refine g_lcL ?_
    walk_at "go"
    have ul : us.length = es.length := Paired.len pe
    refine lcL_new (SqL.of hF) (by rw [sizeLine_eq]; omega) (fun D i acc H' => ∃ G', Grow G H G' H' ∧ G' D = none ∧ Paired (EvAt G') acc (es.take i)) (fun D hD => ⟨G, growM gh (same_new hD), gh.free hD, .nil⟩) (fun D i acc H' hD r => by obtain ⟨G', g1, _⟩ := r; exact SqL.of (g1.same _ _ hF)) (fun D i acc H' _ r => by obtain ⟨G', _, _, pr⟩ := r; rw [Paired.len pr, List.length_take]; exact Nat.min_le_left _ _) ?_ ?_
    · rintro D i x acc H' hD hx ⟨G', gr, gD, pr⟩ eD Rr k
      obtain ⟨e, he, ea⟩ := Paired.at' pe hx
      have es1 : es.take (i + 1) = es.take i ++ [e] := take_snoc he
      have ea' := ea.grow gr.gg
      obtain ⟨t, vs, rfl, ht, re⟩ := ea'
      obtain ⟨ini, v, ev, ine, il, hv⟩ := last_of re
      rw [ev] at ht
      have ht1 := gr.gh _ _ ht
      obtain ⟨cv1, cv2⟩ := cutV_init ini v
      walk_at "go"
      refine ⟨rfl, ?_⟩
      walk_at "go"
      refine g_ixT ht1 (atI_last ini v) ?_
      walk_at "go"
      rcases hv with hv | ⟨l, ws, rows, rfl, hl, hp, mk⟩
      · refine isi_no hv ?_
        walk_at "go"
        refine k _ _ eD ⟨G', gr.withD hD gD, gD, ?_⟩
        rw [es1]
        exact Paired.app pr (.cons (ea.grow gr.gg) .nil)
      · have hl1 := gr.gh _ _ hl
        refine isi_yes hl1 ?_
        walk_at "go"
        refine ⟨t, _, rfl, SqT.of ht1, fun z => (cv2 z).elim, fun _ T1 T10 => ?_⟩
        rw [cv1]
        have s1 : Same H' (upd H' T1 (.tup ini)) := same_new T10
        have hT1 : upd H' T1 (.tup ini) T1 = _ := upd_same
        generalize upd H' T1 (.tup ini) = H1 at s1 hT1 ⊢
        have g1 := growM gr.gh s1
        have eD1 := s1 _ _ eD
        walk_at "go"
        refine g_ixT (s1 _ _ ht1) (atI_last ini (V.ref l)) ?_
        walk_at "go"
        refine ⟨l, ws, rfl, .inl (SqL.of (s1 _ _ hl1)), fun l' l'0 => ?_⟩
        have s2 : Same H1 (upd H1 l' (.lst ws)) := same_new l'0
        have hl' : upd H1 l' (.lst ws) l' = _ := upd_same
        generalize upd H1 l' (.lst ws) = H2 at s2 hl' ⊢
        have g2 := growF g1.gh l'0 s2 hl'
        have eD2 := s2 _ _ eD1
        walk_at "go"
        refine g_newT (sz (by simp)) fun T2 H3 T20 s3 hT2 => ?_
        have g3 := growM g2.gh s3
        have eD3 := s3 _ _ eD2
        walk_at "go"
        refine ⟨T1, T2, ini, [.ref l'], rfl, rfl, SqT.of (s3 _ _ (s2 _ _ hT1)), SqT.of hT2, by rw [sizeLine_eq]; simp; omega, fun z => (ine z).elim, fun _ z => (by cases z), fun _ _ T3 T30 => ?_⟩
        have s4 : Same H3 (upd H3 T3 (.tup (ini ++ [.ref l']))) := same_new T30
        have hT3 : upd H3 T3 (.tup (ini ++ [.ref l'])) T3 = _ := upd_same
        generalize upd H3 T3 (.tup (ini ++ [.ref l'])) = H4 at s4 hT3 ⊢
        have g4 := growF g3.gh T30 s4 hT3
        have gA := (((gr.trans g1).trans g2).trans g3).trans g4
        have gL : upd G' l' (.lst ws) l' = some (.lst ws) := upd_same
        have gD' : upd (upd G' l' (.lst ws)) T3 (.tup (ini ++ [.ref l'])) D = none := by
          rw [upd_ne (ne_of_none eD3 T30), upd_ne (ne_of_none eD1 l'0)]; exact gD
        refine k _ _ (s4 _ _ eD3) ⟨_, gA.withD hD gD', gD', ?_⟩
        rw [es1]
        obtain ⟨vs', e1, re'⟩ := mk (upd (upd G' l' (.lst ws)) T3 (.tup (ini ++ [.ref l']))) l' ⟨l', ws, rfl, g4.gg _ _ gL, Paired.imp (fun _ _ z => (z.grow g2.gg).grow g4.gg) hp⟩
        exact Paired.app (Paired.imp (fun _ _ z => (z.grow g2.gg).grow g4.gg) pr) (.cons ⟨T3, vs', rfl, by rw [upd_same, e1], re'⟩ .nil)
    · rintro D acc H' hD ⟨G', gr, gD, pr⟩ eD
      rw [ul, List.take_length] at pr
      exact q D acc _ H' (gr.takes hD gD eD) hD upd_same (Paired.imp (fun _ _ z => z.grow (same_new gD)) pr)
end
end Hs

set_option maxHeartbeats 4000000
namespace Hs
open PySem PySem.Spec PyProof.Rows L2 Sk
section
variable {P : Program} {w : World} {K : PySem.W.Frag} {mg : Str → Option Value} {base : Heap} {CW CD : Addr}
def EvSt : Ev → Prop
  | .read _ k _ => PyData.strOk k = true
  | .scan _ lo hi _ => PyData.strOk lo = true ∧ PyData.strOk hi = true
  | _ => True
theorem EvTx.st {e : Ev} (h : EvTx e) : EvSt e := by
  cases e with
  | scan d lo hi rows => exact ⟨h.1, h.2.1⟩
  | _ => exact h
def restD : Ev → List PyData
  | .begin d => [.int d]
  | .read d k w => [.int d, .str k, wD w]
  | .scan d lo hi rows => [.int d, .str lo, .str hi, .list (rowsD rows)]
  | .put d k w => [.int d, .str k, .int w]
  | .drop d k => [.int d, .str k]
  | .mark d n => [.int d, .int n]
  | .back d n => [.int d, .int n]
  | .keep d p => [.int d, .int p]
  | .undo d => [.int d]
  | .fall n => [.int n]
  | .raised n rows => [.int n, .list (rowsD rows)]
def evD (e : Ev) : PyData := .tuple (.str e.word :: restD e)
theorem rowsDp {K : PySem.W.Frag} {G : Hp} {v : V} {rows : List (Str × Int)} (h : RowsAt G v rows) : Dp K G v (.list (rowsD rows)) := by
  obtain ⟨l, vs, rfl, hl, p⟩ := h
  exact .lst (SqL.of hl) (rowsDpAll p)
theorem restDp {K : PySem.W.Frag} {G : Hp} {e : Ev} {vs : List V} (re : RestAt G e vs) : DpAll K G vs (restD e) := by
  cases re with
  | begin d => exact .cons (.int _) .nil
  | read d k w => exact .cons (.int _) (.cons (.str _) (.cons (wD_dp _) .nil))
  | scan d lo hi h => exact .cons (.int _) (.cons (.str _) (.cons (.str _) (.cons (rowsDp h) .nil)))
  | put d k w => exact .cons (.int _) (.cons (.str _) (.cons (.int _) .nil))
  | drop d k => exact .cons (.int _) (.cons (.str _) .nil)
  | mark d n => exact .cons (.int _) (.cons (.int _) .nil)
  | back d n => exact .cons (.int _) (.cons (.int _) .nil)
  | keep d n => exact .cons (.int _) (.cons (.int _) .nil)
  | undo d => exact .cons (.int _) .nil
  | fall n => exact .cons (.int _) .nil
  | raised n h => exact .cons (.int _) (.cons (rowsDp h) .nil)
theorem evsDp {K : PySem.W.Frag} {G : Hp} : ∀ {us : List V} {es : List Ev}, Paired (EvAt G) us es → DpAll K G us (es.map evD)
  | _, _, .nil => .nil
  | _, _, .cons h t => by
    obtain ⟨q, vs, rfl, e, re⟩ := h
    exact .cons (.tup (SqT.of e) (.cons (.str _) (restDp re))) (evsDp t)
theorem word_ok (e : Ev) : PyData.strOk e.word = true := by
  cases e with
  | begin => exact (show PyData.strOk "begin" = true from by decide +kernel)
  | read => exact (show PyData.strOk "read" = true from by decide +kernel)
  | scan => exact (show PyData.strOk "scan" = true from by decide +kernel)
  | put => exact (show PyData.strOk "put" = true from by decide +kernel)
  | drop => exact (show PyData.strOk "drop" = true from by decide +kernel)
  | mark => exact (show PyData.strOk "mark" = true from by decide +kernel)
  | back => exact (show PyData.strOk "back" = true from by decide +kernel)
  | keep => exact (show PyData.strOk "keep" = true from by decide +kernel)
  | undo => exact (show PyData.strOk "undo" = true from by decide +kernel)
  | fall => exact (show PyData.strOk "fall" = true from by decide +kernel)
  | raised => exact (show PyData.strOk "raised" = true from by decide +kernel)

theorem evD_eqv (e : Ev) : PyData.eqv (evD e) (evD e) = true := by
  have hr : ∀ rows, PyData.eqvAll (rowsD rows) (rowsD rows) = true := fun rows => by rw [rowsD_eqv]; simp
  cases e with
  | read d k w => cases w <;> simp [evD, restD, wD, PyData.eqv, PyData.eqvAll]
  | _ => simp [evD, restD, PyData.eqv, PyData.eqvAll, hr]
theorem evsD_eqv : ∀ es : List Ev, PyData.eqvAll (es.map evD) (es.map evD) = true
  | [] => rfl
  | e :: r => by
    show (PyData.eqv (evD e) (evD e) && PyData.eqvAll (r.map evD) (r.map evD)) = true
    rw [evD_eqv, evsD_eqv r]
    rfl
def RowsOk : Ev → Prop
  | .raised _ rows => ∀ x ∈ rows, PyData.strOk x.1 = true
  | .scan _ _ _ rows => ∀ x ∈ rows, PyData.strOk x.1 = true
  | .put _ k _ => PyData.strOk k = true
  | .drop _ k => PyData.strOk k = true
  | _ => True
theorem evD_lay {e : Ev} (h1 : EvSt e) (h2 : RowsOk e) : PyData.canLay0 (evD e) = true ∧ PyData.depth (evD e) ≤ 3 := by
  have hw : ∀ w, PyData.canLay0 (wD w) = true ∧ PyData.depth (wD w) = 0 := fun w => by cases w <;> exact ⟨rfl, rfl⟩
  have wo := word_ok e
  have hd := fun rows => rowsD_depth rows
  cases e with
  | raised n rows =>
    have := rowsD_lay rows h2
    have := hd rows
    constructor
    · simp [evD, restD, PyData.canLay0, PyData.canLayAll0, *]
    · simp [evD, restD, PyData.depth, PyData.depthAll]; omega
  | scan d lo hi rows =>
    have := rowsD_lay rows h2
    have := hd rows
    obtain ⟨t1, t2⟩ := h1
    constructor
    · simp [evD, restD, PyData.canLay0, PyData.canLayAll0, *]
    · simp [evD, restD, PyData.depth, PyData.depthAll]; omega
  | read d k w =>
    have h1' : PyData.strOk k = true := h1
    obtain ⟨a1, a2⟩ := hw w
    constructor
    · simp [evD, restD, PyData.canLay0, PyData.canLayAll0, *]
    · simp [evD, restD, PyData.depth, PyData.depthAll, a2]
  | put d k w =>
    have h2' : PyData.strOk k = true := h2
    constructor
    · simp [evD, restD, PyData.canLay0, PyData.canLayAll0, *]
    · simp [evD, restD, PyData.depth, PyData.depthAll]
  | drop d k =>
    have h2' : PyData.strOk k = true := h2
    constructor
    · simp [evD, restD, PyData.canLay0, PyData.canLayAll0, *]
    · simp [evD, restD, PyData.depth, PyData.depthAll]
  | _ =>
    constructor
    · simp [evD, restD, PyData.canLay0, PyData.canLayAll0, wo]
    · simp [evD, restD, PyData.depth, PyData.depthAll]
theorem evsD_lay : ∀ es : List Ev, (∀ e ∈ es, EvSt e ∧ RowsOk e) → PyData.canLayAll0 (es.map evD) = true ∧ PyData.depthAll (es.map evD) ≤ 3
  | [], _ => ⟨rfl, Nat.zero_le _⟩
  | e :: r, h => by
    obtain ⟨a1, a2⟩ := evD_lay (h e List.mem_cons_self).1 (h e List.mem_cons_self).2
    obtain ⟨b1, b2⟩ := evsD_lay r fun x hx => h x (List.mem_cons_of_mem _ hx)
    constructor
    · show (PyData.canLay0 (evD e) && PyData.canLayAll0 (r.map evD)) = true
      rw [a1, b1]; rfl
    · show max (PyData.depth (evD e)) (PyData.depthAll (r.map evD)) ≤ 3
      omega
theorem evsD_shaped {es : List Ev} (h : ∀ e ∈ es, EvSt e ∧ RowsOk e) : SeqAt.shaped (.list (es.map evD)) = true := by
  obtain ⟨a, b⟩ := evsD_lay es h
  show (PyData.canLayAll0 (es.map evD) && decide (PyData.depthAll (es.map evD) + 1 ≤ 64)) = true
  rw [a, Bool.true_and, decide_eq_true_eq]
  omega
theorem EvOk.rows {names : List Str} {e : Ev} (h : EvOk names e) (hk : KsOk names) : RowsOk e := by
  cases e with
  | raised n rows => exact fun x hx => hk.ok _ (h.2.1 x hx)
  | scan d lo hi rows => exact fun x hx => hk.ok _ (h x hx)
  | put d k w => exact hk.ok _ h
  | drop d k => exact hk.ok _ h
  | _ => exact True.intro
end
end Hs

set_option maxHeartbeats 4000000
namespace Hs
open PySem PySem.Spec PyProof.Rows L2 Sk
section
variable {P : Program} {w : World} {K : PySem.W.Frag} {mg : Str → Option Value} {base : Heap} {CW CD : Addr}
theorem bas_set {mg : Str → Option Value} (B : Bas mg) : mg "set" = none := B.all _ (by simp)
theorem bas_tuple {mg : Str → Option Value} (B : Bas mg) : mg "tuple" = none := B.all _ (by simp)
theorem g_dputT {a b : Addr} {kvs : List (List Key × V)} {k : List Key} {H : Hp} {v : V} {R : Hp → Prop} (h : H a = some (.dT kvs)) (eb : H b = some (.tup (k.map kV))) (l : kvs.length < sizeLine) (q : R (L2.upd H a (.dT (putK kvs k v)))) : DPutR v (.ref a) (.ref b) H R := ⟨a, _, rfl, DPut.t h eb l, q⟩
theorem g_set {o i v : V} {H : Hp} {R : Hp → Prop} (h : DPutR v o i H R) : rSetD o i v H R := h
theorem g_newDT {σ : L2.St} {H : Hp} {Q : VK} (h : ∀ p H', H p = none → Same H H' → H' p = some (.dT []) → Q (.ref p) H') : tDNewT σ H Q := fun p hp => h p _ hp (same_new hp) upd_same
theorem g_parI {i j : Nat} {ta : TA} {D : Ends} {σ : L2.St} {H : Hp} (h : ta σ H fun vs H1 => ∃ v w, vs = [v, w] ∧ D.nx ((σ.set i (some v)).set j (some w)) H1) : tPar i j ta D σ H := h
theorem ifY {c : Prop} [Decidable c] {A B : Prop} (hc : c) (h : A) : if decide c = true then A else B := by rw [if_pos (decide_eq_true hc)]; exact h
theorem ifN {c : Prop} [Decidable c] {A B : Prop} (hc : ¬ c) (h : B) : if decide c = true then A else B := by rw [if_neg (by rw [decide_eq_false hc]; exact Bool.false_ne_true)]; exact h
theorem ifBY {b : Bool} {A B : Prop} (hb : b = true) (h : A) : if b = true then A else B := by rw [if_pos hb]; exact h
theorem ifBN {b : Bool} {A B : Prop} (hb : b = false) (h : B) : if b = true then A else B := by rw [if_neg (by rw [hb]; exact Bool.false_ne_true)]; exact h
/-- one thing is changed -/
structure Chg (a : Addr) (H H1 : Hp) : Prop where
  fr : ∀ x o, x ≠ a → H x = some o → H1 x = some o
  fn : ∀ x, H1 x = none → H x = none
theorem chg_upd {H : Hp} {a : Addr} {o : HO} : Chg a H (L2.upd H a o) := ⟨fun x u hx e => (upd_ne hx).trans e, fun x e => (free_upd e).2⟩
theorem g_putI {a : Addr} {kvs : List (Key × V)} {i : Int} {v : V} {H : Hp} {R : Hp → Prop} (h : H a = some (.dK kvs)) (l : kvs.length < sizeLine) (q : ∀ H1, H1 a = some (.dK (putK kvs (Sum.inl i) v)) → Chg a H H1 → R H1) : DPutR v (.ref a) (.int i) H R := g_dputI h l (q _ upd_same chg_upd)
theorem g_putS {a : Addr} {kvs : List (Key × V)} {z : Str} {v : V} {H : Hp} {R : Hp → Prop} (h : H a = some (.dK kvs)) (l : kvs.length < sizeLine) (q : ∀ H1, H1 a = some (.dK (putK kvs (Sum.inr z) v)) → Chg a H H1 → R H1) : DPutR v (.ref a) (.str z) H R := g_dputS h l (q _ upd_same chg_upd)
theorem g_putT {a b : Addr} {kvs : List (List Key × V)} {k : List Key} {H : Hp} {v : V} {R : Hp → Prop} (h : H a = some (.dT kvs)) (eb : H b = some (.tup (k.map kV))) (l : kvs.length < sizeLine) (q : ∀ H1, H1 a = some (.dT (putK kvs k v)) → Chg a H H1 → R H1) : DPutR v (.ref a) (.ref b) H R := g_dputT h eb l (q _ upd_same chg_upd)
theorem g_app1 {l : Addr} {xs : List V} {y : V} {H : Hp} {Q : VK} (h : H l = some (.lst xs)) (z : xs.length < sizeLine) (q : ∀ H1, H1 l = some (.lst (xs ++ [y])) → Chg l H H1 → Q .non H1) : rAppend (.ref l) [y] H Q := g_app h z (q _ upd_same chg_upd)
theorem g_slTo1 {a : Addr} {xs : List V} {n : Nat} {H : Hp} {Q : VK} (h : H a = some (.lst xs)) (q : ∀ p H1, H p = none → Same H H1 → H1 p = some (.lst (xs.take n)) → Q (.ref p) H1) : rSlL K (.ref a) none (some (n : Int)) H Q := g_slTo h fun p hp => q p _ hp (same_new hp) upd_same
theorem rc_some {f : Int → Option Rc} {d : Int} {r : Rc} (h : f d = some r) (e : Ev) : setF f d ((rcOf (f d)).go e) = setF f d (r.go e) := by rw [h]; rfl
theorem g_setX {P : Program} {w : World} {a : Addr} {ts : List Str} {H : Hp} {Q : VK} (h : SqL K H a (ts.map V.str)) (l : ts.length ≤ 1000) (q : ∀ p H1, H p = none → Same H H1 → H1 p = some (SetX P w p (setL ts)) → Q (.ref p) H1) : rSetX K P w [.ref a] H Q := ⟨a, ts, rfl, h, l, fun p hp => q p _ hp (same_new hp) upd_same⟩
theorem g_sortX {P : Program} {w : World} {a : Addr} {l : List Str} {H : Hp} {Q : VK} (h : H a = some (SetX P w a l)) (nd : l.Nodup) (z : l.length ≤ 1000) (q : ∀ p H1, H p = none → Same H H1 → H1 p = some (.lst ((l.mergeSort strLe).map V.str)) → Q (.ref p) H1) : rSortX P w [.ref a] H Q := ⟨a, l, rfl, h, nd, z, fun p hp => q p _ hp (same_new hp) upd_same⟩
theorem g_sortDS {a : Addr} {kvs : List (Key × V)} {ts : List Str} {H : Hp} {Q : VK} (h : H a = some (.dK kvs)) (e : kvs.map (·.1) = ts.map Sum.inr) (z : ts.length ≤ 1000) (q : ∀ p H1, H p = none → Same H H1 → H1 p = some (.lst ((ts.mergeSort strLe).map V.str)) → Q (.ref p) H1) : rSortDS [.ref a] H Q := ⟨a, kvs, ts, rfl, .inl h, e, z, fun p hp => q p _ hp (same_new hp) upd_same⟩
theorem g_sortSp {a : Addr} {kvs : List (List Key × V)} {ps : List Sp2} {H : Hp} {Q : VK} (h : H a = some (.dT kvs)) (e : kvs.map (·.1) = ps.map Sk.kP) (z : ps.length ≤ 1000) (q : ∀ p H1 ys, H p = none → Same H H1 → H1 p = some (.lst ys) → Paired (SpAt H1) ys (ps.mergeSort spLe) → Q (.ref p) H1) : rSortSp [.ref a] H Q := ⟨a, kvs, ps, rfl, .inl h, e, z, fun p ys hp pr => q p _ ys hp (same_new hp) upd_same (Paired.imp (fun _ _ z => z.same (same_new hp)) pr)⟩
theorem ask_keys (l : List Str) : (askK l).map (·.1) = l.map Sum.inr := by unfold askK; rw [List.map_map]; rfl
theorem spK_keys (l : List Sp2) : (spK l).map (·.1) = l.map Sk.kP := by unfold spK; rw [List.map_map]; rfl
def spDeals : Sp := fun vs H Q _ => ∃ (F0 : Addr) (us : List V) (es : List Ev), vs = [.ref F0] ∧ SqL K H F0 us ∧ Paired (EvAt H) us es ∧ Good es ∧ es.length ≤ 900 ∧
  ∀ (R : Addr) (qs : List Quad) (H' : Hp), Same H H' → H' R = some (.lst (qs.map fun q => .ref q.t)) → Paired (RowQ H') qs (accs es).rows → (R :: qs.flatMap Quad.ls).Nodup → H R = none → (∀ x ∈ qs.flatMap Quad.ls, H x = none) → qs.length ≤ es.length → Q (.ref R) H'

theorem sc_kept_dealings : FnScope ["history", "since", "asked", "spans", "writes", "found", "event", "word", "dealing", "keys"] ["history"] (defScope s_kept_dealings) := ⟨rfl, rfl, rfl, by decide +kernel, rfl, by decide +kernel, by decide +kernel⟩
theorem ok_kept_dealings {f : Addr} {fd : FuncData} (F : FunD K "kept_dealings" "kept_dealings" (defArgs s_kept_dealings) (defBody s_kept_dealings) (defScope s_kept_dealings) [] [] f fd) (B : Bas mg)  : FnOk P w K mg base CX0 2 f fd ["history"] (spDeals (K := K)) := by
  refine F.ok sc_kept_dealings (fun vs H Q E h => ?_) (fun cdv A outer s H vs Q E hr h => ⟨_, PSs.nox (pss_cons (ps_asg (pe_tup (pa_cons pe_dnewK (pa_cons pe_dnewK (pa_cons pe_dnewK (pa_cons pe_dnewK pa_nil))))) (pg_tup rfl (pgs_cons (pg_name (i := 1) sc_kept_dealings.nd rfl (by first | exact Or.inl rfl | exact Or.inr rfl)) (pgs_cons (pg_name (i := 2) sc_kept_dealings.nd rfl (by first | exact Or.inl rfl | exact Or.inr rfl)) (pgs_cons (pg_name (i := 3) sc_kept_dealings.nd rfl (by first | exact Or.inl rfl | exact Or.inr rfl)) (pgs_cons (pg_name (i := 4) sc_kept_dealings.nd rfl (by first | exact Or.inl rfl | exact Or.inr rfl)) pgs_nil))))))
  (pss_cons (ps_set (i := 5) sc_kept_dealings.nd rfl (by first | exact Or.inl rfl | exact Or.inr rfl) (pe_lst pa_nil))
  (pss_cons (ps_for PassesOwn.never rfl (pi_list (pv 0)) (pg_name (i := 6) sc_kept_dealings.nd rfl (by first | exact Or.inl rfl | exact Or.inr rfl))
    (pss_cons (ps_par (i := 7) (j := 8) rfl sc_kept_dealings.nd rfl rfl (by decide) rfl rfl (pa_cons (pe_ix (ix_tK K rfl) (pv 6) pe_int (fun _ _ => rfl)) (pa_cons (pe_ix (ix_tK K rfl) (pv 6) pe_int (fun _ _ => rfl)) pa_nil)) rfl)
    (pss_one (ps_if (pt_cmpR op_eq (pv 7) pe_str (nomark _)) (pss_cons (ps_dput (hu_of hr) (pv 1) (pv 8) (pe_callB call_lenQ (by rfl) B.len PySem.boot_len (pa_cons (pv 5) pa_nil)) rfl)
      (pss_one (ps_asg (pe_tup (pa_cons pe_dnewK (pa_cons pe_dnewT (pa_cons (pe_lst pa_nil) pa_nil)))) (pg_tup rfl (pgs_cons (pg_sub (pv 2) (pv 8) (set_dict (hu_of hr))) (pgs_cons (pg_sub (pv 3) (pv 8) (set_dict (hu_of hr))) (pgs_cons (pg_sub (pv 4) (pv 8) (set_dict (hu_of hr))) pgs_nil)))))))
      (pss_one (ps_if (pt_cmpR op_eq (pv 7) pe_str (nomark _)) (pss_one (ps_dput (hu_of hr) (pe_dget (hu_of hr) (pv 3) (pv 8) (fun _ _ => rfl)) (pe_tup (pa_cons (pe_ix (ix_tK K rfl) (pv 6) pe_int (fun _ _ => rfl)) (pa_cons (pe_ix (ix_tK K rfl) (pv 6) pe_int (fun _ _ => rfl)) pa_nil))) pe_bl rfl))
        (pss_one (ps_if (pt_cmpR op_in_seq (pv 7) (pe_tup (pa_cons pe_str (pa_cons pe_str (pa_cons pe_str pa_nil)))) rfl) (pss_cons (ps_dput (hu_of hr) (pe_dget (hu_of hr) (pv 2) (pv 8) (fun _ _ => rfl)) (pe_ix (ix_tK K rfl) (pv 6) pe_int (fun _ _ => rfl)) pe_bl rfl)
          (pss_one (ps_if (pt_cmpR op_ne (pv 7) pe_str (nomark _)) (pss_one (ps_expr (pe_bm PySem.F.plainAttrs_list PySem.F.slot_list_append PySem.F.type_list_append mt_append (pe_dget (hu_of hr) (pv 4) (pv 8) (fun _ _ => rfl)) (pa_cons (pe_ix (ix_tK K rfl) (pv 6) pe_int (fun _ _ => rfl)) pa_nil))))
            pss_nil)))
          (pss_one (ps_if (pt_cmpR op_eq (pv 7) pe_str (nomark _)) (pss_one (ps_dput (hu_of hr) (pv 4) (pv 8) (pe_slice sl_list (pe_dget (hu_of hr) (pv 4) (pv 8) (fun _ _ => rfl)) po_none (po_some (pe_ix (ix_tK K rfl) (pv 6) pe_int (fun _ _ => rfl)))) rfl))
            (pss_one (ps_if (pt_cmpR op_eq (pv 7) pe_str (nomark _)) (pss_cons (ps_set (i := 9) sc_kept_dealings.nd rfl (by first | exact Or.inl rfl | exact Or.inr rfl) (pe_callB (cr_sortX rfl hr.units) (by rfl) B.sorted (by decide +kernel) (pa_cons (pe_callTy (cr_setX rfl) (by rfl) (bas_set B) (by decide +kernel) (pa_cons (pe_dget (hu_of hr) (pv 4) (pv 8) (fun _ _ => rfl)) pa_nil)) pa_nil)))
              (pss_one (ps_expr (pe_bm PySem.F.plainAttrs_list PySem.F.slot_list_append PySem.F.type_list_append mt_append (pv 5) (pa_cons (pe_tup (pa_cons (pv 8) (pa_cons (pe_dget (hu_of hr) (pv 1) (pv 8) (fun _ _ => rfl)) (pa_cons (pe_ix (ix_tK K rfl) (pv 6) pe_int (fun _ _ => rfl)) (pa_cons (pe_callB (cr_sortedDS rfl hr.units) (by rfl) B.sorted (by decide +kernel) (pa_cons (pe_dget (hu_of hr) (pv 2) (pv 8) (fun _ _ => rfl)) pa_nil)) (pa_cons (pe_callB (cr_sortedSp rfl hr.units) (by rfl) B.sorted (by decide +kernel) (pa_cons (pe_dget (hu_of hr) (pv 3) (pv 8) (fun _ _ => rfl)) pa_nil)) (pa_cons (pv 9) pa_nil))))))) pa_nil)))))
              pss_nil))))))))))))
  (pss_one (ps_ret (pv 5)))))), ?_⟩)
  · obtain ⟨F0, us, es, rfl, _⟩ := h; rfl
  · obtain ⟨F0, us, es, rfl, h0, pe, gd, el, q⟩ := h
    walk_at "go"
    refine g_newD (H' := H) fun S H1 S0 s1 hS => ?_
    walk_at "go"
    refine g_newD (H' := H) fun A H2 A0 s2 hA => ?_
    walk_at "go"
    refine g_newD (H' := H) fun P' H3 P0 s3 hP => ?_
    walk_at "go"
    refine g_newD (H' := H) fun W H4 W0 s4 hW => ?_
    walk_at "go"
    refine g_newT (sz (by simp)) fun T H5 T0 s5 hT => ?_
    refine g_gTup (SqT.of hT) rfl ?_
    walk_at "go"
    refine g_newL sz0 fun F H6 F00 s6 hF => ?_
    walk_at "go"
    have s06 : Same H H6 := s1.trans (s2.trans (s3.trans (s4.trans (s5.trans s6))))
    have sS : H6 S = some (.dK []) := s6 _ _ (s5 _ _ (s4 _ _ (s3 _ _ (s2 _ _ hS))))
    have sA : H6 A = some (.dK []) := s6 _ _ (s5 _ _ (s4 _ _ (s3 _ _ hA)))
    have sP : H6 P' = some (.dK []) := s6 _ _ (s5 _ _ (s4 _ _ hP))
    have sW : H6 W = some (.dK []) := s6 _ _ (s5 _ _ hW)
    have f0 : ∀ x ∈ F :: (⟨S, A, P', W⟩ : Tb).l, H x = none := fun x hx => by
      simp only [Tb.l, List.mem_cons, List.not_mem_nil, or_false] at hx
      rcases hx with rfl | rfl | rfl | rfl | rfl
      · exact s1.free (s2.free (s3.free (s4.free (s5.free F00))))
      · exact S0
      · exact s1.free A0
      · exact s1.free (s2.free P0)
      · exact s1.free (s2.free (s3.free W0))
    have nd : (⟨S, A, P', W⟩ : Tb).l.Nodup := by
      have e1 : S ≠ A := ne_of_none hS A0
      have e2 : S ≠ P' := ne_of_none (s2 _ _ hS) P0
      have e3 : S ≠ W := ne_of_none (s3 _ _ (s2 _ _ hS)) W0
      have e4 : A ≠ P' := ne_of_none hA P0
      have e5 : A ≠ W := ne_of_none (s3 _ _ hA) W0
      have e6 : P' ≠ W := ne_of_none hP W0
      simp [Tb.l, e1, e2, e3, e4, e5, e6]
    have p0 : PI H H6 ⟨S, A, P', W⟩ F 0 [] [] [] [] (fun _ => ⟨0, 0, 0⟩) (accs (es.take 0)).f [] (accs (es.take 0)).rows :=
      ⟨s06, sS, sA, sP, sW, hF, ⟨Nat.zero_le _, Nat.zero_le _, Nat.zero_le _, Nat.zero_le _⟩, nd, f0, (fun _ _ z => by cases z), (fun _ _ z => by cases z), (fun _ _ _ _ z => by cases z), (fun _ _ z => by cases z), (fun _ _ z => by cases z), .nil, by simp, fun _ z => (List.not_mem_nil z).elim, (fun _ _ z => by cases z), Nat.zero_le _⟩
    have ul : us.length = es.length := Paired.len pe
    clear s1 s2 s3 s4 s5 s6 hS hA hP hW hT hF S0 A0 P0 W0 T0 F00 sS sA sP sW f0 nd
    refine forL_by (s06.seq h0) (fun i σ' H' => (∃ x6 x7 x8 x9, σ' = [some (.ref F0), some (.ref S), some (.ref A), some (.ref P'), some (.ref W), some (.ref F), x6, x7, x8, x9]) ∧ ∃ kS kA kP kW ad qs, PI H H' ⟨S, A, P', W⟩ F i kS kA kP kW ad (accs (es.take i)).f qs (accs (es.take i)).rows) ⟨⟨_, _, _, _, rfl⟩, _, _, _, _, _, _, p0⟩ (fun i σ' H' _ p => by obtain ⟨_, _, _, _, _, _, _, p⟩ := p; exact p.s1.seq h0) ?_ ?_
    · rintro i x σ' H' hx ⟨⟨x6, x7, x8, x9, rfl⟩, kS, kA, kP, kW, ad, qs, p⟩
      obtain ⟨e, he, ea⟩ := Paired.at' pe hx
      have hi : i < es.length := (List.getElem?_eq_some_iff.mp he).1
      have es1 : es.take (i + 1) = es.take i ++ [e] := take_snoc he
      have ga := gd i e he
      obtain ⟨t, vs, rfl, ht, re⟩ := ea
      have ht1 := p.s1 _ _ ht
      have slz : ∀ {k : Nat}, k ≤ i → k < sizeLine := fun h => by rw [sizeLine_eq]; omega
      rw [es1, accs_snoc]
      generalize accs (es.take i) = a at p ga ⊢
      obtain ⟨f, rows⟩ := a
      replace p : PI H H' ⟨S, A, P', W⟩ F i kS kA kP kW ad f qs rows := p
      clear hx he es1 pe gd q h0 p0 s06
      cases re with
      | begin d =>
        have ht2 : H' t = some (.tup [.str "begin", .int d]) := ht1
        walk_at "go"
        refine g_parI ?_
        walk_at "go"
        refine g_ixT ht2 rfl ?_
        walk_at "go"
        refine g_ixT ht2 rfl ?_
        walk_at "go"
        refine ⟨_, _, rfl, ?_⟩
        walk_at "go"
        refine ifY rfl ?_
        have eF := p.eF
        walk_at "go"
        obtain ⟨⟨nSA, nSP, nSW⟩, ⟨nAP, nAW⟩, nPW⟩ : (S ≠ A ∧ S ≠ P' ∧ S ≠ W) ∧ (A ≠ P' ∧ A ≠ W) ∧ P' ≠ W := by
          have := p.top
          simpa [Tb.l] using this
        refine g_putI p.eS (slz p.lk.1) fun G1 S1 k1 => ?_
        walk_at "go"
        refine g_newD (H' := H) fun a G2 a0 s2 ha => ?_
        walk_at "go"
        refine g_newDT fun b G3 b0 s3 hb => ?_
        walk_at "go"
        refine g_newL sz0 fun c G4 c0 s4 hc => ?_
        walk_at "go"
        refine g_newT (sz (by simp)) fun T2 G5 T20 s5 hT2 => ?_
        refine g_gTup (SqT.of hT2) rfl ?_
        walk_at "go"
        have s15 : Same G1 G5 := s2.trans (s3.trans (s4.trans s5))
        refine g_set (g_putI (s15 _ _ (k1.fr _ _ (Ne.symm nSA) p.eA)) (slz p.lk.2.1) fun G6 A6 k6 => ?_)
        walk_at "go"
        refine g_set (g_putI (k6.fr _ _ (Ne.symm nAP) (s15 _ _ (k1.fr _ _ (Ne.symm nSP) p.eP))) (slz p.lk.2.2.1) fun G7 P7 k7 => ?_)
        walk_at "go"
        refine g_set (g_putI (k7.fr _ _ (Ne.symm nPW) (k6.fr _ _ (Ne.symm nAW) (s15 _ _ (k1.fr _ _ (Ne.symm nSW) p.eW)))) (slz p.lk.2.2.2) fun G8 W8 k8 => ?_)
        walk_at "go"
        have a1 := k1.fn _ a0
        have b1 := k1.fn _ (s2.free b0)
        have c1 := k1.fn _ (s2.free (s3.free c0))
        have nn : ∀ {x y : Addr} {o : HO}, H' x = none → H' y = some o → x ≠ y := fun h1 h2 e => by rw [e, h2] at h1; cases h1
        have up : ∀ x o, x ≠ A → x ≠ P' → x ≠ W → G5 x = some o → G8 x = some o := fun x o h1 h2 h3 e => k8.fr _ _ h3 (k7.fr _ _ h2 (k6.fr _ _ h1 e))
        have lq : (qs.map fun q => V.ref q.t).length = rows.length := by rw [List.length_map, Paired.len p.rw_]
        have kx : ∀ x, x ≠ d → (Sum.inl x : Key) ≠ Sum.inl d := fun x hx z => hx (Sum.inl.inj z)
        refine ⟨⟨_, _, _, _, rfl⟩, _, _, _, _, setA ad d ⟨a, b, c⟩, qs, p.upd d ⟨rows.length, [], [], []⟩ ⟨a, b, c⟩ (up _ _ nSA nSP nSW (s15 _ _ S1)) (k8.fr _ _ nAW (k7.fr _ _ nAP A6)) (k8.fr _ _ nPW P7) W8 ⟨Nat.le_trans (len_putK _ _ _) (Nat.succ_le_succ p.lk.1), Nat.le_trans (len_putK _ _ _) (Nat.succ_le_succ p.lk.2.1), Nat.le_trans (len_putK _ _ _) (Nat.succ_le_succ p.lk.2.2.1), Nat.le_trans (len_putK _ _ _) (Nat.succ_le_succ p.lk.2.2.2)⟩
          ⟨by rw [valV_put, if_pos rfl, lq], by rw [valV_put, if_pos rfl], by rw [valV_put, if_pos rfl], by rw [valV_put, if_pos rfl], up _ _ (nn a1 p.eA) (nn a1 p.eP) (nn a1 p.eW) (s5 _ _ (s4 _ _ (s3 _ _ ha))), up _ _ (nn b1 p.eA) (nn b1 p.eP) (nn b1 p.eW) (s5 _ _ (s4 _ _ hb)), up _ _ (nn c1 p.eA) (nn c1 p.eP) (nn c1 p.eW) (s5 _ _ hc)⟩
          (fun x hx => ⟨by rw [valV_put, if_neg (kx x hx)], by rw [valV_put, if_neg (kx x hx)], by rw [valV_put, if_neg (kx x hx)], by rw [valV_put, if_neg (kx x hx)]⟩) (.inl a1) (.inl b1) (.inl c1) (fun x o hx _ e => ?_) ⟨Nat.zero_le _, Nat.zero_le _, Nat.zero_le _⟩⟩
        simp only [Tb.l, List.mem_cons, List.not_mem_nil, or_false, not_or] at hx
        exact up _ _ hx.2.1 hx.2.2.1 hx.2.2.2 (s15 _ _ (k1.fr _ _ hx.1 e))
      | @scan d lo hi rs v hv =>
        have ht2 : H' t = some (.tup [.str "scan", .int d, .str lo, .str hi, v]) := ht1
        walk_at "go"
        refine g_parI ?_
        walk_at "go"
        refine g_ixT ht2 rfl ?_
        walk_at "go"
        refine g_ixT ht2 rfl ?_
        walk_at "go"
        refine ⟨_, _, rfl, ?_⟩
        walk_at "go"
        refine ifN (by decide +kernel) ?_
        walk_at "go"
        refine ifY rfl ?_
        walk_at "go"
        obtain ⟨r, hr⟩ : ∃ r, f d = some r := by
          cases h : f d with
          | some r => exact ⟨r, rfl⟩
          | none => exact absurd h ga
        have fd0 : f d ≠ none := fun z => by rw [hr] at z; cases z
        have q := p.at_ d r hr
        have lr := p.lr d r hr
        refine g_dgetI p.eP q.vP ?_
        walk_at "go"
        refine g_ixT ht2 rfl ?_
        walk_at "go"
        refine g_ixT ht2 rfl ?_
        walk_at "go"
        refine g_newT (sz (by simp)) fun T2 G1 T20 s1 hT2 => ?_
        have p1 := p.same s1
        have q1 := p1.at_ d r hr
        refine g_putT (k := Sk.kP (lo, hi)) q1.eb hT2 (by unfold spK; rw [List.length_map]; exact slz lr.2.1) fun G2 B2 k2 => ?_
        walk_at "go"
        rw [sp_put] at B2
        have nb : ∀ {x o}, G1 x = some o → (∀ k, o ≠ .dT k) → x ≠ (ad d).b := fun h hk => ne_of h q1.eb (hk _)
        have c1 := fun x o (e : G1 x = some o) (hk : ∀ k, o ≠ .dT k) => k2.fr x o (nb e hk) e
        refine ⟨⟨_, _, _, _, rfl⟩, kS, kA, kP, kW, setA ad d (ad d), qs, ?_⟩
        show PI _ _ _ _ _ _ _ _ _ _ (setF f d ((rcOf (f d)).go _)) _ _
        rw [rc_some hr]
        exact p1.upd d _ (ad d) (c1 _ _ p1.eS (fun _ z => nomatch z)) (c1 _ _ p1.eA (fun _ z => nomatch z)) (c1 _ _ p1.eP (fun _ z => nomatch z)) (c1 _ _ p1.eW (fun _ z => nomatch z)) p1.more.lk ⟨q1.vS, q1.vA, q1.vP, q1.vW, c1 _ _ q1.ea (fun _ z => nomatch z), B2, c1 _ _ q1.ec (fun _ z => nomatch z)⟩ (fun x _ => ⟨rfl, rfl, rfl, rfl⟩)
          (.inr ⟨fd0, rfl⟩) (.inr ⟨fd0, rfl⟩) (.inr ⟨fd0, rfl⟩) (fun x o _ h e => k2.fr _ _ (h fd0).2.1 e) ⟨Nat.le_succ_of_le lr.1, Nat.le_trans (len_addS _ _) (Nat.succ_le_succ lr.2.1), Nat.le_succ_of_le lr.2.2⟩
      | read d k v =>
        have ht2 : H' t = some (.tup [.str "read", .int d, .str k, wV v]) := ht1
        walk_at "go"
        refine g_parI ?_
        walk_at "go"
        refine g_ixT ht2 rfl ?_
        walk_at "go"
        refine g_ixT ht2 rfl ?_
        walk_at "go"
        refine ⟨_, _, rfl, ?_⟩
        walk_at "go"
        refine ifN (by decide +kernel) ?_
        walk_at "go"
        refine ifN (by decide +kernel) ?_
        walk_at "go"
        refine g_newT (sz (by simp)) fun TW HW TW0 sw hTW => ?_
        have p1 := p.same sw
        have ht3 := sw _ _ ht2
        refine ⟨TW, _, rfl, .inr (SqT.of hTW), rfl, rfl, ?_⟩
        walk_at "go"
        refine ifBY (by decide +kernel) ?_
        walk_at "go"
        obtain ⟨r, hr⟩ : ∃ r, f d = some r := by
          cases h : f d with
          | some r => exact ⟨r, rfl⟩
          | none => exact absurd h ga
        have fd0 : f d ≠ none := fun z => by rw [hr] at z; cases z
        have q1 := p1.at_ d r hr
        have lr := p.lr d r hr
        refine g_dgetI p1.eA q1.vA ?_
        walk_at "go"
        refine g_ixT ht3 rfl ?_
        refine g_putS q1.ea (by unfold askK; rw [List.length_map]; exact slz lr.1) fun G2 A2 k2 => ?_
        rw [ask_put] at A2
        have na : ∀ {x o}, HW x = some o → x ≠ (ad d).a → G2 x = some o := fun h hk => k2.fr _ _ hk h
        have nT : ∀ {x}, x ∈ (⟨S, A, P', W⟩ : Tb).l → x ≠ (ad d).a := fun hx z => p1.sepA d r hr (z ▸ hx)
        have ht4 : G2 t = some (.tup _) := na ht3 (ne_of ht3 q1.ea fun z => nomatch z)
        walk_at "go"
        refine ifBN (by decide +kernel) ?_
        walk_at "go"
        refine ⟨⟨_, _, _, _, rfl⟩, kS, kA, kP, kW, setA ad d (ad d), qs, ?_⟩
        show PI _ _ _ _ _ _ _ _ _ _ (setF f d ((rcOf (f d)).go _)) _ _
        rw [rc_some hr]
        exact p1.upd d _ (ad d) (na p1.eS (nT (by simp [Tb.l]))) (na p1.eA (nT (by simp [Tb.l]))) (na p1.eP (nT (by simp [Tb.l]))) (na p1.eW (nT (by simp [Tb.l]))) p1.more.lk ⟨q1.vS, q1.vA, q1.vP, q1.vW, A2, na q1.eb (ne_of q1.eb q1.ea fun z => nomatch z), na q1.ec (ne_of q1.ec q1.ea fun z => nomatch z)⟩ (fun x _ => ⟨rfl, rfl, rfl, rfl⟩)
          (.inr ⟨fd0, rfl⟩) (.inr ⟨fd0, rfl⟩) (.inr ⟨fd0, rfl⟩) (fun x o _ h e => k2.fr _ _ (h fd0).1 e) ⟨Nat.le_trans (len_addS _ _) (Nat.succ_le_succ lr.1), Nat.le_succ_of_le lr.2.1, Nat.le_succ_of_le lr.2.2⟩
      | put d k v =>
        have ht2 : H' t = some (.tup [.str "put", .int d, .str k, .int v]) := ht1
        walk_at "go"
        refine g_parI ?_
        walk_at "go"
        refine g_ixT ht2 rfl ?_
        walk_at "go"
        refine g_ixT ht2 rfl ?_
        walk_at "go"
        refine ⟨_, _, rfl, ?_⟩
        walk_at "go"
        refine ifN (by decide +kernel) ?_
        walk_at "go"
        refine ifN (by decide +kernel) ?_
        walk_at "go"
        refine g_newT (sz (by simp)) fun TW HW TW0 sw hTW => ?_
        have p1 := p.same sw
        have ht3 := sw _ _ ht2
        refine ⟨TW, _, rfl, .inr (SqT.of hTW), rfl, rfl, ?_⟩
        walk_at "go"
        refine ifBY (by decide +kernel) ?_
        walk_at "go"
        obtain ⟨r, hr⟩ : ∃ r, f d = some r := by
          cases h : f d with
          | some r => exact ⟨r, rfl⟩
          | none => exact absurd h ga
        have fd0 : f d ≠ none := fun z => by rw [hr] at z; cases z
        have q1 := p1.at_ d r hr
        have lr := p.lr d r hr
        refine g_dgetI p1.eA q1.vA ?_
        walk_at "go"
        refine g_ixT ht3 rfl ?_
        refine g_putS q1.ea (by unfold askK; rw [List.length_map]; exact slz lr.1) fun G2 A2 k2 => ?_
        rw [ask_put] at A2
        have na : ∀ {x o}, HW x = some o → x ≠ (ad d).a → G2 x = some o := fun h hk => k2.fr _ _ hk h
        have nT : ∀ {x}, x ∈ (⟨S, A, P', W⟩ : Tb).l → x ≠ (ad d).a := fun hx z => p1.sepA d r hr (z ▸ hx)
        have ht4 : G2 t = some (.tup _) := na ht3 (ne_of ht3 q1.ea fun z => nomatch z)
        walk_at "go"
        refine ifBY (by decide +kernel) ?_
        have eW2 := na p1.eW (nT (by simp [Tb.l]))
        have ec2 := na q1.ec (ne_of q1.ec q1.ea fun z => nomatch z)
        walk_at "go"
        refine g_dgetI eW2 q1.vW ?_
        walk_at "go"
        refine g_ixT ht4 rfl ?_
        walk_at "go"
        refine g_app1 ec2 (by rw [List.length_map]; exact slz lr.2.2) fun G3 C3 k3 => ?_
        walk_at "go"
        have nc : ∀ {x o}, G2 x = some o → x ≠ (ad d).c → G3 x = some o := fun h hk => k3.fr _ _ hk h
        have nT2 : ∀ {x kk}, HW x = some (.dK kk) → x ≠ (ad d).c := fun hx => ne_of hx q1.ec fun z => nomatch z
        refine ⟨⟨_, _, _, _, rfl⟩, kS, kA, kP, kW, setA ad d (ad d), qs, ?_⟩
        show PI _ _ _ _ _ _ _ _ _ _ (setF f d ((rcOf (f d)).go _)) _ _
        rw [rc_some hr]
        refine p1.upd d _ (ad d) (nc (na p1.eS (nT (by simp [Tb.l]))) (nT2 p1.eS)) (nc (na p1.eA (nT (by simp [Tb.l]))) (nT2 p1.eA)) (nc (na p1.eP (nT (by simp [Tb.l]))) (nT2 p1.eP)) (nc (na p1.eW (nT (by simp [Tb.l]))) (nT2 p1.eW)) p1.more.lk ⟨q1.vS, q1.vA, q1.vP, q1.vW, nc A2 (nT2 q1.ea), nc (na q1.eb (ne_of q1.eb q1.ea fun z => nomatch z)) (ne_of q1.eb q1.ec fun z => nomatch z), ?_⟩ (fun x _ => ⟨rfl, rfl, rfl, rfl⟩)
          (.inr ⟨fd0, rfl⟩) (.inr ⟨fd0, rfl⟩) (.inr ⟨fd0, rfl⟩) (fun x o _ h e => k3.fr _ _ (h fd0).2.2 (k2.fr _ _ (h fd0).1 e)) ⟨Nat.le_trans (len_addS _ _) (Nat.succ_le_succ lr.1), Nat.le_succ_of_le lr.2.1, ?_⟩
        · rw [C3]
          show some (HO.lst _) = some (HO.lst ((r.wr ++ [k]).map V.str))
          rw [List.map_append]
          rfl
        · show (r.wr ++ [k]).length ≤ _
          rw [List.length_append, List.length_singleton]
          exact Nat.succ_le_succ lr.2.2
      | drop d k =>
        have ht2 : H' t = some (.tup [.str "drop", .int d, .str k]) := ht1
        walk_at "go"
        refine g_parI ?_
        walk_at "go"
        refine g_ixT ht2 rfl ?_
        walk_at "go"
        refine g_ixT ht2 rfl ?_
        walk_at "go"
        refine ⟨_, _, rfl, ?_⟩
        walk_at "go"
        refine ifN (by decide +kernel) ?_
        walk_at "go"
        refine ifN (by decide +kernel) ?_
        walk_at "go"
        refine g_newT (sz (by simp)) fun TW HW TW0 sw hTW => ?_
        have p1 := p.same sw
        have ht3 := sw _ _ ht2
        refine ⟨TW, _, rfl, .inr (SqT.of hTW), rfl, rfl, ?_⟩
        walk_at "go"
        refine ifBY (by decide +kernel) ?_
        walk_at "go"
        obtain ⟨r, hr⟩ : ∃ r, f d = some r := by
          cases h : f d with
          | some r => exact ⟨r, rfl⟩
          | none => exact absurd h ga
        have fd0 : f d ≠ none := fun z => by rw [hr] at z; cases z
        have q1 := p1.at_ d r hr
        have lr := p.lr d r hr
        refine g_dgetI p1.eA q1.vA ?_
        walk_at "go"
        refine g_ixT ht3 rfl ?_
        refine g_putS q1.ea (by unfold askK; rw [List.length_map]; exact slz lr.1) fun G2 A2 k2 => ?_
        rw [ask_put] at A2
        have na : ∀ {x o}, HW x = some o → x ≠ (ad d).a → G2 x = some o := fun h hk => k2.fr _ _ hk h
        have nT : ∀ {x}, x ∈ (⟨S, A, P', W⟩ : Tb).l → x ≠ (ad d).a := fun hx z => p1.sepA d r hr (z ▸ hx)
        have ht4 : G2 t = some (.tup _) := na ht3 (ne_of ht3 q1.ea fun z => nomatch z)
        walk_at "go"
        refine ifBY (by decide +kernel) ?_
        have eW2 := na p1.eW (nT (by simp [Tb.l]))
        have ec2 := na q1.ec (ne_of q1.ec q1.ea fun z => nomatch z)
        walk_at "go"
        refine g_dgetI eW2 q1.vW ?_
        walk_at "go"
        refine g_ixT ht4 rfl ?_
        walk_at "go"
        refine g_app1 ec2 (by rw [List.length_map]; exact slz lr.2.2) fun G3 C3 k3 => ?_
        walk_at "go"
        have nc : ∀ {x o}, G2 x = some o → x ≠ (ad d).c → G3 x = some o := fun h hk => k3.fr _ _ hk h
        have nT2 : ∀ {x kk}, HW x = some (.dK kk) → x ≠ (ad d).c := fun hx => ne_of hx q1.ec fun z => nomatch z
        refine ⟨⟨_, _, _, _, rfl⟩, kS, kA, kP, kW, setA ad d (ad d), qs, ?_⟩
        show PI _ _ _ _ _ _ _ _ _ _ (setF f d ((rcOf (f d)).go _)) _ _
        rw [rc_some hr]
        refine p1.upd d _ (ad d) (nc (na p1.eS (nT (by simp [Tb.l]))) (nT2 p1.eS)) (nc (na p1.eA (nT (by simp [Tb.l]))) (nT2 p1.eA)) (nc (na p1.eP (nT (by simp [Tb.l]))) (nT2 p1.eP)) (nc (na p1.eW (nT (by simp [Tb.l]))) (nT2 p1.eW)) p1.more.lk ⟨q1.vS, q1.vA, q1.vP, q1.vW, nc A2 (nT2 q1.ea), nc (na q1.eb (ne_of q1.eb q1.ea fun z => nomatch z)) (ne_of q1.eb q1.ec fun z => nomatch z), ?_⟩ (fun x _ => ⟨rfl, rfl, rfl, rfl⟩)
          (.inr ⟨fd0, rfl⟩) (.inr ⟨fd0, rfl⟩) (.inr ⟨fd0, rfl⟩) (fun x o _ h e => k3.fr _ _ (h fd0).2.2 (k2.fr _ _ (h fd0).1 e)) ⟨Nat.le_trans (len_addS _ _) (Nat.succ_le_succ lr.1), Nat.le_succ_of_le lr.2.1, ?_⟩
        · rw [C3]
          show some (HO.lst _) = some (HO.lst ((r.wr ++ [k]).map V.str))
          rw [List.map_append]
          rfl
        · show (r.wr ++ [k]).length ≤ _
          rw [List.length_append, List.length_singleton]
          exact Nat.succ_le_succ lr.2.2
      | back d n =>
        have ht2 : H' t = some (.tup [.str "back", .int d, .int n]) := ht1
        walk_at "go"
        refine g_parI ?_
        walk_at "go"
        refine g_ixT ht2 rfl ?_
        walk_at "go"
        refine g_ixT ht2 rfl ?_
        walk_at "go"
        refine ⟨_, _, rfl, ?_⟩
        walk_at "go"
        refine ifN (by decide +kernel) ?_
        walk_at "go"
        refine ifN (by decide +kernel) ?_
        walk_at "go"
        refine g_newT (sz (by simp)) fun TW HW TW0 sw hTW => ?_
        have p1 := p.same sw
        have ht3 := sw _ _ ht2
        refine ⟨TW, _, rfl, .inr (SqT.of hTW), rfl, rfl, ?_⟩
        walk_at "go"
        refine ifBN (by decide +kernel) ?_
        walk_at "go"
        refine ifY rfl ?_
        walk_at "go"
        obtain ⟨r, hr⟩ : ∃ r, f d = some r := by
          cases h : f d with
          | some r => exact ⟨r, rfl⟩
          | none => exact absurd h ga.2
        have fd0 : f d ≠ none := fun z => by rw [hr] at z; cases z
        have q1 := p1.at_ d r hr
        have lr := p.lr d r hr
        refine g_dgetI p1.eW q1.vW ?_
        walk_at "go"
        refine g_ixT ht3 rfl ?_
        walk_at "go"
        have en : n = ((n.toNat : Nat) : Int) := by have := ga.1; omega
        rw [en]
        refine g_slTo1 q1.ec fun c G2 c0 s2 hc => ?_
        have p2 := p1.same s2
        have q2 := p2.at_ d r hr
        walk_at "go"
        refine g_putI p2.eW (slz p2.lk.2.2.2) fun G3 W3 k3 => ?_
        walk_at "go"
        obtain ⟨⟨nSA, nSP, nSW⟩, ⟨nAP, nAW⟩, nPW⟩ : (S ≠ A ∧ S ≠ P' ∧ S ≠ W) ∧ (A ≠ P' ∧ A ≠ W) ∧ P' ≠ W := by
          have := p.top
          simpa [Tb.l] using this
        have kx : ∀ x, x ≠ d → (Sum.inl x : Key) ≠ Sum.inl d := fun x hx z => hx (Sum.inl.inj z)
        have cW : c ≠ W := fun z => by rw [z, p1.eW] at c0; cases c0
        refine ⟨⟨_, _, _, _, rfl⟩, kS, kA, kP, putK kW (Sum.inl d) (.ref c), setA ad d ⟨(ad d).a, (ad d).b, c⟩, qs, ?_⟩
        show PI _ _ _ _ _ _ _ _ _ _ (setF f d ((rcOf (f d)).go _)) _ _
        rw [rc_some hr]
        have step : PI H G3 ⟨S, A, P', W⟩ F (i + 1) kS kA kP (putK kW (Sum.inl d) (.ref c)) (setA ad d ⟨(ad d).a, (ad d).b, c⟩) (setF f d (r.go (.back d (n.toNat : Int)))) qs rows := p1.upd d _ ⟨(ad d).a, (ad d).b, c⟩ (k3.fr _ _ nSW p2.eS) (k3.fr _ _ nAW p2.eA) (k3.fr _ _ nPW p2.eP) W3 ⟨p1.more.lk.1, p1.more.lk.2.1, p1.more.lk.2.2.1, Nat.le_trans (len_putK _ _ _) (Nat.succ_le_succ p2.lk.2.2.2)⟩
          ⟨q1.vS, q1.vA, q1.vP, by rw [valV_put, if_pos rfl], k3.fr _ _ (fun z => p1.sepA d r hr (z ▸ by simp [Tb.l])) q2.ea, k3.fr _ _ (ne_of q2.eb p2.eW fun z => nomatch z) q2.eb, (k3.fr _ _ cW hc).trans (by rw [← List.map_take]; rfl)⟩
          (fun x hx => ⟨rfl, rfl, rfl, by rw [valV_put, if_neg (kx x hx)]⟩) (.inr ⟨fd0, rfl⟩) (.inr ⟨fd0, rfl⟩) (.inl c0)
          (fun x o hx h e => k3.fr _ _ (fun z => hx (by rw [z]; simp [Tb.l])) (s2 _ _ e)) ⟨Nat.le_succ_of_le lr.1, Nat.le_succ_of_le lr.2.1, Nat.le_trans (by show (r.wr.take _).length ≤ _; rw [List.length_take]; exact Nat.min_le_right _ _) (Nat.le_succ_of_le lr.2.2)⟩
        exact step
      | keep d n =>
        have ht2 : H' t = some (.tup [.str "keep", .int d, .int n]) := ht1
        walk_at "go"
        refine g_parI ?_
        walk_at "go"
        refine g_ixT ht2 rfl ?_
        walk_at "go"
        refine g_ixT ht2 rfl ?_
        walk_at "go"
        refine ⟨_, _, rfl, ?_⟩
        walk_at "go"
        refine ifN (by decide +kernel) ?_
        walk_at "go"
        refine ifN (by decide +kernel) ?_
        walk_at "go"
        refine g_newT (sz (by simp)) fun TW HW TW0 sw hTW => ?_
        have p1 := p.same sw
        have ht3 := sw _ _ ht2
        refine ⟨TW, _, rfl, .inr (SqT.of hTW), rfl, rfl, ?_⟩
        walk_at "go"
        refine ifBN (by decide +kernel) ?_
        walk_at "go"
        refine ifN (by decide +kernel) ?_
        walk_at "go"
        refine ifY rfl ?_
        walk_at "go"
        obtain ⟨r, hr⟩ : ∃ r, f d = some r := by
          cases h : f d with
          | some r => exact ⟨r, rfl⟩
          | none => exact absurd h ga
        have fd0 : f d ≠ none := fun z => by rw [hr] at z; cases z
        have q1 := p1.at_ d r hr
        have lr := p.lr d r hr
        refine g_dgetI p1.eW q1.vW ?_
        walk_at "go"
        refine g_setX (SqL.of q1.ec) (by omega) fun X G2 X0 s2 hX => ?_
        walk_at "go"
        refine g_sortX hX (nd_setL _) (by have := len_setL r.wr; omega) fun C G3 C0 s3 hC => ?_
        have p3 := p1.same (s2.trans s3)
        have eF3 := p3.eF
        walk_at "go"
        have q3 := p3.at_ d r hr
        have ht4 := s3 _ _ (s2 _ _ ht3)
        refine g_dgetI p3.eS q3.vS ?_
        walk_at "go"
        refine g_ixT ht4 rfl ?_
        walk_at "go"
        refine g_dgetI p3.eA q3.vA ?_
        walk_at "go"
        refine g_sortDS q3.ea (ask_keys _) (by omega) fun A1 G4 A10 s4 hA1 => ?_
        have p4 := p3.same s4
        have q4 := p4.at_ d r hr
        walk_at "go"
        refine g_dgetI p4.eP q4.vP ?_
        walk_at "go"
        refine g_sortSp q4.eb (spK_keys _) (by omega) fun B1 G5 ys B10 s5 hB1 pys => ?_
        have p5 := p4.same s5
        walk_at "go"
        refine g_newT (sz (by simp)) fun T1 G6 T10 s6 hT1 => ?_
        have p6 := p5.same s6
        walk_at "go"
        refine g_app1 p6.eF (by rw [List.length_map]; exact slz p6.lq) fun G7 F7 k7 => ?_
        walk_at "go"
        have fl : ∀ {x : Addr}, G2 x = none → HW x = none := fun h => s2.free h
        have hC6 := s6 _ _ (s5 _ _ (s4 _ _ hC))
        have hA6 := s6 _ _ (s5 _ _ hA1)
        have hB6 := s6 _ _ hB1
        have C1 : HW C = none := s2.free C0
        have A1' : HW A1 = none := s2.free (s3.free A10)
        have B1' : HW B1 = none := s2.free (s3.free (s4.free B10))
        have T1' : HW T1 = none := s2.free (s3.free (s4.free (s5.free T10)))
        have nF : ∀ {x : Addr}, HW x = none → x ≠ F := fun h z => by rw [z, p1.eF] at h; cases h
        refine ⟨⟨_, _, _, _, rfl⟩, kS, kA, kP, kW, ad, qs ++ [⟨T1, A1, B1, C⟩], ?_⟩
        show PI _ _ _ _ _ _ _ _ _ _ f _ (rows ++ [rowM d n (rcOf (f d))])
        rw [hr]
        refine p1.keep (q := ⟨T1, A1, B1, C⟩) (by rw [F7, List.map_append]; rfl) (fun x o hx e => k7.fr _ _ hx (s6 _ _ (s5 _ _ (s4 _ _ (s3 _ _ (s2 _ _ e)))))) ⟨k7.fr _ _ (nF T1') hT1, k7.fr _ _ (nF A1') hA6, ⟨ys, k7.fr _ _ (nF B1') hB6, Paired.imp (fun _ _ z => by
          obtain ⟨b, e, hb⟩ := z
          exact ⟨b, e, k7.fr _ _ (ne_of (s6 _ _ hb) p6.eF fun z => nomatch z) (s6 _ _ hb)⟩) pys⟩, k7.fr _ _ (nF C1) hC6⟩ (fun x hx => ?_) ?_
        · simp only [Quad.ls, List.mem_cons, List.not_mem_nil, or_false] at hx
          rcases hx with rfl | rfl | rfl
          · exact A1'
          · exact B1'
          · exact C1
        · have e1 : A1 ≠ B1 := ne_of_none hA1 B10
          have e2 : C ≠ A1 := ne_of_none hC A10
          have e3 : C ≠ B1 := ne_of_none (s4 _ _ hC) B10
          simp [Quad.ls, e1, Ne.symm e2, Ne.symm e3]
      | mark d n =>
        have ht2 : H' t = some (.tup [.str "mark", .int d, .int n]) := ht1
        walk_at "go"
        refine g_parI ?_
        walk_at "go"
        refine g_ixT ht2 rfl ?_
        walk_at "go"
        refine g_ixT ht2 rfl ?_
        walk_at "go"
        refine ⟨_, _, rfl, ?_⟩
        walk_at "go"
        refine ifN (by decide +kernel) ?_
        walk_at "go"
        refine ifN (by decide +kernel) ?_
        walk_at "go"
        refine g_newT (sz (by simp)) fun TW HW TW0 sw hTW => ?_
        have p1 := p.same sw
        have ht3 := sw _ _ ht2
        refine ⟨TW, _, rfl, .inr (SqT.of hTW), rfl, rfl, ?_⟩
        walk_at "go"
        refine ifBN (by decide +kernel) ?_
        walk_at "go"
        refine ifN (by decide +kernel) ?_
        walk_at "go"
        refine ifN (by decide +kernel) ?_
        walk_at "go"
        exact ⟨⟨_, _, _, _, rfl⟩, kS, kA, kP, kW, ad, qs, p1.more⟩
      | undo d =>
        have ht2 : H' t = some (.tup [.str "undo", .int d]) := ht1
        walk_at "go"
        refine g_parI ?_
        walk_at "go"
        refine g_ixT ht2 rfl ?_
        walk_at "go"
        refine g_ixT ht2 rfl ?_
        walk_at "go"
        refine ⟨_, _, rfl, ?_⟩
        walk_at "go"
        refine ifN (by decide +kernel) ?_
        walk_at "go"
        refine ifN (by decide +kernel) ?_
        walk_at "go"
        refine g_newT (sz (by simp)) fun TW HW TW0 sw hTW => ?_
        have p1 := p.same sw
        have ht3 := sw _ _ ht2
        refine ⟨TW, _, rfl, .inr (SqT.of hTW), rfl, rfl, ?_⟩
        walk_at "go"
        refine ifBN (by decide +kernel) ?_
        walk_at "go"
        refine ifN (by decide +kernel) ?_
        walk_at "go"
        refine ifN (by decide +kernel) ?_
        walk_at "go"
        exact ⟨⟨_, _, _, _, rfl⟩, kS, kA, kP, kW, ad, qs, p1.more⟩
      | fall n => exact ga.elim
      | @raised n rs v hv => exact ga.elim

    · rintro σ' H' ⟨⟨x6, x7, x8, x9, rfl⟩, kS, kA, kP, kW, ad, qs, p⟩
      walk_at "go"
      rw [ul, List.take_length] at p
      exact q F qs H' p.s1 p.eF p.rw_ p.nd (p.n0 F List.mem_cons_self) p.n2 (Nat.le_trans p.lq (by omega))
end
end Hs

set_option maxHeartbeats 4000000
namespace Hs
open PySem PySem.Spec PyProof.Rows L2 Sk
section
variable {P : Program} {w : World} {K : PySem.W.Frag} {mg : Str → Option Value} {base : Heap} {CW CD : Addr}
theorem eqv_begin (d : Int) (e : Ev) : PyData.eqv (evD e) (.tuple [.str "begin", .int d]) = isB d e := by
  have ne : ∀ {a b : Str}, (decide (a = b)) = false → (a == b) = false := fun h => by
    rw [beq_eq_false_iff_ne]
    exact of_decide_eq_false h
  cases e with
  | begin x =>
    have e1 : isB d (.begin x) = decide (x = d) := rfl
    rw [e1]
    simp only [evD, restD, Ev.word, PyData.eqv, PyData.eqvAll]
    by_cases c : x = d
    · simp [c]
    · simp [c]
  | read x k w => simp [evD, restD, PyData.eqv, PyData.eqvAll, isB]
  | scan x lo hi rs => simp [evD, restD, PyData.eqv, PyData.eqvAll, isB]
  | put x k w => simp [evD, restD, PyData.eqv, PyData.eqvAll, isB]
  | drop x k => simp [evD, restD, PyData.eqv, PyData.eqvAll, isB]
  | mark x n => simp [evD, restD, PyData.eqv, PyData.eqvAll, isB]
  | back x n => simp [evD, restD, PyData.eqv, PyData.eqvAll, isB]
  | keep x n => simp [evD, restD, PyData.eqv, PyData.eqvAll, isB]
  | undo x =>
    have : (Ev.undo x).word ≠ "begin" := (show ("undo" : Str) ≠ "begin" by decide +kernel)
    simp [evD, restD, PyData.eqv, PyData.eqvAll, isB, this]
  | fall x =>
    have : (Ev.fall x).word ≠ "begin" := (show ("fall" : Str) ≠ "begin" by decide +kernel)
    simp [evD, restD, PyData.eqv, PyData.eqvAll, isB, this]
  | raised x rs => simp [evD, restD, PyData.eqv, PyData.eqvAll, isB]
theorem eqv_spD (p q : Sp2) : PyData.eqv (spD p) (spD q) = decide (p = q) := by
  obtain ⟨a, b⟩ := p
  obtain ⟨c, d⟩ := q
  simp only [spD, PyData.eqv, PyData.eqvAll]
  by_cases h1 : a = c
  · by_cases h2 : b = d
    · simp [h1, h2]
    · simp [h1, h2]
  · simp [h1]
def EvDt (e : Ev) : Prop := EvSt e ∧ RowsOk e ∧ EvGo e
theorem evD_shaped {e : Ev} (h : EvDt e) : SeqAt.shaped (evD e) = true := by
  obtain ⟨a, b⟩ := evD_lay h.1 h.2.1
  show (PyData.canLay0 (evD e) && decide (PyData.depth (evD e) ≤ 64)) = true
  rw [a, Bool.true_and, decide_eq_true_eq]
  omega
theorem evDp {K : PySem.W.Frag} {G : Hp} {v : V} {e : Ev} (h : EvAt G v e) : Dp K G v (evD e) := by
  obtain ⟨q, vs, rfl, ht, re⟩ := h
  exact .tup (SqT.of ht) (.cons (.str _) (restDp re))
theorem begin_shaped (d : Int) : SeqAt.shaped (.tuple [.str "begin", .int d]) = true := by
  have : PyData.strOk "begin" = true := by decide +kernel
  simp [SeqAt.shaped, PyData.canLay0, PyData.canLayAll0, PyData.depth, PyData.depthAll, this]
theorem u65 {k : Nat} {A : Around} (hr : Room k A) : A.units + 65 < cLine := by have := hr.un; omega
theorem rest_dl {G : Hp} {e : Ev} {vs : List V} (re : RestAt G e vs) : ∃ rest, vs = .int e.dl :: rest := by cases re <;> exact ⟨_, rfl⟩
theorem own_take {d : Int} {es : List Ev} {i : Nat} {e : Ev} (h : es[i]? = some e) : ownL d (es.take (i + 1)) = ownStep d (ownL d (es.take i)) e := by rw [take_snoc h, own_snoc]
theorem lcL_new2 {σ : L2.St} {H : Hp} {Q : VK} {g : TG} {tt : TT} {te : TE} {vs : List Nat} {a : Addr} {xs : List V} (hx : SqL K H a xs) (hz : xs.length < sizeLine) (R : Addr → Nat → List V → Hp → Prop) (h0 : ∀ D, H D = none → R D 0 [] (L2.upd H D (.lst []))) (hq : ∀ D i acc H', H D = none → R D i acc H' → SqL K H' a xs) (hl : ∀ D i acc H', i ≤ xs.length → R D i acc H' → acc.length ≤ i)
    (hs : ∀ D (i : Nat) x acc H', H D = none → xs[i]? = some x → R D i acc H' → H' D = some (.lst acc) → ∀ Rr : Option V → Hp → Prop, (∀ y H'', H'' D = some (.lst acc) → R D (i + 1) (acc ++ [y]) (L2.upd H'' D (.lst (acc ++ [y]))) → Rr (some y) H'') → (∀ H'', H'' D = some (.lst acc) → R D (i + 1) acc H'' → Rr none H'') → LcBody g tt te vs σ x H' Rr)
    (hd : ∀ D acc H', H D = none → R D xs.length acc H' → H' D = some (.lst acc) → Q (.ref D) H') : LcL K g tt te vs σ Q (.ref a) H := by
  refine ⟨a, rfl, ⟨xs, hx⟩, fun D hD => lc_list (fun i H' => i ≤ xs.length ∧ ∃ acc, R D i acc H' ∧ H' D = some (.lst acc)) ⟨Nat.zero_le _, [], h0 D hD, upd_same⟩ (fun i H' _ ⟨_, acc, r, _⟩ => hq D i acc H' hD r) ?_ (fun H' ⟨_, acc, r, e⟩ => hd D acc H' hD r e)⟩
  rintro i x H' hi ⟨_, acc, r, e1⟩
  have hlt : i < xs.length := (List.getElem?_eq_some_iff.mp hi).1
  have la := hl D i acc H' (by omega) r
  exact hs D i x acc H' hD hi r e1 (fun r' H4 => match r' with
    | some y => ∃ acc, H4 D = some (.lst acc) ∧ acc.length < sizeLine ∧ (i + 1 ≤ xs.length ∧ ∃ acc', R D (i + 1) acc' (L2.upd H4 D (.lst (acc ++ [y]))) ∧ L2.upd H4 D (.lst (acc ++ [y])) D = some (.lst acc'))
    | none => i + 1 ≤ xs.length ∧ ∃ acc', R D (i + 1) acc' H4 ∧ H4 D = some (.lst acc')) (fun y H'' e2 r2 => ⟨acc, e2, by omega, by omega, _, r2, upd_same⟩) (fun H'' e2 r2 => ⟨by omega, acc, r2, e2⟩)
theorem word_keep (e : Ev) : isK e = decide (V.str e.word = V.str "keep") := by
  have h : ∀ a b : Str, a ≠ b → false = decide (V.str a = V.str b) := fun a b h => (decide_eq_false (fun z => h (by injection z))).symm
  cases e with
  | keep d p => exact (decide_eq_true rfl).symm
  | _ => exact h _ _ (by simp only [Ev.word]; decide +kernel)
theorem filter_take {es : List Ev} {f i : Nat} {e : Ev} (h : (es.take f)[i]? = some e) : (((es.take f).take (i + 1)).filter isK).length = (((es.take f).take i).filter isK).length + (if isK e then 1 else 0) := by
  rw [take_snoc h, List.filter_append, List.length_append]
  congr 1
  cases hk : isK e <;> simp [hk]
theorem SpAt.frame {H H' : Hp} (k : ∀ x xs, H x = some (.tup xs) → H' x = some (.tup xs)) {ys : List V} {ps : List Sp2} (p : Paired (SpAt H) ys ps) : Paired (SpAt H') ys ps := Paired.imp (fun _ _ z => by obtain ⟨b, e, hb⟩ := z; exact ⟨b, e, k _ _ hb⟩) p
/-- the three lists of the law's count -/
structure LI (H H' : Hp) (R S W : Addr) (r : Rc) : Prop where
  s : Same H H'
  n : H R = none ∧ H S = none ∧ H W = none
  d : R ≠ S ∧ R ≠ W ∧ S ≠ W
  eR : H' R = some (.lst (r.ask.map V.str))
  eS : ∃ ys, H' S = some (.lst ys) ∧ Paired (SpAt H') ys r.sp
  eW : H' W = some (.lst (r.wr.map V.str))
theorem LI.same {H H' H'' : Hp} {R S W : Addr} {r : Rc} (h : LI H H' R S W r) (s : Same H' H'') : LI H H'' R S W r := by
  obtain ⟨ys, e, p⟩ := h.eS
  exact ⟨h.s.trans s, h.n, h.d, s _ _ h.eR, ⟨ys, s _ _ e, SpAt.frame (fun x xs z => s _ _ z) p⟩, s _ _ h.eW⟩
theorem g_slA {a : Addr} {xs ys : List V} {lo hi : Option Int} {H : Hp} {Q : VK} (h : H a = some (.tup xs)) (nf : ¬ (HT.sIx xs.length 0 lo = 0 ∧ HT.sIx xs.length xs.length hi = xs.length)) (e : cutV xs lo hi = ys) (q : ∀ p H1, H p = none → Same H H1 → H1 p = some (.tup ys) → Q (.ref p) H1) : rSlA K (.ref a) lo hi H Q :=
  ⟨a, xs, rfl, SqT.of h, fun z => (nf z).elim, fun _ p hp => by rw [e]; exact q p _ hp (same_new hp) upd_same⟩
theorem sp_dp {K : PySem.W.Frag} {H : Hp} : ∀ {ys : List V} {ps : List Sp2}, Paired (SpAt H) ys ps → DpAll K H ys (ps.map spD)
  | _, _, .nil => .nil
  | _, _, .cons h t => by
    obtain ⟨b, rfl, hb⟩ := h
    exact .cons (.tup (SqT.of hb) (.cons (.str _) (.cons (.str _) .nil))) (sp_dp t)
theorem sp_lay {p : Sp2} (h : PyData.strOk p.1 = true ∧ PyData.strOk p.2 = true) : PyData.canLay0 (spD p) = true ∧ PyData.depth (spD p) ≤ 1 := by
  constructor
  · simp [spD, PyData.canLay0, PyData.canLayAll0, h.1, h.2]
  · simp [spD, PyData.depth, PyData.depthAll]
theorem sps_lay : ∀ ps : List Sp2, (∀ p ∈ ps, PyData.strOk p.1 = true ∧ PyData.strOk p.2 = true) → PyData.canLayAll0 (ps.map spD) = true ∧ PyData.depthAll (ps.map spD) ≤ 1
  | [], _ => ⟨rfl, Nat.zero_le _⟩
  | p :: ps, h => by
    obtain ⟨a1, a2⟩ := sp_lay (h p List.mem_cons_self)
    obtain ⟨b1, b2⟩ := sps_lay ps fun x hx => h x (List.mem_cons_of_mem _ hx)
    constructor
    · show (PyData.canLay0 (spD p) && PyData.canLayAll0 (ps.map spD)) = true
      rw [a1, b1]; rfl
    · show max (PyData.depth (spD p)) (PyData.depthAll (ps.map spD)) ≤ 1
      omega
theorem sp_shaped {p : Sp2} (h : PyData.strOk p.1 = true ∧ PyData.strOk p.2 = true) : SeqAt.shaped (spD p) = true := by
  obtain ⟨a, b⟩ := sp_lay h
  show (PyData.canLay0 (spD p) && decide (PyData.depth (spD p) ≤ 64)) = true
  rw [a, Bool.true_and, decide_eq_true_eq]
  omega
theorem sps_shaped {ps : List Sp2} (h : ∀ p ∈ ps, PyData.strOk p.1 = true ∧ PyData.strOk p.2 = true) : SeqAt.shaped (.list (ps.map spD)) = true := by
  obtain ⟨a, b⟩ := sps_lay ps h
  show (PyData.canLayAll0 (ps.map spD) && decide (PyData.depthAll (ps.map spD) + 1 ≤ 64)) = true
  rw [a, Bool.true_and, decide_eq_true_eq]
  omega
theorem any_spD (p : Sp2) (ps : List Sp2) : ((ps.map spD).any fun z => PyData.eqv z (spD p)) = decide (p ∈ ps) := by
  rw [List.any_map, Bool.eq_iff_iff, List.any_eq_true, decide_eq_true_eq]
  constructor
  · rintro ⟨x, hx, e⟩
    have e' : PyData.eqv (spD x) (spD p) = true := e
    rw [eqv_spD, decide_eq_true_eq] at e'
    exact e' ▸ hx
  · exact fun h => ⟨p, h, by show PyData.eqv (spD p) (spD p) = true; rw [eqv_spD, decide_eq_true_eq]⟩
theorem g_sortSs {a : Addr} {ts : List Str} {H : Hp} {Q : VK} (h : SqL K H a (ts.map V.str)) (z : ts.length ≤ 1000) (q : ∀ p H1, H p = none → Same H H1 → H1 p = some (.lst ((ts.mergeSort strLe).map V.str)) → Q (.ref p) H1) : rSortSs K [.ref a] H Q := ⟨a, ts, rfl, h, z, fun p hp => q p _ hp (same_new hp) upd_same⟩
theorem g_sortSl {a : Addr} {xs : List V} {ps : List Sp2} {H : Hp} {Q : VK} (h : SqL K H a xs) (pr : Paired (SpAt H) xs ps) (z : ps.length ≤ 1000) (q : ∀ p H1 ys, H p = none → Same H H1 → H1 p = some (.lst ys) → Paired (SpAt H1) ys (ps.mergeSort spLe) → Q (.ref p) H1) : rSortSl K [.ref a] H Q :=
  ⟨a, xs, ps, rfl, h, pr, z, fun p ys hp pr => q p _ ys hp (same_new hp) upd_same (SpAt.frame (fun x xs z => same_new hp _ _ z) pr)⟩
structure RcB (r : Rc) (i : Nat) : Prop where
  la : r.ask.length ≤ i
  ls : r.sp.length ≤ i
  lw : r.wr.length ≤ i
  ok : ∀ p ∈ r.sp, PyData.strOk p.1 = true ∧ PyData.strOk p.2 = true
theorem RcB.go {r : Rc} {i : Nat} (b : RcB r i) {e : Ev} (h : EvDt e) : RcB (r.go e) (i + 1) := by
  have la := b.la
  have ls := b.ls
  have lw := b.lw
  have ask : ∀ k, (addS r.ask k).length ≤ i + 1 := fun k => Nat.le_trans (len_addS _ _) (Nat.succ_le_succ la)
  have wr : ∀ k : Str, (r.wr ++ [k]).length ≤ i + 1 := fun k => by rw [List.length_append, List.length_singleton]; omega
  cases e with
  | read d k w => exact ⟨ask k, Nat.le_succ_of_le ls, Nat.le_succ_of_le lw, b.ok⟩
  | put d k w => exact ⟨ask k, Nat.le_succ_of_le ls, wr k, b.ok⟩
  | drop d k => exact ⟨ask k, Nat.le_succ_of_le ls, wr k, b.ok⟩
  | scan d lo hi rs =>
    refine ⟨Nat.le_succ_of_le la, Nat.le_trans (len_addS _ _) (Nat.succ_le_succ ls), Nat.le_succ_of_le lw, fun p hp => ?_⟩
    have hp : p ∈ addS r.sp (lo, hi) := hp
    unfold addS at hp
    split at hp
    · exact b.ok p hp
    · rcases List.mem_append.mp hp with z | z
      · exact b.ok p z
      · rw [List.mem_singleton.mp z]
        exact h.1
  | back d n => exact ⟨Nat.le_succ_of_le la, Nat.le_succ_of_le ls, Nat.le_trans (by show (r.wr.take _).length ≤ _; rw [List.length_take]; exact Nat.min_le_right _ _) (Nat.le_succ_of_le lw), b.ok⟩
  | _ => exact ⟨Nat.le_succ_of_le la, Nat.le_succ_of_le ls, Nat.le_succ_of_le lw, b.ok⟩
theorem take_paired {α β : Type} {R : α → β → Prop} : ∀ {xs : List α} {ys : List β}, Paired R xs ys → ∀ k, Paired R (xs.take k) (ys.take k)
  | _, _, .nil, k => by rw [List.take_nil, List.take_nil]; exact .nil
  | _, _, .cons h t, 0 => .nil
  | _, _, .cons h t, k + 1 => .cons h (take_paired t k)
theorem rows_frame {H H' : Hp} : ∀ {qs : List Quad} {rows : List Row}, Paired (RowQ H) qs rows → (∀ x xs, H x = some (.tup xs) → H' x = some (.tup xs)) → (∀ x ∈ qs.flatMap Quad.ls, ∀ xs, H x = some (.lst xs) → H' x = some (.lst xs)) → Paired (RowQ H') qs rows
  | _, _, .nil, _, _ => .nil
  | q :: qs, r :: rows, .cons h t, kt, kl => by
    have kq : ∀ x ∈ q.ls, ∀ xs, H x = some (.lst xs) → H' x = some (.lst xs) := fun x hx xs e => kl x (List.mem_flatMap.mpr ⟨q, List.mem_cons_self, hx⟩) xs e
    obtain ⟨ys, e, p⟩ := h.eb
    exact .cons ⟨kt _ _ h.et, kq _ (by simp [Quad.ls]) _ h.ea, ⟨ys, kq _ (by simp [Quad.ls]) _ e, SpAt.frame kt p⟩, kq _ (by simp [Quad.ls]) _ h.ec⟩
      (rows_frame t kt fun x hx xs e => by
        obtain ⟨q', hq, hx⟩ := List.mem_flatMap.mp hx
        exact kl x (List.mem_flatMap.mpr ⟨q', List.mem_cons_of_mem _ hq, hx⟩) xs e)
def spDealing : Sp := fun vs H Q _ => ∃ (L0 T0 : Addr) (us : List V) (es : List Ev) (d n : Int) (r : Rc), vs = [.ref L0, .ref T0] ∧ H L0 = some (.lst us) ∧ Paired (EvAt H) us es ∧ H T0 = some (.tup [.str "keep", .int d, .int n]) ∧ (∀ e ∈ es, EvDt e) ∧ es.length ≤ 900 ∧ Tells d es r ∧
  ∀ (q : Quad) (H' : Hp), Same H H' → RowQ H' q (rowM d n r) → (∀ x ∈ q.ls, H x = none) → Q (.ref q.t) H'
def spDue : Sp := fun vs H Q _ => ∃ (F0 : Addr) (us : List V) (es : List Ev), vs = [.ref F0] ∧ H F0 = some (.lst us) ∧ Paired (EvAt H) us es ∧ Good es ∧ (∀ e ∈ es, EvDt e) ∧ es.length ≤ 900 ∧
  ∀ (R : Addr) (qs : List Quad) (H' : Hp), Same H H' → H' R = some (.lst (qs.map fun q => .ref q.t)) → Paired (RowQ H') qs (accs es).rows → H R = none → qs.length ≤ es.length → Q (.ref R) H'

theorem sc__law_dealing : FnScope ["ahead", "keep", "dealing", "own", "event", "first", "at", "stand", "reads", "spans", "writes"] ["ahead", "keep"] (defScope s__law_dealing) := ⟨rfl, rfl, rfl, by decide +kernel, rfl, by decide +kernel, by decide +kernel⟩
theorem ok__law_dealing {f : Addr} {fd : FuncData} (F : FunD K "_law_dealing" "_law_dealing" (defArgs s__law_dealing) (defBody s__law_dealing) (defScope s__law_dealing) [] [] f fd) (gm : mg "_law_dealing" = some (.ref f)) (B : Bas mg)  : Cal P w K mg base CX0 1 "_law_dealing" ["ahead", "keep"] spDealing := by
  refine ⟨f, fd, F.ok sc__law_dealing (fun vs H Q E h => ?_) (fun cdv A outer s H vs Q E hr h => ⟨_, PSs.nox (pss_cons (ps_set (i := 2) sc__law_dealing.nd rfl (by first | exact Or.inl rfl | exact Or.inr rfl) (pe_ix (ix_tK K rfl) (pv 1) pe_int (fun _ _ => rfl)))
  (pss_cons (ps_set (i := 3) sc__law_dealing.nd rfl (by first | exact Or.inl rfl | exact Or.inr rfl) (pe_lst pa_nil))
  (pss_cons (ps_for PassesOwn.never rfl (pi_list (pv 0)) (pg_name (i := 4) sc__law_dealing.nd rfl (by first | exact Or.inl rfl | exact Or.inr rfl))
    (pss_cons (ps_mark (ps_if (pt_cmpR (op_eqD hr.units) (pv 4) (pe_tup (pa_cons pe_str (pa_cons (pv 2) pa_nil))) (nomark _)) (pss_one (ps_set (i := 3) sc__law_dealing.nd rfl (by first | exact Or.inl rfl | exact Or.inr rfl) (pe_lst pa_nil)))
      pss_nil))
    (pss_one (ps_if (pt_cmpR op_eq (pe_ix (ix_tK K rfl) (pv 4) pe_int (fun _ _ => rfl)) (pv 2) (nomark _)) (pss_one (ps_expr (pe_bm PySem.F.plainAttrs_list PySem.F.slot_list_append PySem.F.type_list_append mt_append (pv 3) (pa_cons (pv 4) pa_nil))))
      pss_nil))))
  (pss_cons (ps_set (i := 5) sc__law_dealing.nd rfl (by first | exact Or.inl rfl | exact Or.inr rfl) (pe_ix (ix_lK K rfl) (pe_lc (own := [("at", 6)]) rfl sc__law_dealing.nd (pi_range1 rfl B.range (pa_cons (pe_callB call_lenQ (by rfl) B.len PySem.boot_len (pa_cons (pv 0) pa_nil)) pa_nil)) (blkOk_by (N := ["ahead", "keep", "dealing", "own", "event", "first", "at", "stand", "reads", "spans", "writes"]) (sc := defScope s__law_dealing) (by decide +kernel)) (fun _ _ _ _ _ => (pg_name (i := 6) sc__law_dealing.nd rfl (by first | exact Or.inl rfl | exact Or.inr rfl))) (fun _ _ _ _ _ => pts_one (pt_cmpR (op_eqDK K rfl hr.units) (pe_ix (ix_lK K rfl) (pv 0) (pv 6) (fun _ _ => rfl)) (pe_tup (pa_cons pe_str (pa_cons (pv 2) pa_nil))) (nomark _))) (fun _ _ _ _ _ => (pv 6))) (pe_un un_neg pe_int) (fun _ _ => rfl)))
  (pss_cons (ps_set (i := 7) sc__law_dealing.nd rfl (by first | exact Or.inl rfl | exact Or.inr rfl) (pe_callB call_lenQ (by rfl) B.len PySem.boot_len (pa_cons (pe_lc (own := [("event", 4)]) rfl sc__law_dealing.nd (pi_list (pe_slice sl_list (pv 0) po_none (po_some (pv 5)))) (blkOk_by (N := ["ahead", "keep", "dealing", "own", "event", "first", "at", "stand", "reads", "spans", "writes"]) (sc := defScope s__law_dealing) (by decide +kernel)) (fun _ _ _ _ _ => (pg_name (i := 4) sc__law_dealing.nd rfl (by first | exact Or.inl rfl | exact Or.inr rfl))) (fun _ _ _ _ _ => pts_one (pt_cmpR op_eq (pe_ix (ix_tK K rfl) (pv 4) pe_int (fun _ _ => rfl)) pe_str (nomark _))) (fun _ _ _ _ _ => (pv 4))) pa_nil)))
  (pss_cons (ps_set (i := 8) sc__law_dealing.nd rfl (by first | exact Or.inl rfl | exact Or.inr rfl) (pe_lst pa_nil))
  (pss_cons (ps_set (i := 9) sc__law_dealing.nd rfl (by first | exact Or.inl rfl | exact Or.inr rfl) (pe_lst pa_nil))
  (pss_cons (ps_set (i := 10) sc__law_dealing.nd rfl (by first | exact Or.inl rfl | exact Or.inr rfl) (pe_lst pa_nil))
  (pss_cons (ps_for PassesOwn.never rfl (pi_list (pv 3)) (pg_name (i := 4) sc__law_dealing.nd rfl (by first | exact Or.inl rfl | exact Or.inr rfl))
    (pss_cons (ps_mark (ps_if (PW.pt (pw_and (pt_cmpR op_in_seq (pe_ix (ix_tK K rfl) (pv 4) pe_int (fun _ _ => rfl)) (pe_lst (pa_cons pe_str (pa_cons pe_str (pa_cons pe_str pa_nil)))) rfl) (pw_and1 (pt_cmpR op_notIn_seq (pe_ix (ix_tK K rfl) (pv 4) pe_int (fun _ _ => rfl)) (pv 8) rfl)))) (pss_one (ps_expr (pe_bm PySem.F.plainAttrs_list PySem.F.slot_list_append PySem.F.type_list_append mt_append (pv 8) (pa_cons (pe_ix (ix_tK K rfl) (pv 4) pe_int (fun _ _ => rfl)) pa_nil))))
      pss_nil))
    (pss_cons (ps_mark (ps_if (PW.pt (pw_and (pt_cmpR op_eq (pe_ix (ix_tK K rfl) (pv 4) pe_int (fun _ _ => rfl)) pe_str (nomark _)) (pw_and1 (pt_cmpR (op_notInD (u65 hr)) (pe_slice sl_tupA (pv 4) (po_some pe_int) (po_some pe_int)) (pv 9) rfl)))) (pss_one (ps_expr (pe_bm PySem.F.plainAttrs_list PySem.F.slot_list_append PySem.F.type_list_append mt_append (pv 9) (pa_cons (pe_slice sl_tupA (pv 4) (po_some pe_int) (po_some pe_int)) pa_nil))))
      pss_nil))
    (pss_cons (ps_mark (ps_if (pt_cmpR op_in_seq (pe_ix (ix_tK K rfl) (pv 4) pe_int (fun _ _ => rfl)) (pe_lst (pa_cons pe_str (pa_cons pe_str pa_nil))) rfl) (pss_one (ps_expr (pe_bm PySem.F.plainAttrs_list PySem.F.slot_list_append PySem.F.type_list_append mt_append (pv 10) (pa_cons (pe_ix (ix_tK K rfl) (pv 4) pe_int (fun _ _ => rfl)) pa_nil))))
      pss_nil))
    (pss_one (ps_if (pt_cmpR op_eq (pe_ix (ix_tK K rfl) (pv 4) pe_int (fun _ _ => rfl)) pe_str (nomark _)) (pss_one (ps_set (i := 10) sc__law_dealing.nd rfl (by first | exact Or.inl rfl | exact Or.inr rfl) (pe_slice sl_list (pv 10) po_none (po_some (pe_ix (ix_tK K rfl) (pv 4) pe_int (fun _ _ => rfl))))))
      pss_nil))))))
  (pss_one (ps_ret (pe_tup (pa_cons (pv 2) (pa_cons (pv 7) (pa_cons (pe_ix (ix_tK K rfl) (pv 1) pe_int (fun _ _ => rfl)) (pa_cons (pe_callB (cr_sortedSs hr.units) (by rfl) B.sorted (by decide +kernel) (pa_cons (pv 8) pa_nil)) (pa_cons (pe_callB (cr_sortedSl hr.units) (by rfl) B.sorted (by decide +kernel) (pa_cons (pv 9) pa_nil)) (pa_cons (pe_callB (cr_sortX rfl hr.units) (by rfl) B.sorted (by decide +kernel) (pa_cons (pe_callTy (cr_setX rfl) (by rfl) (bas_set B) (by decide +kernel) (pa_cons (pv 10) pa_nil)) pa_nil)) pa_nil)))))))))))))))))), ?_⟩), gm, F.kp, F.bindsN fun _ _ _ _ _ _ us hl => match us, hl with | [_, _], _ => rfl⟩
  · obtain ⟨L0, T0, us, es, d, n, r, rfl, _⟩ := h; rfl
  · obtain ⟨L0, T0, us, es, d, n, r, rfl, h0, pe, hT, dt, el, tl, q⟩ := h
    walk_at "go"
    refine g_ixT hT rfl ?_
    walk_at "go"
    refine g_newL sz0 fun O H1 O0 s1 hO => ?_
    walk_at "go"
    have ul : us.length = es.length := Paired.len pe
    refine forL_by (SqL.of (s1 _ _ h0)) (fun i σ' H' => (∃ O ws x4 x5 x6 x7 x8 x9 x10, σ' = [some (.ref L0), some (.ref T0), some (.int d), some (.ref O), x4, x5, x6, x7, x8, x9, x10] ∧ H O = none ∧ H' O = some (.lst ws) ∧ Paired (EvAt H) ws (ownL d (es.take i))) ∧ Same H H') ⟨⟨O, [], _, _, _, _, _, _, _, rfl, O0, hO, .nil⟩, s1⟩ (fun i σ' H' _ p => SqL.of (p.2 _ _ h0)) ?_ ?_
    · rintro i x σ' H' hx ⟨⟨O, ws, x4, x5, x6, x7, x8, x9, x10, rfl, O0, hO, po⟩, s2⟩
      obtain ⟨e, he, ea⟩ := Paired.at' pe hx
      have de := dt e (List.mem_of_getElem? he)
      have ea2 := ea.grow s2
      have ol : (ownL d (es.take i)).length ≤ es.length := Nat.le_trans (own_len d _ _) (by rw [List.length_nil, List.length_take]; omega)
      rw [own_take he]
      obtain ⟨t, vs, rfl, ht, re⟩ := id ea2
      obtain ⟨rest, rfl⟩ := rest_dl re
      walk_at "go"
      refine g_mid (fun σ' H3 => (∃ O ws x5 x6 x7 x8 x9 x10, σ' = [some (.ref L0), some (.ref T0), some (.int d), some (.ref O), some (.ref t), x5, x6, x7, x8, x9, x10] ∧ H O = none ∧ H3 O = some (.lst ws) ∧ Paired (EvAt H) ws (if isB d e then [] else ownL d (es.take i))) ∧ Same H H3 ∧ H3 t = some (.tup (.str e.word :: .int e.dl :: rest))) ?_ ?_
      · rintro σ' H3 ⟨⟨O, ws, x5, x6, x7, x8, x9, x10, rfl, O0, hO, po⟩, s3, ht3⟩
        have wl : ws.length < sizeLine := by
          have := Paired.len po
          rw [this, sizeLine_eq]
          split
          · decide
          · omega
        walk_at "go"
        refine g_ixT ht3 (atI_nat (j := 1) rfl) ?_
        walk_at "go"
        refine g_dec (fun c => ?_) (fun c => ?_)
        · have c' : e.dl = d := by injection c
          walk_at "go"
          refine g_app1 hO wl fun H4 O4 k4 => ?_
          walk_at "go"
          refine ⟨⟨O, _, _, _, _, _, _, _, _, rfl, O0, O4, ?_⟩, fun b o eb => k4.fr _ _ (ne_of_none eb O0) (s3 _ _ eb)⟩
          unfold ownStep
          rw [if_pos c']
          exact Paired.app po (.cons ea .nil)
        · have c' : e.dl ≠ d := fun z => c (by rw [z])
          walk_at "go"
          refine ⟨⟨O, _, _, _, _, _, _, _, _, rfl, O0, hO, ?_⟩, s3⟩
          unfold ownStep
          rw [if_neg c', List.append_nil]
          exact po
      · intro N out
        walk_at "go"
        refine g_newT (sz (by simp)) fun T H3 T00 s3 hT3 => ?_
        refine ⟨evD e, .tuple [.str "begin", .int d], evDp (ea2.grow s3), .tup (SqT.of hT3) (.cons (.str _) (.cons (.int _) .nil)), evD_shaped de, begin_shaped d, ?_⟩
        rw [eqv_begin]
        walk_at "go"
        cases hb : isB d e with
        | true =>
          refine ifBY rfl ?_
          walk_at "go"
          refine g_newL sz0 fun O2 H4 O20 s4 hO2 => ?_
          walk_at "go"
          exact out _ _ ⟨⟨O2, [], _, _, _, _, _, _, rfl, s2.free (s3.free O20), hO2, by rw [hb]; exact .nil⟩, s2.trans (s3.trans s4), s4 _ _ (s3 _ _ ht)⟩
        | false =>
          refine ifBN rfl ?_
          walk_at "go"
          exact out _ _ ⟨⟨O, ws, _, _, _, _, _, _, rfl, O0, s3 _ _ hO, by rw [hb]; exact po⟩, s2.trans s3, s3 _ _ ht⟩
    · rintro σ' H' ⟨⟨O, ws, x4, x5, x6, x7, x8, x9, x10, rfl, O0, hO, po⟩, s2⟩
      rw [ul, List.take_length] at po
      have h0' := s2 _ _ h0
      have ol : (ownL d es).length ≤ es.length := Nat.le_trans (own_len d _ _) (by rw [List.length_nil]; omega)
      obtain ⟨tgo, ini, fi, eix, fle, est⟩ := tl
      clear s1
      walk_at "go"
      refine g_lcRg1 ?_
      walk_at "go"
      refine lcRg_new (n := es.length) (by rw [ul]) (by omega) (fun i acc H'' => acc = (idxB d (es.take i)).map (fun k => V.int ((k : Nat) : Int)) ∧ Same H' H'') (fun D D0 => ⟨rfl, same_new D0⟩) ?_ ?_ ?_
      · rintro i acc H'' hi ⟨rfl, _⟩
        rw [List.length_map]
        unfold idxB
        refine Nat.le_trans (List.length_filter_le _ _) ?_
        rw [List.length_range, List.length_take]
        omega
      · rintro D i acc H'' D0 hi ⟨rfl, s3⟩ hD Rr kY kN
        have hiu : i < us.length := by omega
        have hx : us[i]? = some us[i] := List.getElem?_eq_getElem hiu
        obtain ⟨e, he, ea⟩ := Paired.at' pe hx
        have de := dt e (List.mem_of_getElem? he)
        have ea2 := (ea.grow s2).grow s3
        have ix1 : idxB d (es.take (i + 1)) = idxB d (es.take i) ++ (if isB d e then [i] else []) := by
          rw [take_snoc he, idx_snoc, List.length_take, Nat.min_eq_left (Nat.le_of_lt hi)]
        walk_at "go"
        refine ⟨rfl, ?_⟩
        walk_at "go"
        refine g_ixL (s3 _ _ h0') (atI_nat hx) ?_
        walk_at "go"
        refine g_newT (sz (by simp)) fun T H3 T00 s4 hT3 => ?_
        refine ⟨evD e, .tuple [.str "begin", .int d], evDp (ea2.grow s4), .tup (SqT.of hT3) (.cons (.str _) (.cons (.int _) .nil)), evD_shaped de, begin_shaped d, ?_⟩
        rw [eqv_begin]
        walk_at "go"
        have hD3 := s4 _ _ hD
        cases hb : isB d e with
        | true =>
          refine ifBY rfl ?_
          walk_at "go"
          refine kY _ _ hD3 ⟨?_, fun b o eb => ?_⟩
          · rw [ix1, hb, List.map_append]
            rfl
          · rw [upd_ne (ne_of_none eb D0)]
            exact s4 _ _ (s3 _ _ eb)
        | false =>
          refine ifBN rfl ?_
          walk_at "go"
          refine kN _ hD3 ⟨?_, s3.trans s4⟩
          rw [ix1, hb]
          simp
      · rintro D acc H3 D0 ⟨rfl, s3⟩ hD
        rw [List.take_length, eix, List.map_append] at hD
        have hD' : H3 D = some (.lst (ini.map (fun k => V.int ((k : Nat) : Int)) ++ [V.int (fi : Int)])) := hD
        walk_at "go"
        refine g_ixL hD' (atI_last _ _) ?_
        walk_at "go"
        refine g_lcL ?_
        walk_at "go"
        refine g_slTo1 (s3 _ _ h0') fun L1 H4 L10 s4 hL1 => ?_
        walk_at "go"
        refine lcL_new2 (SqL.of hL1) (by rw [List.length_take, sizeLine_eq]; omega) (fun D i acc H'' => acc.length = (((es.take fi).take i).filter isK).length ∧ Same H4 H'') (fun D D1 => ⟨rfl, same_new D1⟩) (fun D i acc H'' D1 r => SqL.of (r.2 _ _ hL1)) (fun D i acc H'' hi r => by
          rw [r.1]
          refine Nat.le_trans (List.length_filter_le _ _) ?_
          rw [List.length_take]
          omega) ?_ ?_
        · rintro D i x acc H'' D1 hx ⟨rl, s5⟩ hD2 Rr kY kN
          have hif : i < fi := by
            have := (List.getElem?_eq_some_iff.mp hx).1
            rw [List.length_take] at this
            omega
          rw [List.getElem?_take_of_lt hif] at hx
          obtain ⟨e, he, ea⟩ := Paired.at' pe hx
          have he2 : (es.take fi)[i]? = some e := by rw [List.getElem?_take_of_lt hif]; exact he
          obtain ⟨t, vs, rfl, ht, re⟩ := ea
          have ht5 := s5 _ _ (s4 _ _ (s3 _ _ (s2 _ _ ht)))
          walk_at "go"
          refine ⟨rfl, ?_⟩
          walk_at "go"
          refine g_ixT ht5 (atI_nat (j := 0) rfl) ?_
          walk_at "go"
          rw [← word_keep]
          cases hb : isK e with
          | true =>
            refine ifBY rfl ?_
            walk_at "go"
            refine kY _ _ hD2 ⟨?_, fun b o eb => ?_⟩
            · rw [filter_take he2, hb, List.length_append, rl]
              rfl
            · rw [upd_ne (ne_of_none eb D1)]
              exact s5 _ _ eb
          | false =>
            refine ifBN rfl ?_
            walk_at "go"
            refine kN _ hD2 ⟨?_, s5⟩
            rw [filter_take he2, hb, rl]
            rfl
        · rintro D acc H5 D1 ⟨rl, s5⟩ hD2
          have rl2 : acc.length = r.st := by
            rw [rl, est, List.take_of_length_le]
            rw [List.length_take, List.length_take]
            omega
          walk_at "go"
          refine g_newL sz0 fun R1 H6 R10 s6 hR1 => ?_
          walk_at "go"
          refine g_newL sz0 fun S1 H7 S10 s7 hS1 => ?_
          walk_at "go"
          refine g_newL sz0 fun W1 H8 W10 s8 hW1 => ?_
          walk_at "go"
          have s25 : Same H' H5 := s3.trans (s4.trans s5)
          have nRS : R1 ≠ S1 := ne_of_none hR1 S10
          have nRW : R1 ≠ W1 := ne_of_none (s7 _ _ hR1) W10
          have nSW : S1 ≠ W1 := ne_of_none hS1 W10
          have li0 : LI H5 H8 R1 S1 W1 ⟨r.st, [], [], []⟩ := ⟨s6.trans (s7.trans s8), ⟨R10, s6.free S10, s6.free (s7.free W10)⟩, ⟨nRS, nRW, nSW⟩, s8 _ _ (s7 _ _ hR1), ⟨[], s8 _ _ hS1, .nil⟩, hW1⟩
          have s05 : Same H H5 := s2.trans s25
          have hO5 := s25 _ _ hO
          have wl : ws.length = (ownL d es).length := Paired.len po
          have hT5 := s05 _ _ hT
          have rbs : ∀ k, k ≤ (ownL d es).length → RcB (((ownL d es).take k).foldl Rc.go ⟨r.st, [], [], []⟩) k := by
            intro k
            induction k with
            | zero => exact fun _ => ⟨Nat.le_refl _, Nat.le_refl _, Nat.le_refl _, fun p hp => (List.not_mem_nil hp).elim⟩
            | succ k ih =>
              intro hk
              have he : (ownL d es)[k]? = some (ownL d es)[k] := List.getElem?_eq_getElem (by omega)
              rw [take_snoc he, List.foldl_append]
              exact (ih (by omega)).go (dt _ (own_sub (List.getElem_mem _)))
          refine forL_by (SqL.of (li0.s _ _ hO5)) (fun i σ' H'' => ∃ W1 x4 x6, σ' = [some (.ref L0), some (.ref T0), some (.int d), some (.ref O), x4, some (.int (fi : Int)), x6, some (.int (r.st : Int)), some (.ref R1), some (.ref S1), some (.ref W1)] ∧ LI H5 H'' R1 S1 W1 (((ownL d es).take i).foldl Rc.go ⟨r.st, [], [], []⟩)) ⟨W1, _, _, by rw [← rl2]; rfl, li0⟩ (fun i σ' H'' _ p => by obtain ⟨_, _, _, _, p⟩ := p; exact SqL.of (p.s _ _ hO5)) ?_ ?_
          · rintro i x σ' H'' hx ⟨W1, x4, x6, rfl, li⟩
            obtain ⟨e, he, ea⟩ := Paired.at' po hx
            have de := dt e (own_sub (List.mem_of_getElem? he))
            have hi : i < (ownL d es).length := (List.getElem?_eq_some_iff.mp he).1
            have rb := rbs i (Nat.le_of_lt hi)
            have ei : ((ownL d es).take (i + 1)).foldl Rc.go ⟨r.st, [], [], []⟩ = (((ownL d es).take i).foldl Rc.go ⟨r.st, [], [], []⟩).go e := by
              rw [take_snoc he, List.foldl_append]
              rfl
            rw [ei]
            generalize ((ownL d es).take i).foldl Rc.go ⟨r.st, [], [], []⟩ = ri at li rb ⊢
            obtain ⟨t, vs, rfl, ht, re⟩ := ea
            have ht1 := li.s _ _ (s05 _ _ ht)
            clear hx he po ei rbs li0 hO5 hT5 hD2 q tgo eix est rl rl2
            cases re with
          | begin dd =>
            have ht2 : H'' t = some (.tup [.str "begin", .int dd]) := ht1
            walk_at "go"
            walk_at "go"
            refine g_mark ?_
            walk_at "go"
            refine g_ixT ht2 (atI_nat (j := 0) rfl) ?_
            walk_at "go"
            refine g_newL (sz (by simp)) fun Ta Ha Ta0 sa hTa => ?_
            have lia := li.same sa
            have hta := sa _ _ ht2
            clear li
            have li := lia
            clear lia
            refine ⟨Ta, _, rfl, .inl (SqL.of hTa), rfl, rfl, ?_⟩
            walk_at "go"
            refine ifBN (by decide +kernel) ?_
            walk_at "go"
            walk_at "go"
            refine g_mark ?_
            walk_at "go"
            refine g_ixT hta (atI_nat (j := 0) rfl) ?_
            walk_at "go"
            refine ifN (by decide +kernel) ?_
            walk_at "go"
            walk_at "go"
            refine g_mark ?_
            walk_at "go"
            refine g_ixT hta (atI_nat (j := 0) rfl) ?_
            walk_at "go"
            refine g_newL (sz (by simp)) fun Tb Hb Tb0 sb hTb => ?_
            have lib := li.same sb
            have htb := sb _ _ hta
            clear li
            have li := lib
            clear lib
            refine ⟨Tb, _, rfl, .inl (SqL.of hTb), rfl, rfl, ?_⟩
            walk_at "go"
            refine ifBN (by decide +kernel) ?_
            walk_at "go"
            walk_at "go"
            refine g_ixT htb (atI_nat (j := 0) rfl) ?_
            walk_at "go"
            refine ifN (by decide +kernel) ?_
            walk_at "go"
            exact ⟨W1, _, _, rfl, li⟩

          | read dd k v =>
            have ht2 : H'' t = some (.tup [.str "read", .int dd, .str k, wV v]) := ht1
            walk_at "go"
            refine g_mid (fun σ' H3 => (∃ x6, σ' = [some (.ref L0), some (.ref T0), some (.int d), some (.ref O), some (.ref t), some (.int (fi : Int)), x6, some (.int (r.st : Int)), some (.ref R1), some (.ref S1), some (.ref W1)]) ∧ LI H5 H3 R1 S1 W1 { ri with ask := addS ri.ask k } ∧ H3 t = some (.tup [.str "read", .int dd, .str k, wV v])) ?_ ?_
            · rintro σ' HM ⟨⟨x6, rfl⟩, liM, htM⟩
              clear li
              have li := liM
              walk_at "go"
              refine g_mark ?_
              walk_at "go"
              refine g_ixT htM (atI_nat (j := 0) rfl) ?_
              walk_at "go"
              refine ifN (by decide +kernel) ?_
              walk_at "go"
              walk_at "go"
              refine g_mark ?_
              walk_at "go"
              refine g_ixT htM (atI_nat (j := 0) rfl) ?_
              walk_at "go"
              refine g_newL (sz (by simp)) fun Tb Hb Tb0 sb hTb => ?_
              have lib := li.same sb
              have htb := sb _ _ htM
              clear li
              have li := lib
              clear lib
              refine ⟨Tb, _, rfl, .inl (SqL.of hTb), rfl, rfl, ?_⟩
              walk_at "go"
              refine ifBN (by decide +kernel) ?_
              walk_at "go"
              walk_at "go"
              refine g_ixT htb (atI_nat (j := 0) rfl) ?_
              walk_at "go"
              refine ifN (by decide +kernel) ?_
              walk_at "go"
              exact ⟨W1, _, _, rfl, li⟩
            · intro N out
              walk_at "go"
              refine g_ixT ht2 (atI_nat (j := 0) rfl) ?_
              walk_at "go"
              refine g_newL (sz (by simp)) fun Ta Ha Ta0 sa hTa => ?_
              have lia := li.same sa
              have hta := sa _ _ ht2
              clear li
              have li := lia
              clear lia
              refine ⟨Ta, _, rfl, .inl (SqL.of hTa), rfl, rfl, ?_⟩
              walk_at "go"
              refine ifBY (by decide +kernel) ?_
              walk_at "go"
              refine g_ixT hta (atI_nat (j := 2) rfl) ?_
              walk_at "go"
              refine g_notinStrs li.eR ?_
              walk_at "go"
              by_cases c : k ∈ ri.ask
              · rw [decide_eq_true c]
                walk_at "go"
                refine out _ _ ⟨⟨_, rfl⟩, ?_, hta⟩
                rw [show addS ri.ask k = ri.ask from if_pos c]
                exact li
              · rw [decide_eq_false c]
                walk_at "go"
                have eR := li.eR
                walk_at "go"
                refine g_ixT hta (atI_nat (j := 2) rfl) ?_
                walk_at "go"
                refine g_app1 li.eR (by rw [List.length_map, sizeLine_eq]; have := rb.la; omega) fun H3 R3 k3 => ?_
                walk_at "go"
                refine out _ _ ⟨⟨_, rfl⟩, ?_, k3.fr _ _ (ne_of hta li.eR fun z => nomatch z) hta⟩
                rw [show addS ri.ask k = ri.ask ++ [k] from if_neg c]
                obtain ⟨ys, e2, p2⟩ := li.eS
                exact ⟨fun b o eb => k3.fr _ _ (ne_of_none eb li.n.1) (li.s _ _ eb), li.n, li.d, by rw [R3, List.map_append]; rfl, ⟨ys, k3.fr _ _ (Ne.symm li.d.1) e2, SpAt.frame (fun x xs z => k3.fr _ _ (ne_of z li.eR fun z => nomatch z) z) p2⟩, k3.fr _ _ (Ne.symm li.d.2.1) li.eW⟩

          | @scan dd lo hi rs v hv =>
            have ht2 : H'' t = some (.tup [.str "scan", .int dd, .str lo, .str hi, v]) := ht1
            walk_at "go"
            walk_at "go"
            refine g_mark ?_
            walk_at "go"
            refine g_ixT ht2 (atI_nat (j := 0) rfl) ?_
            walk_at "go"
            refine g_newL (sz (by simp)) fun Ta Ha Ta0 sa hTa => ?_
            have lia := li.same sa
            have hta := sa _ _ ht2
            clear li
            have li := lia
            clear lia
            refine ⟨Ta, _, rfl, .inl (SqL.of hTa), rfl, rfl, ?_⟩
            walk_at "go"
            refine ifBN (by decide +kernel) ?_
            walk_at "go"
            refine g_mid (fun σ' H3 => (∃ x6, σ' = [some (.ref L0), some (.ref T0), some (.int d), some (.ref O), some (.ref t), some (.int (fi : Int)), x6, some (.int (r.st : Int)), some (.ref R1), some (.ref S1), some (.ref W1)]) ∧ LI H5 H3 R1 S1 W1 { ri with sp := addS ri.sp (lo, hi) } ∧ H3 t = some (.tup [.str "scan", .int dd, .str lo, .str hi, v])) ?_ ?_
            · rintro σ' HM ⟨⟨x6, rfl⟩, liM, htM⟩
              clear li
              have li := liM
              walk_at "go"
              refine g_mark ?_
              walk_at "go"
              refine g_ixT htM (atI_nat (j := 0) rfl) ?_
              walk_at "go"
              refine g_newL (sz (by simp)) fun Tb Hb Tb0 sb hTb => ?_
              have lib := li.same sb
              have htb := sb _ _ htM
              clear li
              have li := lib
              clear lib
              refine ⟨Tb, _, rfl, .inl (SqL.of hTb), rfl, rfl, ?_⟩
              walk_at "go"
              refine ifBN (by decide +kernel) ?_
              walk_at "go"
              walk_at "go"
              refine g_ixT htb (atI_nat (j := 0) rfl) ?_
              walk_at "go"
              refine ifN (by decide +kernel) ?_
              walk_at "go"
              exact ⟨W1, _, _, rfl, li⟩
            · intro N out
              walk_at "go"
              refine g_ixT hta (atI_nat (j := 0) rfl) ?_
              walk_at "go"
              refine ifY rfl ?_
              walk_at "go"
              have cut : cutV [V.str "scan", .int dd, .str lo, .str hi, v] (some 2) (some 4) = [.str lo, .str hi] := rfl
              have sl0 : ¬ (HT.sIx [V.str "scan", .int dd, .str lo, .str hi, v].length 0 (some 2) = 0 ∧ HT.sIx [V.str "scan", .int dd, .str lo, .str hi, v].length [V.str "scan", .int dd, .str lo, .str hi, v].length (some 4) = [V.str "scan", .int dd, .str lo, .str hi, v].length) := fun z => absurd z.1 (show ¬ HT.sIx 5 0 (some 2) = 0 by decide)
              refine g_slA hta sl0 cut fun T1 H9 T10 s9 hT1 => ?_
              have l9 := li.same s9
              have ht9 := s9 _ _ hta
              walk_at "go"
              obtain ⟨ys, e2, p2⟩ := l9.eS
              refine ⟨spD (lo, hi), ri.sp.map spD, .tup (SqT.of hT1) (.cons (.str _) (.cons (.str _) .nil)), .lst (SqL.of e2) (sp_dp p2), sp_shaped de.1, sps_shaped rb.ok, ?_⟩
              rw [any_spD]
              walk_at "go"
              by_cases c : (lo, hi) ∈ ri.sp
              · rw [decide_eq_true c]
                walk_at "go"
                refine out _ _ ⟨⟨_, rfl⟩, ?_, ht9⟩
                rw [show addS ri.sp (lo, hi) = ri.sp from if_pos c]
                exact l9
              · rw [decide_eq_false c]
                walk_at "go"
                refine g_slA ht9 sl0 cut fun T2 H10 T20 s10 hT2 => ?_
                have l10 := l9.same s10
                obtain ⟨ys, e2, p2⟩ := l10.eS
                walk_at "go"
                refine g_app1 e2 (by rw [Paired.len p2, sizeLine_eq]; have := rb.ls; omega) fun H3 S3 k3 => ?_
                walk_at "go"
                have tk : ∀ x xs, H10 x = some (.tup xs) → H3 x = some (.tup xs) := fun x xs z => k3.fr _ _ (ne_of z e2 fun z => nomatch z) z
                refine out _ _ ⟨⟨_, rfl⟩, ?_, tk _ _ (s10 _ _ ht9)⟩
                rw [show addS ri.sp (lo, hi) = ri.sp ++ [(lo, hi)] from if_neg c]
                exact ⟨fun b o eb => k3.fr _ _ (ne_of_none eb l10.n.2.1) (l10.s _ _ eb), l10.n, l10.d, k3.fr _ _ l10.d.1 l10.eR, ⟨_, S3, Paired.app (SpAt.frame tk p2) (.cons ⟨T2, rfl, tk _ _ hT2⟩ .nil)⟩, k3.fr _ _ (Ne.symm l10.d.2.2) l10.eW⟩

          | put dd k v =>
            have ht2 : H'' t = some (.tup [.str "put", .int dd, .str k, .int v]) := ht1
            walk_at "go"
            refine g_mid (fun σ' H3 => (∃ x6, σ' = [some (.ref L0), some (.ref T0), some (.int d), some (.ref O), some (.ref t), some (.int (fi : Int)), x6, some (.int (r.st : Int)), some (.ref R1), some (.ref S1), some (.ref W1)]) ∧ LI H5 H3 R1 S1 W1 { ri with ask := addS ri.ask k } ∧ H3 t = some (.tup [.str "put", .int dd, .str k, .int v])) ?_ ?_
            · rintro σ' HM ⟨⟨x6, rfl⟩, liM, htM⟩
              clear li
              have li := liM
              walk_at "go"
              refine g_mark ?_
              walk_at "go"
              refine g_ixT htM (atI_nat (j := 0) rfl) ?_
              walk_at "go"
              refine ifN (by decide +kernel) ?_
              walk_at "go"
              walk_at "go"
              refine g_mark ?_
              walk_at "go"
              refine g_ixT htM (atI_nat (j := 0) rfl) ?_
              walk_at "go"
              refine g_newL (sz (by simp)) fun Tb Hb Tb0 sb hTb => ?_
              have lib := li.same sb
              have htb := sb _ _ htM
              clear li
              have li := lib
              clear lib
              refine ⟨Tb, _, rfl, .inl (SqL.of hTb), rfl, rfl, ?_⟩
              walk_at "go"
              refine ifBY (by decide +kernel) ?_
              walk_at "go"
              have eW := li.eW
              walk_at "go"
              refine g_ixT htb (atI_nat (j := 2) rfl) ?_
              walk_at "go"
              refine g_app1 li.eW (by rw [List.length_map, sizeLine_eq]; have := rb.lw; show ri.wr.length < _; omega) fun H3 W3 k3 => ?_
              walk_at "go"
              have htc := k3.fr _ _ (ne_of htb li.eW fun z => nomatch z) htb
              have liN : LI H5 H3 R1 S1 W1 { ri with ask := addS ri.ask k, wr := ri.wr ++ [k] } := by
                obtain ⟨ys, e2, p2⟩ := li.eS
                exact ⟨fun b o eb => k3.fr _ _ (ne_of_none eb li.n.2.2) (li.s _ _ eb), li.n, li.d, k3.fr _ _ li.d.2.1 li.eR, ⟨ys, k3.fr _ _ li.d.2.2 e2, SpAt.frame (fun x xs z => k3.fr _ _ (ne_of z li.eW fun z => nomatch z) z) p2⟩, by rw [W3]; show _ = some (HO.lst ((ri.wr ++ [k]).map V.str)); rw [List.map_append]; rfl⟩
              clear li
              have li := liN
              walk_at "go"
              refine g_ixT htc (atI_nat (j := 0) rfl) ?_
              walk_at "go"
              refine ifN (by decide +kernel) ?_
              walk_at "go"
              exact ⟨W1, _, _, rfl, li⟩
            · intro N out
              walk_at "go"
              refine g_ixT ht2 (atI_nat (j := 0) rfl) ?_
              walk_at "go"
              refine g_newL (sz (by simp)) fun Ta Ha Ta0 sa hTa => ?_
              have lia := li.same sa
              have hta := sa _ _ ht2
              clear li
              have li := lia
              clear lia
              refine ⟨Ta, _, rfl, .inl (SqL.of hTa), rfl, rfl, ?_⟩
              walk_at "go"
              refine ifBY (by decide +kernel) ?_
              walk_at "go"
              refine g_ixT hta (atI_nat (j := 2) rfl) ?_
              walk_at "go"
              refine g_notinStrs li.eR ?_
              walk_at "go"
              by_cases c : k ∈ ri.ask
              · rw [decide_eq_true c]
                walk_at "go"
                refine out _ _ ⟨⟨_, rfl⟩, ?_, hta⟩
                rw [show addS ri.ask k = ri.ask from if_pos c]
                exact li
              · rw [decide_eq_false c]
                walk_at "go"
                have eR := li.eR
                walk_at "go"
                refine g_ixT hta (atI_nat (j := 2) rfl) ?_
                walk_at "go"
                refine g_app1 li.eR (by rw [List.length_map, sizeLine_eq]; have := rb.la; omega) fun H3 R3 k3 => ?_
                walk_at "go"
                refine out _ _ ⟨⟨_, rfl⟩, ?_, k3.fr _ _ (ne_of hta li.eR fun z => nomatch z) hta⟩
                rw [show addS ri.ask k = ri.ask ++ [k] from if_neg c]
                obtain ⟨ys, e2, p2⟩ := li.eS
                exact ⟨fun b o eb => k3.fr _ _ (ne_of_none eb li.n.1) (li.s _ _ eb), li.n, li.d, by rw [R3, List.map_append]; rfl, ⟨ys, k3.fr _ _ (Ne.symm li.d.1) e2, SpAt.frame (fun x xs z => k3.fr _ _ (ne_of z li.eR fun z => nomatch z) z) p2⟩, k3.fr _ _ (Ne.symm li.d.2.1) li.eW⟩

          | drop dd k =>
            have ht2 : H'' t = some (.tup [.str "drop", .int dd, .str k]) := ht1
            walk_at "go"
            refine g_mid (fun σ' H3 => (∃ x6, σ' = [some (.ref L0), some (.ref T0), some (.int d), some (.ref O), some (.ref t), some (.int (fi : Int)), x6, some (.int (r.st : Int)), some (.ref R1), some (.ref S1), some (.ref W1)]) ∧ LI H5 H3 R1 S1 W1 { ri with ask := addS ri.ask k } ∧ H3 t = some (.tup [.str "drop", .int dd, .str k])) ?_ ?_
            · rintro σ' HM ⟨⟨x6, rfl⟩, liM, htM⟩
              clear li
              have li := liM
              walk_at "go"
              refine g_mark ?_
              walk_at "go"
              refine g_ixT htM (atI_nat (j := 0) rfl) ?_
              walk_at "go"
              refine ifN (by decide +kernel) ?_
              walk_at "go"
              walk_at "go"
              refine g_mark ?_
              walk_at "go"
              refine g_ixT htM (atI_nat (j := 0) rfl) ?_
              walk_at "go"
              refine g_newL (sz (by simp)) fun Tb Hb Tb0 sb hTb => ?_
              have lib := li.same sb
              have htb := sb _ _ htM
              clear li
              have li := lib
              clear lib
              refine ⟨Tb, _, rfl, .inl (SqL.of hTb), rfl, rfl, ?_⟩
              walk_at "go"
              refine ifBY (by decide +kernel) ?_
              walk_at "go"
              have eW := li.eW
              walk_at "go"
              refine g_ixT htb (atI_nat (j := 2) rfl) ?_
              walk_at "go"
              refine g_app1 li.eW (by rw [List.length_map, sizeLine_eq]; have := rb.lw; show ri.wr.length < _; omega) fun H3 W3 k3 => ?_
              walk_at "go"
              have htc := k3.fr _ _ (ne_of htb li.eW fun z => nomatch z) htb
              have liN : LI H5 H3 R1 S1 W1 { ri with ask := addS ri.ask k, wr := ri.wr ++ [k] } := by
                obtain ⟨ys, e2, p2⟩ := li.eS
                exact ⟨fun b o eb => k3.fr _ _ (ne_of_none eb li.n.2.2) (li.s _ _ eb), li.n, li.d, k3.fr _ _ li.d.2.1 li.eR, ⟨ys, k3.fr _ _ li.d.2.2 e2, SpAt.frame (fun x xs z => k3.fr _ _ (ne_of z li.eW fun z => nomatch z) z) p2⟩, by rw [W3]; show _ = some (HO.lst ((ri.wr ++ [k]).map V.str)); rw [List.map_append]; rfl⟩
              clear li
              have li := liN
              walk_at "go"
              refine g_ixT htc (atI_nat (j := 0) rfl) ?_
              walk_at "go"
              refine ifN (by decide +kernel) ?_
              walk_at "go"
              exact ⟨W1, _, _, rfl, li⟩
            · intro N out
              walk_at "go"
              refine g_ixT ht2 (atI_nat (j := 0) rfl) ?_
              walk_at "go"
              refine g_newL (sz (by simp)) fun Ta Ha Ta0 sa hTa => ?_
              have lia := li.same sa
              have hta := sa _ _ ht2
              clear li
              have li := lia
              clear lia
              refine ⟨Ta, _, rfl, .inl (SqL.of hTa), rfl, rfl, ?_⟩
              walk_at "go"
              refine ifBY (by decide +kernel) ?_
              walk_at "go"
              refine g_ixT hta (atI_nat (j := 2) rfl) ?_
              walk_at "go"
              refine g_notinStrs li.eR ?_
              walk_at "go"
              by_cases c : k ∈ ri.ask
              · rw [decide_eq_true c]
                walk_at "go"
                refine out _ _ ⟨⟨_, rfl⟩, ?_, hta⟩
                rw [show addS ri.ask k = ri.ask from if_pos c]
                exact li
              · rw [decide_eq_false c]
                walk_at "go"
                have eR := li.eR
                walk_at "go"
                refine g_ixT hta (atI_nat (j := 2) rfl) ?_
                walk_at "go"
                refine g_app1 li.eR (by rw [List.length_map, sizeLine_eq]; have := rb.la; omega) fun H3 R3 k3 => ?_
                walk_at "go"
                refine out _ _ ⟨⟨_, rfl⟩, ?_, k3.fr _ _ (ne_of hta li.eR fun z => nomatch z) hta⟩
                rw [show addS ri.ask k = ri.ask ++ [k] from if_neg c]
                obtain ⟨ys, e2, p2⟩ := li.eS
                exact ⟨fun b o eb => k3.fr _ _ (ne_of_none eb li.n.1) (li.s _ _ eb), li.n, li.d, by rw [R3, List.map_append]; rfl, ⟨ys, k3.fr _ _ (Ne.symm li.d.1) e2, SpAt.frame (fun x xs z => k3.fr _ _ (ne_of z li.eR fun z => nomatch z) z) p2⟩, k3.fr _ _ (Ne.symm li.d.2.1) li.eW⟩

          | mark dd m =>
            have ht2 : H'' t = some (.tup [.str "mark", .int dd, .int m]) := ht1
            walk_at "go"
            walk_at "go"
            refine g_mark ?_
            walk_at "go"
            refine g_ixT ht2 (atI_nat (j := 0) rfl) ?_
            walk_at "go"
            refine g_newL (sz (by simp)) fun Ta Ha Ta0 sa hTa => ?_
            have lia := li.same sa
            have hta := sa _ _ ht2
            clear li
            have li := lia
            clear lia
            refine ⟨Ta, _, rfl, .inl (SqL.of hTa), rfl, rfl, ?_⟩
            walk_at "go"
            refine ifBN (by decide +kernel) ?_
            walk_at "go"
            walk_at "go"
            refine g_mark ?_
            walk_at "go"
            refine g_ixT hta (atI_nat (j := 0) rfl) ?_
            walk_at "go"
            refine ifN (by decide +kernel) ?_
            walk_at "go"
            walk_at "go"
            refine g_mark ?_
            walk_at "go"
            refine g_ixT hta (atI_nat (j := 0) rfl) ?_
            walk_at "go"
            refine g_newL (sz (by simp)) fun Tb Hb Tb0 sb hTb => ?_
            have lib := li.same sb
            have htb := sb _ _ hta
            clear li
            have li := lib
            clear lib
            refine ⟨Tb, _, rfl, .inl (SqL.of hTb), rfl, rfl, ?_⟩
            walk_at "go"
            refine ifBN (by decide +kernel) ?_
            walk_at "go"
            walk_at "go"
            refine g_ixT htb (atI_nat (j := 0) rfl) ?_
            walk_at "go"
            refine ifN (by decide +kernel) ?_
            walk_at "go"
            exact ⟨W1, _, _, rfl, li⟩

          | back dd m =>
            have ht2 : H'' t = some (.tup [.str "back", .int dd, .int m]) := ht1
            walk_at "go"
            walk_at "go"
            refine g_mark ?_
            walk_at "go"
            refine g_ixT ht2 (atI_nat (j := 0) rfl) ?_
            walk_at "go"
            refine g_newL (sz (by simp)) fun Ta Ha Ta0 sa hTa => ?_
            have lia := li.same sa
            have hta := sa _ _ ht2
            clear li
            have li := lia
            clear lia
            refine ⟨Ta, _, rfl, .inl (SqL.of hTa), rfl, rfl, ?_⟩
            walk_at "go"
            refine ifBN (by decide +kernel) ?_
            walk_at "go"
            walk_at "go"
            refine g_mark ?_
            walk_at "go"
            refine g_ixT hta (atI_nat (j := 0) rfl) ?_
            walk_at "go"
            refine ifN (by decide +kernel) ?_
            walk_at "go"
            walk_at "go"
            refine g_mark ?_
            walk_at "go"
            refine g_ixT hta (atI_nat (j := 0) rfl) ?_
            walk_at "go"
            refine g_newL (sz (by simp)) fun Tb Hb Tb0 sb hTb => ?_
            have lib := li.same sb
            have htb := sb _ _ hta
            clear li
            have li := lib
            clear lib
            refine ⟨Tb, _, rfl, .inl (SqL.of hTb), rfl, rfl, ?_⟩
            walk_at "go"
            refine ifBN (by decide +kernel) ?_
            walk_at "go"
            walk_at "go"
            refine g_ixT htb (atI_nat (j := 0) rfl) ?_
            walk_at "go"
            refine ifY rfl ?_
            walk_at "go"
            refine g_ixT htb (atI_nat (j := 2) rfl) ?_
            walk_at "go"
            have en : m = ((m.toNat : Nat) : Int) := by have : 0 ≤ m := de.2.2; omega
            rw [en]
            refine g_slTo1 li.eW fun W2 H3 W20 s3' hW2 => ?_
            walk_at "go"
            have l3 := li.same s3'
            exact ⟨W2, _, _, rfl, l3.s, ⟨li.n.1, li.n.2.1, li.s.free W20⟩, ⟨li.d.1, ne_of_none li.eR W20, fun z => by
              obtain ⟨ys, e2, _⟩ := li.eS
              rw [z, W20] at e2
              cases e2⟩, l3.eR, l3.eS, by rw [hW2, ← List.map_take]; rfl⟩

          | keep dd m =>
            have ht2 : H'' t = some (.tup [.str "keep", .int dd, .int m]) := ht1
            walk_at "go"
            walk_at "go"
            refine g_mark ?_
            walk_at "go"
            refine g_ixT ht2 (atI_nat (j := 0) rfl) ?_
            walk_at "go"
            refine g_newL (sz (by simp)) fun Ta Ha Ta0 sa hTa => ?_
            have lia := li.same sa
            have hta := sa _ _ ht2
            clear li
            have li := lia
            clear lia
            refine ⟨Ta, _, rfl, .inl (SqL.of hTa), rfl, rfl, ?_⟩
            walk_at "go"
            refine ifBN (by decide +kernel) ?_
            walk_at "go"
            walk_at "go"
            refine g_mark ?_
            walk_at "go"
            refine g_ixT hta (atI_nat (j := 0) rfl) ?_
            walk_at "go"
            refine ifN (by decide +kernel) ?_
            walk_at "go"
            walk_at "go"
            refine g_mark ?_
            walk_at "go"
            refine g_ixT hta (atI_nat (j := 0) rfl) ?_
            walk_at "go"
            refine g_newL (sz (by simp)) fun Tb Hb Tb0 sb hTb => ?_
            have lib := li.same sb
            have htb := sb _ _ hta
            clear li
            have li := lib
            clear lib
            refine ⟨Tb, _, rfl, .inl (SqL.of hTb), rfl, rfl, ?_⟩
            walk_at "go"
            refine ifBN (by decide +kernel) ?_
            walk_at "go"
            walk_at "go"
            refine g_ixT htb (atI_nat (j := 0) rfl) ?_
            walk_at "go"
            refine ifN (by decide +kernel) ?_
            walk_at "go"
            exact ⟨W1, _, _, rfl, li⟩

          | undo dd =>
            have ht2 : H'' t = some (.tup [.str "undo", .int dd]) := ht1
            walk_at "go"
            walk_at "go"
            refine g_mark ?_
            walk_at "go"
            refine g_ixT ht2 (atI_nat (j := 0) rfl) ?_
            walk_at "go"
            refine g_newL (sz (by simp)) fun Ta Ha Ta0 sa hTa => ?_
            have lia := li.same sa
            have hta := sa _ _ ht2
            clear li
            have li := lia
            clear lia
            refine ⟨Ta, _, rfl, .inl (SqL.of hTa), rfl, rfl, ?_⟩
            walk_at "go"
            refine ifBN (by decide +kernel) ?_
            walk_at "go"
            walk_at "go"
            refine g_mark ?_
            walk_at "go"
            refine g_ixT hta (atI_nat (j := 0) rfl) ?_
            walk_at "go"
            refine ifN (by decide +kernel) ?_
            walk_at "go"
            walk_at "go"
            refine g_mark ?_
            walk_at "go"
            refine g_ixT hta (atI_nat (j := 0) rfl) ?_
            walk_at "go"
            refine g_newL (sz (by simp)) fun Tb Hb Tb0 sb hTb => ?_
            have lib := li.same sb
            have htb := sb _ _ hta
            clear li
            have li := lib
            clear lib
            refine ⟨Tb, _, rfl, .inl (SqL.of hTb), rfl, rfl, ?_⟩
            walk_at "go"
            refine ifBN (by decide +kernel) ?_
            walk_at "go"
            walk_at "go"
            refine g_ixT htb (atI_nat (j := 0) rfl) ?_
            walk_at "go"
            refine ifN (by decide +kernel) ?_
            walk_at "go"
            exact ⟨W1, _, _, rfl, li⟩

          | fall m => exact de.2.2.elim
          | @raised m rs v hv => exact de.2.2.elim

          · rintro σ' H'' ⟨W1, x4, x6, rfl, li⟩
            rw [wl, List.take_length, tgo] at li
            walk_at "go"
            have rb := rbs _ (Nat.le_refl _)
            rw [List.take_length, tgo] at rb
            have b1 := rb.la
            have b2 := rb.ls
            have b3 := rb.lw
            refine g_ixT (li.s _ _ hT5) (atI_nat (j := 2) rfl) ?_
            walk_at "go"
            refine g_sortSs (SqL.of li.eR) (by omega) fun A1 G1 A10 t1 hA1 => ?_
            have l1 := li.same t1
            obtain ⟨ys, e2, p2⟩ := l1.eS
            walk_at "go"
            refine g_sortSl (SqL.of e2) p2 (by omega) fun B1 G2 zs B10 t2 hB1 pz => ?_
            have l2 := l1.same t2
            walk_at "go"
            refine g_setX (SqL.of l2.eW) (by omega) fun X G3 X0 t3 hX => ?_
            walk_at "go"
            refine g_sortX hX (nd_setL _) (by have := len_setL r.wr; omega) fun C G4 C0 t4 hC => ?_
            walk_at "go"
            refine g_newT (sz (by simp)) fun TT G5 TT0 t5 hTT => ?_
            have t25 : Same G2 G5 := t3.trans (t4.trans t5)
            have t35 : Same G3 G5 := t4.trans t5
            refine q ⟨TT, A1, B1, C⟩ G5 (s05.trans (li.s.trans (t1.trans (t2.trans t25)))) ⟨hTT, t25 _ _ (t2 _ _ hA1), ⟨zs, t25 _ _ hB1, SpAt.frame (fun x xs z => t25 _ _ z) pz⟩, t5 _ _ hC⟩ fun x hx => ?_
            have fr : ∀ {x : Addr}, H'' x = none → H x = none := fun h => s05.free (li.s.free h)
            simp only [Quad.ls, List.mem_cons, List.not_mem_nil, or_false] at hx
            rcases hx with rfl | rfl | rfl
            · exact fr A10
            · exact fr (t1.free B10)
            · exact fr (t1.free (t2.free (t3.free C0)))

theorem sc__law_due : FnScope ["events", "found", "at"] ["events"] (defScope s__law_due) := ⟨rfl, rfl, rfl, by decide +kernel, rfl, by decide +kernel, by decide +kernel⟩
theorem ok__law_due {f : Addr} {fd : FuncData} (F : FunD K "_law_due" "_law_due" (defArgs s__law_due) (defBody s__law_due) (defScope s__law_due) [] [] f fd) (gm : mg "_law_due" = some (.ref f)) (B : Bas mg) (c__law_dealing : Cal P w K mg base CX0 1 "_law_dealing" ["ahead", "keep"] spDealing) : Cal P w K mg base CX0 2 "_law_due" ["events"] spDue := by
  refine ⟨f, fd, F.ok sc__law_due (fun vs H Q E h => ?_) (fun cdv A outer s H vs Q E hr h => ⟨_, PSs.nox (pss_cons (ps_set (i := 1) sc__law_due.nd rfl (by first | exact Or.inl rfl | exact Or.inr rfl) (pe_lst pa_nil))
  (pss_cons (ps_for PassesOwn.never rfl (pi_range1 rfl B.range (pa_cons (pe_callB call_lenQ (by rfl) B.len PySem.boot_len (pa_cons (pv 0) pa_nil)) pa_nil)) (pg_name (i := 2) sc__law_due.nd rfl (by first | exact Or.inl rfl | exact Or.inr rfl))
    (pss_one (ps_if (pt_cmpR op_eq (pe_ix (ix_tK K rfl) (pe_ix (ix_lK K rfl) (pv 0) (pv 2) (fun _ _ => rfl)) pe_int (fun _ _ => rfl)) pe_str (nomark _)) (pss_one (ps_expr (pe_bm PySem.F.plainAttrs_list PySem.F.slot_list_append PySem.F.type_list_append mt_append (pv 1) (pa_cons (pe_cal c__law_dealing (hr.mono (by decide)) rfl pass0 (pa_cons (pe_slice sl_list (pv 0) po_none (po_some (pv 2))) (pa_cons (pe_ix (ix_lK K rfl) (pv 0) (pv 2) (fun _ _ => rfl)) pa_nil))) pa_nil))))
      pss_nil)))
  (pss_one (ps_ret (pv 1))))), ?_⟩), gm, F.kp, F.bindsN fun _ _ _ _ _ _ us hl => match us, hl with | [_], _ => rfl⟩
  · obtain ⟨F0, us, es, rfl, _⟩ := h; rfl
  · obtain ⟨F0, us, es, rfl, h0, pe, gd, dt, el, q⟩ := h
    walk_at "go"
    refine g_newL sz0 fun F H1 F00 s1 hF => ?_
    walk_at "go"
    have ul : us.length = es.length := Paired.len pe
    have h1 := s1 _ _ h0
    walk_at "go"
    refine forR1_by (n := es.length) (by rw [ul]) (by omega) (fun i σ' H' => (∃ x2, σ' = [some (.ref F0), some (.ref F), x2]) ∧ Same H H' ∧ ∃ qs : List Quad, H' F = some (.lst (qs.map fun q => .ref q.t)) ∧ Paired (RowQ H') qs (accs (es.take i)).rows ∧ qs.length ≤ i ∧ F ∉ qs.flatMap Quad.ls) ⟨⟨_, rfl⟩, s1, [], hF, .nil, Nat.le_refl _, fun z => (List.not_mem_nil z).elim⟩ ?_ ?_
    · rintro i σ' H' hi ⟨⟨x2, rfl⟩, s2, qs, hF2, pq, lq, nF⟩
      have hiu : i < us.length := by omega
      have hx : us[i]? = some us[i] := List.getElem?_eq_getElem hiu
      obtain ⟨e, he, ea⟩ := Paired.at' pe hx
      have ga := gd i e he
      have h2 := s2 _ _ h0
      rw [take_snoc he, accs_snoc]
      obtain ⟨t, vs, ev, ht, re⟩ := ea
      rw [ev] at hx
      have ht2 := s2 _ _ ht
      walk_at "go"
      refine g_ixL h2 (atI_nat hx) ?_
      walk_at "go"
      refine g_ixT ht2 (atI_nat (j := 0) rfl) ?_
      walk_at "go"
      rw [← word_keep]
      have nk : isK e = false → ((accs (es.take i)).step e).rows = (accs (es.take i)).rows := fun h => by
        cases e with
        | keep d n => cases h
        | _ => rfl
      cases hk : isK e with
      | false =>
        refine ifBN rfl ?_
        walk_at "go"
        exact ⟨⟨_, rfl⟩, s2, qs, hF2, by rw [nk hk]; exact pq, Nat.le_succ_of_le lq, nF⟩
      | true =>
        refine ifBY rfl ?_
        cases re with
        | keep d n =>
          obtain ⟨r, hr⟩ : ∃ r, (accs (es.take i)).f d = some r := by
            cases h : (accs (es.take i)).f d with
            | some r => exact ⟨r, rfl⟩
            | none => exact absurd h ga
          have pe2 : Paired (EvAt H') (us.take i) (es.take i) := take_paired (Paired.imp (fun _ _ z => z.grow s2) pe) i
          have fr : ∀ x o, x ≠ F → ∀ H3 H4, Same H' H3 → Chg F H3 H4 → H' x = some o → H4 x = some o := fun x o hx H3 H4 s k e => k.fr _ _ hx (s _ _ e)
          walk_at "go"
          refine g_slTo1 h2 fun L1 H3 L10 s3 hL1 => ?_
          walk_at "go"
          refine g_ixL (s3 _ _ h2) (atI_nat hx) ?_
          walk_at "go"
          refine ⟨L1, t, us.take i, es.take i, d, n, r, rfl, hL1, Paired.imp (fun _ _ z => z.grow s3) pe2, s3 _ _ ht2, fun x hx => dt x (List.mem_of_mem_take hx), by rw [List.length_take]; omega, (gd.take i).tells hr, fun qn H4 s4 rq q0 => ?_⟩
          have hF4 := s4 _ _ (s3 _ _ hF2)
          walk_at "go"
          refine g_app1 hF4 (by rw [List.length_map, sizeLine_eq]; omega) fun H5 F5 k5 => ?_
          walk_at "go"
          have s24 : Same H' H4 := s3.trans s4
          have nF2 : F ∉ (qs ++ [qn]).flatMap Quad.ls := fun z => by
            rw [List.flatMap_append] at z
            rcases List.mem_append.mp z with z | z
            · exact nF z
            · have z : F ∈ qn.ls := by simpa using z
              have := q0 F z
              rw [s3 _ _ hF2] at this
              cases this
          have pq2 : Paired (RowQ H4) (qs ++ [qn]) ((accs (es.take i)).rows ++ [rowM d n r]) := Paired.app (Paired.imp (fun _ _ z => z.same s24) pq) (.cons rq .nil)
          refine ⟨⟨_, rfl⟩, fun b o eb => k5.fr _ _ (ne_of_none eb F00) (s24 _ _ (s2 _ _ eb)), qs ++ [qn], by rw [F5, List.map_append]; rfl, ?_, by rw [List.length_append, List.length_singleton]; omega, nF2⟩
          show Paired (RowQ H5) _ ((accs (es.take i)).rows ++ [rowM d n (rcOf ((accs (es.take i)).f d))])
          rw [hr]
          exact rows_frame pq2 (fun x xs e => k5.fr _ _ (ne_of e hF4 fun z => nomatch z) e) fun x hx xs e => k5.fr _ _ (fun z => nF2 (z ▸ hx)) e
        | _ => cases hk
    · rintro σ' H' ⟨⟨x2, rfl⟩, s2, qs, hF2, pq, lq, nF⟩
      rw [List.take_length] at pq
      walk_at "go"
      exact q F qs H' s2 hF2 pq F00 lq
end
end Hs

set_option maxHeartbeats 4000000
namespace Hs
open PySem PySem.Spec PyProof.Rows L2 Sk
section
variable {P : Program} {w : World} {K : PySem.W.Frag} {mg : Str → Option Value} {base : Heap} {CW CD : Addr}
theorem good_of : ∀ (es : List Ev) (s : St) (i : Nat) (a : Ac), judge s i es = none → (∀ x ∈ s.op, a.f x.1 ≠ none) → (∀ e ∈ es, EvF 0 e) → ∀ k e, es[k]? = some e → GoodAt ((es.take k).foldl Ac.step a) e
  | [], s, i, a, _, _, _, k, e, h => by simp at h
  | x :: es, s, i, a, hj, inv, nf, k, e, h => by
    have c : s.can i x := by
      rw [judge] at hj
      split at hj
      · assumption
      · cases hj
    rw [judge_go c] at hj
    have fx := nf x List.mem_cons_self (Int.le_refl 0)
    have fnd : ∀ {d : Int} {st : Int} {own : Wr}, s.find d = some (st, own) → a.f d ≠ none := fun h => inv _ (find_mem h)
    cases k with
    | zero =>
      have e1 : x = e := Option.some.inj h
      subst e1
      cases x with
      | begin d => exact True.intro
      | read d k w => obtain ⟨st, own, f, _⟩ := c; exact fnd f
      | scan d lo hi rows => obtain ⟨st, own, f, _⟩ := c; exact fnd f
      | put d k w => obtain ⟨st, own, f, _⟩ := c; exact fnd f
      | drop d k => obtain ⟨st, own, f, _⟩ := c; exact fnd f
      | mark d n => obtain ⟨st, own, f, _⟩ := c; exact fnd f
      | back d n => obtain ⟨st, own, f, z, _⟩ := c; exact ⟨z, fnd f⟩
      | keep d n => obtain ⟨st, own, f, _⟩ := c; exact fnd f
      | undo d => obtain ⟨st, own, f⟩ := c; exact fnd f
      | fall n => exact (fx.1 n rfl).elim
      | raised n rows => exact (fx.2 n rows rfl).elim
    | succ k =>
      rw [List.getElem?_cons_succ] at h
      rw [List.take_succ_cons, List.foldl_cons]
      refine good_of es (s.does x) (i + 1) (a.step x) hj ?_ (fun e he => nf e (List.mem_cons_of_mem _ he)) k e h
      have setI : ∀ d f, ∀ y ∈ setOp s.op d f, a.f y.1 ≠ none := fun d f y hy => by
        obtain ⟨z, hz, e1, _⟩ := setOp_mem hy
        rw [e1]; exact inv z hz
      have dropI : ∀ d, ∀ y ∈ dropOp s.op d, a.f y.1 ≠ none := fun d y hy => inv y (List.mem_filter.mp hy).1
      have setN : ∀ (d : Int) (r : Rc) (y : Int), a.f y ≠ none → setF a.f d r y ≠ none := fun d r y hy => by
        by_cases c : y = d
        · rw [c, setF_same]; simp
        · rw [setF_ne c]; exact hy
      cases x with
      | begin d =>
        intro y hy
        show setF a.f d _ y.1 ≠ none
        rcases List.mem_append.mp hy with z | z
        · exact setN _ _ _ (inv y z)
        · rw [List.mem_singleton.mp z, setF_same]; simp
      | read d k w => exact fun y hy => setN _ _ _ (inv y hy)
      | scan d lo hi rows => exact fun y hy => setN _ _ _ (inv y hy)
      | put d k w => exact fun y hy => setN _ _ _ (setI d (fun wr => wr ++ [(k, some w)]) y hy)
      | drop d k => exact fun y hy => setN _ _ _ (setI d (fun wr => wr ++ [(k, none)]) y hy)
      | mark d n => exact inv
      | back d n => exact fun y hy => setN _ _ _ (setI d (fun wr => wr.take n.toNat) y hy)
      | keep d n => exact dropI d
      | undo d => exact dropI d
      | fall n => exact (fx.1 n rfl).elim
      | raised n rows => exact (fx.2 n rows rfl).elim
theorem good_hist {es : List Ev} (hj : judge St.new 0 es = none) (nf : ∀ e ∈ es, EvF 0 e) : Good es := fun k e h => good_of es St.new 0 Ac.new hj (fun _ z => (List.not_mem_nil z).elim) nf k e h
/-! ### what the rows are -/
structure RowOk (r : Row) (n : Nat) : Prop where
  la : r.ask.length ≤ n
  ls : r.sp.length ≤ n
  lw : r.wr.length ≤ n
  ka : ∀ k ∈ r.ask, PyData.strOk k = true
  ks : ∀ p ∈ r.sp, PyData.strOk p.1 = true ∧ PyData.strOk p.2 = true
  kw : ∀ k ∈ r.wr, PyData.strOk k = true
structure RcK (r : Rc) (i : Nat) : Prop where
  b : RcB r i
  ka : ∀ k ∈ r.ask, PyData.strOk k = true
  kw : ∀ k ∈ r.wr, PyData.strOk k = true
theorem RcK.go {r : Rc} {i : Nat} (b : RcK r i) {e : Ev} (h : EvDt e) : RcK (r.go e) (i + 1) := by
  have ad : ∀ k : Str, PyData.strOk k = true → ∀ x ∈ addS r.ask k, PyData.strOk x = true := fun k hk x hx => by
    unfold addS at hx
    split at hx
    · exact b.ka x hx
    · rcases List.mem_append.mp hx with z | z
      · exact b.ka x z
      · rw [List.mem_singleton.mp z]; exact hk
  have aw : ∀ k : Str, PyData.strOk k = true → ∀ x ∈ r.wr ++ [k], PyData.strOk x = true := fun k hk x hx => by
    rcases List.mem_append.mp hx with z | z
    · exact b.kw x z
    · rw [List.mem_singleton.mp z]; exact hk
  refine ⟨b.b.go h, ?_, ?_⟩
  · cases e with
    | read d k w => exact ad k h.1
    | put d k w => exact ad k h.2.1
    | drop d k => exact ad k h.2.1
    | _ => exact b.ka
  · cases e with
    | put d k w => exact aw k h.2.1
    | drop d k => exact aw k h.2.1
    | back d n => exact fun x hx => b.kw x (List.mem_of_mem_take hx)
    | _ => exact b.kw
theorem RcK.mono {r : Rc} {i j : Nat} (b : RcK r i) (h : i ≤ j) : RcK r j := ⟨⟨Nat.le_trans b.b.la h, Nat.le_trans b.b.ls h, Nat.le_trans b.b.lw h, b.b.ok⟩, b.ka, b.kw⟩
theorem RcK.row {r : Rc} {i : Nat} (b : RcK r i) (d p : Int) : RowOk (rowM d p r) i := by
  refine ⟨?_, ?_, ?_, fun k hk => ?_, fun k hk => ?_, fun k hk => ?_⟩
  · show (r.ask.mergeSort strLe).length ≤ i
    rw [List.length_mergeSort]; exact b.b.la
  · show (r.sp.mergeSort spLe).length ≤ i
    rw [List.length_mergeSort]; exact b.b.ls
  · show ((setL r.wr).mergeSort strLe).length ≤ i
    rw [List.length_mergeSort]; exact Nat.le_trans (len_setL _) b.b.lw
  · exact b.ka k (List.mem_mergeSort.mp hk)
  · exact b.b.ok k (List.mem_mergeSort.mp hk)
  · exact b.kw k ((mem_setL _ _).mp (List.mem_mergeSort.mp hk))
theorem RowOk.mono {r : Row} {i j : Nat} (b : RowOk r i) (h : i ≤ j) : RowOk r j := ⟨Nat.le_trans b.la h, Nat.le_trans b.ls h, Nat.le_trans b.lw h, b.ka, b.ks, b.kw⟩
structure AcOk (a : Ac) (i : Nat) : Prop where
  f : ∀ d r, a.f d = some r → RcK r i
  rows : ∀ r ∈ a.rows, RowOk r i
theorem AcOk.step {a : Ac} {i : Nat} (h : AcOk a i) {e : Ev} (de : EvDt e) : AcOk (a.step e) (i + 1) := by
  have h0 : RcK ⟨0, [], [], []⟩ i := ⟨⟨Nat.zero_le _, Nat.zero_le _, Nat.zero_le _, fun _ z => (List.not_mem_nil z).elim⟩, fun _ z => (List.not_mem_nil z).elim, fun _ z => (List.not_mem_nil z).elim⟩
  have rc : ∀ d, RcK (rcOf (a.f d)) i := fun d => by
    cases q : a.f d with
    | none => exact h0
    | some r => exact h.f d r q
  have up : AcOk a (i + 1) := ⟨fun d r q => (h.f d r q).mono (Nat.le_succ _), fun r hr => (h.rows r hr).mono (Nat.le_succ _)⟩
  have st : ∀ (d : Int) (r : Rc), RcK r (i + 1) → AcOk { a with f := setF a.f d r } (i + 1) := fun d r hr => ⟨fun x r' q => by
    have q : setF a.f d r x = some r' := q
    by_cases c : x = d
    · rw [c, setF_same] at q
      rw [← Option.some.inj q]; exact hr
    · rw [setF_ne c] at q
      exact up.f x r' q, up.rows⟩
  cases e with
  | begin d => exact st d _ ⟨⟨Nat.zero_le _, Nat.zero_le _, Nat.zero_le _, fun _ z => (List.not_mem_nil z).elim⟩, fun _ z => (List.not_mem_nil z).elim, fun _ z => (List.not_mem_nil z).elim⟩
  | keep d p =>
    refine ⟨up.f, fun r hr => ?_⟩
    rcases List.mem_append.mp hr with z | z
    · exact up.rows r z
    · rw [List.mem_singleton.mp z]
      exact ((rc d).mono (Nat.le_succ _)).row d p
  | mark d n => exact up
  | undo d => exact up
  | fall n => exact up
  | raised n rows => exact up
  | read d k w => exact st d _ ((rc d).go de)
  | scan d lo hi rows => exact st d _ ((rc d).go de)
  | put d k w => exact st d _ ((rc d).go de)
  | drop d k => exact st d _ ((rc d).go de)
  | back d n => exact st d _ ((rc d).go de)
theorem ac_ok : ∀ (es : List Ev) (a : Ac) (i : Nat), AcOk a i → (∀ e ∈ es, EvDt e) → AcOk (es.foldl Ac.step a) (i + es.length)
  | [], a, i, h, _ => h
  | e :: es, a, i, h, d => by
    have := ac_ok es (a.step e) (i + 1) (h.step (d e List.mem_cons_self)) fun x hx => d x (List.mem_cons_of_mem _ hx)
    rw [List.length_cons, show i + (es.length + 1) = i + 1 + es.length by omega]
    exact this
theorem rows_ok {es : List Ev} (d : ∀ e ∈ es, EvDt e) : ∀ r ∈ (accs es).rows, RowOk r es.length := by
  have := ac_ok es Ac.new 0 ⟨(fun _ _ z => by cases z), fun _ z => (List.not_mem_nil z).elim⟩ d
  rw [Nat.zero_add] at this
  exact this.rows
/-! ### rows as data -/
def rowD (r : Row) : PyData := .tuple [.int r.d, .int r.st, .int r.p, .list (r.ask.map .str), .list (r.sp.map spD), .list (r.wr.map .str)]
theorem strs_dp {K : PySem.W.Frag} {H : Hp} : ∀ l : List Str, DpAll K H (l.map V.str) (l.map .str)
  | [] => .nil
  | x :: l => .cons (.str x) (strs_dp l)
theorem rowDp {K : PySem.W.Frag} {H : Hp} {q : Quad} {r : Row} (h : RowQ H q r) : Dp K H (.ref q.t) (rowD r) := by
  obtain ⟨ys, e, p⟩ := h.eb
  exact .tup (SqT.of h.et) (.cons (.int _) (.cons (.int _) (.cons (.int _) (.cons (.lst (SqL.of h.ea) (strs_dp _)) (.cons (.lst (SqL.of e) (sp_dp p)) (.cons (.lst (SqL.of h.ec) (strs_dp _)) .nil))))))
theorem rowsDp2 {K : PySem.W.Frag} {H : Hp} : ∀ {qs : List Quad} {rows : List Row}, Paired (RowQ H) qs rows → DpAll K H (qs.map fun q => V.ref q.t) (rows.map rowD)
  | _, _, .nil => .nil
  | _, _, .cons h t => .cons (rowDp h) (rowsDp2 t)
theorem strs_eqv : ∀ l : List Str, PyData.eqvAll (l.map .str) (l.map .str) = true
  | [] => rfl
  | x :: l => by
    show (PyData.eqv (.str x) (.str x) && PyData.eqvAll (l.map .str) (l.map .str)) = true
    rw [strs_eqv l]
    simp [PyData.eqv]
theorem sps_eqv : ∀ l : List Sp2, PyData.eqvAll (l.map spD) (l.map spD) = true
  | [] => rfl
  | x :: l => by
    show (PyData.eqv (spD x) (spD x) && PyData.eqvAll (l.map spD) (l.map spD)) = true
    rw [sps_eqv l, eqv_spD]
    simp
theorem rowD_eqv (r : Row) : PyData.eqv (rowD r) (rowD r) = true := by
  have a := strs_eqv r.ask
  have b := sps_eqv r.sp
  have c := strs_eqv r.wr
  simp [rowD, PyData.eqv, PyData.eqvAll, a, b, c]
theorem rowsD_eqv2 : ∀ l : List Row, PyData.eqv (.list (l.map rowD)) (.list (l.map rowD)) = true := fun l => by
  have gen : ∀ l : List Row, PyData.eqvAll (l.map rowD) (l.map rowD) = true := by
    intro l
    induction l with
    | nil => rfl
    | cons r l ih =>
      show (PyData.eqv (rowD r) (rowD r) && PyData.eqvAll (l.map rowD) (l.map rowD)) = true
      rw [rowD_eqv, ih]
      rfl
  exact gen l
theorem strs_lay : ∀ l : List Str, (∀ k ∈ l, PyData.strOk k = true) → PyData.canLayAll0 (l.map .str) = true ∧ PyData.depthAll (l.map .str) = 0
  | [], _ => ⟨rfl, rfl⟩
  | x :: l, h => by
    obtain ⟨a, b⟩ := strs_lay l fun y hy => h y (List.mem_cons_of_mem _ hy)
    constructor
    · show (PyData.canLay0 (.str x) && PyData.canLayAll0 (l.map .str)) = true
      rw [a, show PyData.canLay0 (.str x) = true from h x List.mem_cons_self]
      rfl
    · show max (PyData.depth (.str x)) (PyData.depthAll (l.map .str)) = 0
      rw [b]
      rfl
theorem rowD_lay {r : Row} {n : Nat} (h : RowOk r n) : PyData.canLay0 (rowD r) = true ∧ PyData.depth (rowD r) ≤ 3 := by
  obtain ⟨a1, a2⟩ := strs_lay r.ask h.ka
  obtain ⟨b1, b2⟩ := sps_lay r.sp h.ks
  obtain ⟨c1, c2⟩ := strs_lay r.wr h.kw
  constructor
  · simp [rowD, PyData.canLay0, PyData.canLayAll0, a1, b1, c1]
  · simp only [rowD, PyData.depth, PyData.depthAll, a2, c2]
    omega
theorem rows_shaped {l : List Row} {n : Nat} (h : ∀ r ∈ l, RowOk r n) : SeqAt.shaped (.list (l.map rowD)) = true := by
  have gen : ∀ l : List Row, (∀ r ∈ l, RowOk r n) → PyData.canLayAll0 (l.map rowD) = true ∧ PyData.depthAll (l.map rowD) ≤ 3 := by
    intro l
    induction l with
    | nil => exact fun _ => ⟨rfl, Nat.zero_le _⟩
    | cons r l ih =>
      intro h
      obtain ⟨a1, a2⟩ := rowD_lay (h r List.mem_cons_self)
      obtain ⟨b1, b2⟩ := ih fun x hx => h x (List.mem_cons_of_mem _ hx)
      constructor
      · show (PyData.canLay0 (rowD r) && PyData.canLayAll0 (l.map rowD)) = true
        rw [a1, b1]; rfl
      · show max (PyData.depth (rowD r)) (PyData.depthAll (l.map rowD)) ≤ 3
        omega
  obtain ⟨a, b⟩ := gen l h
  show (PyData.canLayAll0 (l.map rowD) && decide (PyData.depthAll (l.map rowD) + 1 ≤ 64)) = true
  rw [a, Bool.true_and, decide_eq_true_eq]
  omega
end
end Hs

set_option maxHeartbeats 4000000
namespace Hs
open PySem PySem.Spec PyProof.Rows L2 Sk
section
variable {P : Program} {w : World} {K : PySem.W.Frag} {mg : Str → Option Value} {base : Heap} {CW CD : Addr}
/-! ### comprehensions over a tuple -/
def LcT (K : PySem.W.Frag) (g : TG) (tt : TT) (te : TE) (vs : List Nat) (σ : L2.St) (Q : VK) : V → Hp → Prop := fun x H1 => ∃ a, x = .ref a ∧ (∃ xs, SqT K H1 a xs) ∧ LcR (Itt K a) g tt te vs σ Q H1
theorem g_lcT {K : PySem.W.Frag} {σ : L2.St} {H : Hp} {Q : VK} {g : TG} {tt : TT} {te tl : TE} {vs : List Nat} (h : tl σ H fun x H1 => LcT K g tt te vs σ Q x H1) : tLc (iTup K tl) g tt te vs σ H Q := h
theorem lcT_map {K : PySem.W.Frag} {σ : L2.St} {H : Hp} {Q : VK} {g : TG} {tt : TT} {te : TE} {vs : List Nat} {a : Addr} {xs : List V} (hx : H a = some (.tup xs)) (f : V → V) (hz : xs.length < sizeLine)
    (hs : ∀ (i : Nat) x H', xs[i]? = some x → Same H H' → ∀ R : Option V → Hp → Prop, (∀ H'', Same H' H'' → R (some (f x)) H'') → LcBody g tt te vs σ x H' R)
    (hd : ∀ D H', H D = none → Same H H' → H' D = some (.lst (xs.map f)) → Q (.ref D) H') : LcT K g tt te vs σ Q (.ref a) H := by
  refine ⟨a, rfl, ⟨xs, SqT.of hx⟩, fun D hD => lc_tup (fun i H' => Same H H' ∧ H' D = some (.lst ((xs.take i).map f))) ⟨same_new hD, upd_same⟩ (fun i H' _ p => SqT.of (p.1 _ _ hx)) ?_ (fun H' p => hd D H' hD p.1 (by rw [p.2, List.take_length]))⟩
  rintro i x H' hi ⟨s1, e1⟩
  have hlt : i < xs.length := (List.getElem?_eq_some_iff.mp hi).1
  have et : xs.take (i + 1) = xs.take i ++ [x] := by rw [List.take_succ, hi]; rfl
  have hl : ((xs.take i).map f).length < sizeLine := Nat.lt_of_le_of_lt (by rw [List.length_map, List.length_take]; omega) hz
  exact hs i x H' hi s1 (fun r H4 => match r with
    | some y => ∃ acc, H4 D = some (.lst acc) ∧ acc.length < sizeLine ∧ (Same H (L2.upd H4 D (.lst (acc ++ [y]))) ∧ L2.upd H4 D (.lst (acc ++ [y])) D = some (.lst ((xs.take (i + 1)).map f)))
    | none => Same H H4 ∧ H4 D = some (.lst ((xs.take (i + 1)).map f))) fun H'' s2 => by
      refine ⟨_, s2 _ _ e1, hl, fun b o e => ?_, ?_⟩
      · rw [upd_ne (ne_of_none e hD)]
        exact s2 _ _ (s1 _ _ e)
      · rw [upd_same, et, List.map_append]
        rfl
/-! ### ints in lists -/
theorem ints_dp {K : PySem.W.Frag} {H : Hp} : ∀ l : List Int, DpAll K H (l.map V.int) (l.map .int)
  | [] => .nil
  | x :: l => .cons (.int x) (ints_dp l)
theorem ints_eqv : ∀ l : List Int, PyData.eqv (.list (l.map .int)) (.list (l.map .int)) = true := fun l => by
  have gen : ∀ l : List Int, PyData.eqvAll (l.map .int) (l.map .int) = true := by
    intro l
    induction l with
    | nil => rfl
    | cons x l ih =>
      show (PyData.eqv (.int x) (.int x) && PyData.eqvAll (l.map .int) (l.map .int)) = true
      rw [ih]
      simp [PyData.eqv]
  exact gen l
theorem ints_shaped : ∀ l : List Int, SeqAt.shaped (.list (l.map .int)) = true := fun l => by
  have gen : ∀ l : List Int, PyData.canLayAll0 (l.map .int) = true ∧ PyData.depthAll (l.map .int) = 0 := by
    intro l
    induction l with
    | nil => exact ⟨rfl, rfl⟩
    | cons x l ih =>
      constructor
      · show (PyData.canLay0 (.int x) && PyData.canLayAll0 (l.map .int)) = true
        rw [ih.1]; rfl
      · show max (PyData.depth (.int x)) (PyData.depthAll (l.map .int)) = 0
        rw [ih.2]; rfl
  obtain ⟨a, b⟩ := gen l
  show (PyData.canLayAll0 (l.map .int) && decide (PyData.depthAll (l.map .int) + 1 ≤ 64)) = true
  rw [a, Bool.true_and, decide_eq_true_eq]
  omega
/-- the length of the list at x -/
def lenAt (H : Hp) (x : Addr) : Int := match H x with
  | some (.lst xs) => xs.length
  | _ => 0
theorem lenAt_of {H : Hp} {x : Addr} {xs : List V} (h : H x = some (.lst xs)) : lenAt H x = xs.length := by
  unfold lenAt
  rw [h]
def allL (R : Addr) (qs : List Quad) : List Addr := R :: qs.flatMap Quad.ls
theorem allL_len (R : Addr) : ∀ qs : List Quad, (allL R qs).length = 3 * qs.length + 1
  | [] => rfl
  | q :: qs => by
    have := allL_len R qs
    unfold allL at this ⊢
    rw [List.length_cons] at this ⊢
    rw [List.flatMap_cons, List.length_append, List.length_cons, show q.ls.length = 3 from rfl]
    omega
def spApart : Sp := fun vs H Q _ => ∃ (R : Addr) (qs : List Quad) (rows : List Row), vs = [.ref R] ∧ H R = some (.lst (qs.map fun q => .ref q.t)) ∧ Paired (RowQ H) qs rows ∧ (allL R qs).Nodup ∧ qs.length ≤ 900 ∧ (∀ r ∈ rows, RowOk r 900) ∧
  ∀ H', (∀ x o, x ∉ allL R qs → H x = some o → H' x = some o) → Q (.bl true) H'

theorem sc__law_apart : FnScope ["found", "rows", "row", "sizes"] ["found"] (defScope s__law_apart) := ⟨rfl, rfl, rfl, by decide +kernel, rfl, by decide +kernel, by decide +kernel⟩
theorem ok__law_apart {f : Addr} {fd : FuncData} (F : FunD K "_law_apart" "_law_apart" (defArgs s__law_apart) (defBody s__law_apart) (defScope s__law_apart) [] [] f fd) (gm : mg "_law_apart" = some (.ref f)) (B : Bas mg)  : Cal P w K mg base CX0 1 "_law_apart" ["found"] spApart := by
  refine ⟨f, fd, F.ok sc__law_apart (fun vs H Q E h => ?_) (fun cdv A outer s H vs Q E hr h => ⟨_, PSs.nox (pss_cons (ps_set (i := 1) sc__law_apart.nd rfl (by first | exact Or.inl rfl | exact Or.inr rfl) (pe_lst (pa_cons (pv 0) pa_nil)))
  (pss_cons (ps_for PassesOwn.never rfl (pi_list (pv 0)) (pg_name (i := 2) sc__law_apart.nd rfl (by first | exact Or.inl rfl | exact Or.inr rfl))
    (pss_one (ps_expr (pe_bm PySem.F.plainAttrs_list PySem.F.slot_list_extend PySem.F.type_list_extend mt_extendT (pv 1) (pa_cons (pe_slice sl_tupA (pv 2) (po_some pe_int) po_none) pa_nil)))))
  (pss_cons (ps_setLc (i := 3) (own := [("row", 2)]) rfl sc__law_apart.nd rfl rfl (sw_true rfl rfl rfl (by decide +kernel)) (pi_list (pv 1)) (blkOk_by (N := ["found", "rows", "row", "sizes"]) (sc := defScope s__law_apart) (by decide +kernel)) (fun _ _ _ _ _ => (pg_name (i := 2) sc__law_apart.nd rfl (by first | exact Or.inl rfl | exact Or.inr rfl))) (fun _ _ _ _ _ => pts_nil) (fun _ _ _ _ _ => (pe_callB (call_lenK K rfl) (by rfl) B.len PySem.boot_len (pa_cons (pv 2) pa_nil))))
  (pss_cons (ps_for PassesOwn.never rfl (pi_list (pv 1)) (pg_name (i := 2) sc__law_apart.nd rfl (by first | exact Or.inl rfl | exact Or.inr rfl))
    (pss_one (ps_expr (pe_bm PySem.F.plainAttrs_list PySem.F.slot_list_append PySem.F.type_list_append mt_append (pv 2) (pa_cons pe_str pa_nil)))))
  (pss_one (ps_ret (pe_cmpR (op_eqD hr.units) (pe_lc (own := [("row", 2)]) rfl sc__law_apart.nd (pi_list (pv 1)) (blkOk_by (N := ["found", "rows", "row", "sizes"]) (sc := defScope s__law_apart) (by decide +kernel)) (fun _ _ _ _ _ => (pg_name (i := 2) sc__law_apart.nd rfl (by first | exact Or.inl rfl | exact Or.inr rfl))) (fun _ _ _ _ _ => pts_nil) (fun _ _ _ _ _ => (pe_op op_sub (pe_callB (call_lenK K rfl) (by rfl) B.len PySem.boot_len (pa_cons (pv 2) pa_nil)) pe_int))) (pv 3) (nomark _)))))))), ?_⟩), gm, F.kp, F.bindsN fun _ _ _ _ _ _ us hl => match us, hl with | [_], _ => rfl⟩
  · obtain ⟨R, qs, rows, rfl, _⟩ := h; rfl
  · obtain ⟨R, qs, rows, rfl, hR, pq, nd, lq, rok, q⟩ := h
    have isL : ∀ x ∈ allL R qs, ∃ xs, H x = some (.lst xs) ∧ xs.length ≤ 900 := fun x hx => by
      rcases List.mem_cons.mp hx with e | e
      · rw [e]; exact ⟨_, hR, by rw [List.length_map]; exact lq⟩
      · obtain ⟨q, hq, hx⟩ := List.mem_flatMap.mp e
        obtain ⟨j, hj⟩ := List.getElem?_of_mem hq
        obtain ⟨r, hr', hr⟩ := Paired.at' pq hj
        have ro := rok r (List.mem_of_getElem? hr')
        obtain ⟨ys, e2, py⟩ := hr.eb
        simp only [Quad.ls, List.mem_cons, List.not_mem_nil, or_false] at hx
        rcases hx with rfl | rfl | rfl
        · exact ⟨_, hr.ea, by rw [List.length_map]; exact ro.la⟩
        · exact ⟨_, e2, by rw [Paired.len py]; exact ro.ls⟩
        · exact ⟨_, hr.ec, by rw [List.length_map]; exact ro.lw⟩
    have al := allL_len R qs
    walk_at "go"
    refine g_newL (sz (by simp)) fun W H1 W0 s1 hW => ?_
    walk_at "go"
    have WL : W ∉ allL R qs := fun z => by
      obtain ⟨xs, e, _⟩ := isL W z
      rw [W0] at e; cases e
    refine forL_by (SqL.of (s1 _ _ hR)) (fun i σ' H' => (∃ x2 x3, σ' = [some (.ref R), some (.ref W), x2, x3]) ∧ Same H H' ∧ H' W = some (.lst ((allL R (qs.take i)).map V.ref))) ⟨⟨_, _, rfl⟩, s1, hW⟩ (fun i σ' H' _ p => SqL.of (p.2.1 _ _ hR)) ?_ ?_
    · rintro i x σ' H' hx ⟨⟨x2, x3, rfl⟩, s2, hW2⟩
      rw [List.getElem?_map] at hx
      obtain ⟨qi, hqi, ex⟩ := Option.map_eq_some_iff.mp hx
      subst ex
      have hi : i < qs.length := (List.getElem?_eq_some_iff.mp hqi).1
      obtain ⟨r, hr', hr⟩ := Paired.at' pq hqi
      have ht := s2 _ _ hr.et
      have cut : cutV [V.int r.d, .int r.st, .int r.p, .ref qi.a, .ref qi.b, .ref qi.c] (some 3) none = [.ref qi.a, .ref qi.b, .ref qi.c] := rfl
      have sl0 : ¬ (HT.sIx [V.int r.d, .int r.st, .int r.p, .ref qi.a, .ref qi.b, .ref qi.c].length 0 (some 3) = 0 ∧ HT.sIx [V.int r.d, .int r.st, .int r.p, .ref qi.a, .ref qi.b, .ref qi.c].length [V.int r.d, .int r.st, .int r.p, .ref qi.a, .ref qi.b, .ref qi.c].length none = [V.int r.d, .int r.st, .int r.p, .ref qi.a, .ref qi.b, .ref qi.c].length) := fun z => absurd z.1 (show ¬ HT.sIx 6 0 (some 3) = 0 by decide)
      have at1 : allL R (qs.take (i + 1)) = allL R (qs.take i) ++ [qi.a, qi.b, qi.c] := by
        unfold allL
        rw [take_snoc hqi, List.flatMap_append]
        simp [Quad.ls]
      have tl : (allL R (qs.take i)).length = 3 * (qs.take i).length + 1 := allL_len R _
      rw [List.length_take] at tl
      walk_at "go"
      refine g_slA ht sl0 cut fun T H3 T0 s3 hT => ?_
      walk_at "go"
      refine ⟨W, T, _, _, rfl, rfl, s3 _ _ hW2, hT, by rw [List.length_map, tl, sizeLine_eq]; simp; omega, ?_⟩
      walk_at "go"
      refine ⟨⟨_, _, rfl⟩, fun b o eb => ?_, ?_⟩
      · rw [upd_ne (ne_of_none eb W0)]
        exact s3 _ _ (s2 _ _ eb)
      · rw [upd_same, at1, List.map_append]
        rfl
    · rintro σ' H' ⟨⟨x2, x3, rfl⟩, s2, hW2⟩
      rw [List.length_map, List.take_length] at hW2
      have bnd : ∀ x ∈ allL R qs, ∃ xs, H' x = some (.lst xs) ∧ xs.length ≤ 900 := fun x hx => by
        obtain ⟨xs, e, l⟩ := isL x hx
        exact ⟨xs, s2 _ _ e, l⟩
      generalize hL : allL R qs = L at nd al WL hW2 bnd q
      clear isL s1 hW pq rok hR
      walk_at "go"
      refine g_lcL ?_
      walk_at "go"
      refine lcL_to (SqL.of hW2) (L.map fun x => some (V.int (lenAt H' x))) (by rw [List.length_map, List.length_map]) (by rw [List.length_map, sizeLine_eq]; omega) ?_ ?_
      · intro i x y H3 hx hy s3 Rr k
        rw [List.getElem?_map] at hx hy
        obtain ⟨z, hz, ex⟩ := Option.map_eq_some_iff.mp hx
        rw [hz] at hy
        have ey : some (V.int (lenAt H' z)) = y := Option.some.inj hy
        subst ex ey
        obtain ⟨xs, e, l⟩ := bnd z (List.mem_of_getElem? hz)
        have e3 := s3 _ _ e
        rw [lenAt_of e] at k
        walk_at "go"
        refine ⟨rfl, ?_⟩
        walk_at "go"
        exact k _ (Same.refl _)
      · intro D H3 D0 s3 hD
        have fm : (L.map fun x => some (V.int (lenAt H' x))).filterMap id = (L.map fun x => lenAt H' x).map V.int := by
          rw [List.filterMap_map, List.map_map]
          exact congrFun List.filterMap_eq_map _
        rw [fm] at hD
        have DL : D ∉ L := fun z => by
          obtain ⟨xs, e, _⟩ := bnd D z
          rw [D0] at e; cases e
        have DW : D ≠ W := fun z => by rw [z, hW2] at D0; cases D0
        walk_at "go"
        refine forL_by (SqL.of (s3 _ _ hW2)) (fun i σ' H'' => (∃ x2, σ' = [some (.ref R), some (.ref W), x2, some (.ref D)]) ∧ (∀ x o, x ∉ L → H3 x = some o → H'' x = some o) ∧ ∀ x ∈ L, ∀ xs, H' x = some (.lst xs) → H'' x = some (.lst (xs ++ if x ∈ L.take i then [V.str "zz"] else []))) ⟨⟨_, rfl⟩, fun _ _ _ e => e, fun x hx xs e => by rw [s3 _ _ e]; simp⟩ (fun i σ' H'' _ p => SqL.of (p.2.1 _ _ WL (s3 _ _ hW2))) ?_ ?_
        · rintro i x σ' H'' hx ⟨⟨x2, rfl⟩, fr, hx2⟩
          rw [List.getElem?_map] at hx
          obtain ⟨z, hz, ex⟩ := Option.map_eq_some_iff.mp hx
          subst ex
          have zL := List.mem_of_getElem? hz
          have hi : i < L.length := (List.getElem?_eq_some_iff.mp hz).1
          obtain ⟨xs, e, l⟩ := bnd z zL
          have zn : z ∉ L.take i := fun m => by
            obtain ⟨j, hj⟩ := List.getElem?_of_mem m
            have hji : j < i := by
              have := (List.getElem?_eq_some_iff.mp hj).1
              rw [List.length_take] at this
              omega
            rw [List.getElem?_take_of_lt hji] at hj
            have := nd_ix nd hz hj
            omega
          have ez := hx2 z zL xs e
          rw [if_neg zn, List.append_nil] at ez
          walk_at "go"
          refine g_app1 ez (by rw [sizeLine_eq]; omega) fun H4 Z4 k4 => ?_
          walk_at "go"
          refine ⟨⟨_, rfl⟩, fun x o hx e => k4.fr _ _ (fun m => hx (m ▸ zL)) (fr x o hx e), fun x hx ys ey => ?_⟩
          rw [take_snoc hz]
          by_cases c : x = z
          · subst c
            rw [e] at ey
            have eq : xs = ys := by injection ey with ey; injection ey
            rw [Z4, if_pos (List.mem_append_right _ (List.mem_singleton.mpr rfl)), eq]
          · have := k4.fr _ _ c (hx2 x hx ys ey)
            rw [this]
            congr 3
            have : x ∈ L.take i ++ [z] ↔ x ∈ L.take i := by simp [c]
            simp only [this]
        · rintro σ' H'' ⟨⟨x2, rfl⟩, fr, hx2⟩
          rw [List.length_map] at hx2
          rw [List.take_length] at hx2
          have hW3 := fr _ _ WL (s3 _ _ hW2)
          have hD3 := fr _ _ DL hD
          walk_at "go"
          refine g_lcL ?_
          walk_at "go"
          refine lcL_to (SqL.of hW3) (L.map fun x => some (V.int (lenAt H' x))) (by rw [List.length_map, List.length_map]) (by rw [List.length_map, sizeLine_eq]; omega) ?_ ?_
          · intro i x y H5 hx hy s5 Rr k
            rw [List.getElem?_map] at hx hy
            obtain ⟨z, hz, ex⟩ := Option.map_eq_some_iff.mp hx
            rw [hz] at hy
            have ey : some (V.int (lenAt H' z)) = y := Option.some.inj hy
            subst ex ey
            have zL := List.mem_of_getElem? hz
            obtain ⟨xs, e, l⟩ := bnd z zL
            have e5 := s5 _ _ (hx2 z zL xs e)
            rw [if_pos zL] at e5
            rw [lenAt_of e] at k
            walk_at "go"
            refine ⟨rfl, ?_⟩
            walk_at "go"
            have el : (((xs ++ [V.str "zz"]).length : Nat) : Int) - 1 = (xs.length : Nat) := by
              rw [List.length_append, List.length_singleton]
              omega
            rw [el]
            exact k _ (Same.refl _)
          · intro E1 H6 E10 s6 hE
            rw [fm] at hE
            walk_at "go"
            refine ⟨.list ((L.map fun x => lenAt H' x).map .int), .list ((L.map fun x => lenAt H' x).map .int), .lst (SqL.of hE) (ints_dp _), .lst (SqL.of (s6 _ _ hD3)) (ints_dp _), ints_shaped _, ints_shaped _, ?_⟩
            rw [ints_eqv]
            exact q _ fun x o hx e => s6 _ _ (fr x o hx (s3 _ _ (s2 _ _ e)))
end
end Hs

set_option maxHeartbeats 4000000
namespace Hs
open PySem PySem.Spec PyProof.Rows L2 Sk
section
variable {P : Program} {w : World} {K : PySem.W.Frag} {mg : Str → Option Value} {base : Heap} {CW CD : Addr}
theorem _root_.Sk.Bas.tuple {mg : Str → Option Value} (B : Bas mg) : mg "tuple" = none := B.all _ (by simp)
theorem isi_tup {K : PySem.W.Frag} {H : Hp} {Q : VK} {a : Addr} {xs : List V} (h : H a = some (.tup xs)) (q : Q (.bl true) H) : rIsi K [.ref a, .ty "tuple"] H Q :=
  ⟨_, _, _, _, true, rfl, .ty _, .base (.tup h), kit_ty (r := true) (by decide +kernel), q⟩
def spLaw : Sp := fun vs H Q _ => ∃ (a : Addr) (ns : List Int), vs = [.ref a] ∧ SqL K H a (ns.map V.int) ∧ ns.length ≤ 63 ∧ ∀ H', Q (.bl true) H'

theorem sc_law : FnScope ["script", "keys", "events", "handed", "due", "found", "row", "number"] ["script"] (defScope s_law) := ⟨rfl, rfl, rfl, by decide +kernel, rfl, by decide +kernel, by decide +kernel⟩
theorem ok_law {f : Addr} {fd : FuncData} (F : FunD K "law" "law" (defArgs s_law) (defBody s_law) (defScope s_law) [] [] f fd) (B : Bas mg) (c__law_history : Cal P w K mg base CX0 5 "_law_history" ["cells", "first", "most", "falls"] (spHist (K := K))) (c__law_copied : Cal P w K mg base CX0 1 "_law_copied" ["events"] spCopied) (c__law_due : Cal P w K mg base CX0 2 "_law_due" ["events"] spDue) (c__law_apart : Cal P w K mg base CX0 1 "_law_apart" ["found"] spApart) (c_kept_dealings : Cal P w K mg base CX0 2 "kept_dealings" ["history"] (spDeals (K := K))) (k_kept_dealings : CalK P w K mg base CX0 2 "kept_dealings" ["history"] ["history"] (spDeals (K := K))) : FnOk P w K mg base CX0 7 f fd ["script"] (spLaw (K := K)) := by
  refine F.ok sc_law (fun vs H Q E h => ?_) (fun cdv A outer s H vs Q E hr h => ⟨_, PSs.nox (pss_cons (ps_asg (pe_cal c__law_history (hr.mono (by decide)) rfl pass0 (pa_cons (pv 0) (pa_cons pe_int (pa_cons pe_int (pa_cons pe_int pa_nil))))) (pg_tup rfl (pgs_cons (pg_name (i := 1) sc_law.nd rfl (by first | exact Or.inl rfl | exact Or.inr rfl)) (pgs_cons (pg_name (i := 2) sc_law.nd rfl (by first | exact Or.inl rfl | exact Or.inr rfl)) pgs_nil))))
  (pss_cons (ps_set (i := 3) sc_law.nd rfl (by first | exact Or.inl rfl | exact Or.inr rfl) (pe_cal c__law_copied (hr.mono (by decide)) rfl pass0 (pa_cons (pv 2) pa_nil)))
  (pss_cons (ps_set (i := 4) sc_law.nd rfl (by first | exact Or.inl rfl | exact Or.inr rfl) (pe_cal c__law_due (hr.mono (by decide)) rfl pass0 (pa_cons (pv 2) pa_nil)))
  (pss_cons (ps_set (i := 5) sc_law.nd rfl (by first | exact Or.inl rfl | exact Or.inr rfl) (pe_cal c_kept_dealings (hr.mono (by decide)) rfl pass0 (pa_cons (pv 3) pa_nil)))
  (pss_cons (ps_if (PW.pt (pw_or (pt_not (pt_val (pe_callB call_isi (by rfl) B.isi (by decide +kernel) (pa_cons (pv 5) (pa_cons (pe_bltn (v := .ty "list") rfl B.lst (by decide +kernel) rfl) pa_nil))))) (pw_or (pt_cmpR (op_neD hr.units) (pv 5) (pv 4) (nomark _)) (pw_or1 (pt_cmpR (op_neD hr.units) (pv 3) (pv 2) (nomark _)))))) (pss_one (ps_ret pe_bl))
    pss_nil)
  (pss_cons (ps_for PassesOwn.never rfl (pi_list (pv 5)) (pg_name (i := 6) sc_law.nd rfl (by first | exact Or.inl rfl | exact Or.inr rfl))
    (pss_one (ps_if (PW.pt (pw_or (pt_not (pt_val (pe_callB call_isi (by rfl) B.isi (by decide +kernel) (pa_cons (pv 6) (pa_cons (pe_bltn (v := .ty "tuple") rfl B.tuple (by decide +kernel) rfl) pa_nil))))) (pw_or1 (pt_val (pe_callB (cr_any rfl) (by rfl) B.any (by decide +kernel) (pa_cons (pe_lc (own := [("number", 7)]) rfl sc_law.nd (pi_tup (pe_slice sl_tupA (pv 6) po_none (po_some pe_int))) (blkOk_by (N := ["script", "keys", "events", "handed", "due", "found", "row", "number"]) (sc := defScope s_law) (by decide +kernel)) (fun _ _ _ _ _ => (pg_name (i := 7) sc_law.nd rfl (by first | exact Or.inl rfl | exact Or.inr rfl))) (fun _ _ _ _ _ => pts_nil) (fun _ _ _ _ _ => (pe_callB (call_isiK' K rfl) (by rfl) B.isi (by decide +kernel) (pa_cons (pv 7) (pa_cons (pe_bltn (v := .ty "bool") rfl B.bool (by decide +kernel) rfl) pa_nil))))) pa_nil)))))) (pss_one (ps_ret pe_bl))
      pss_nil)))
  (pss_cons (ps_if (PW.pt (pw_or (pt_not (pt_val (pe_cal c__law_apart (hr.mono (by decide)) rfl pass0 (pa_cons (pv 5) pa_nil)))) (pw_or1 (pt_cmpR (op_neD hr.units) (pe_cal c_kept_dealings (hr.mono (by decide)) rfl pass0 (pa_cons (pv 3) pa_nil)) (pv 4) (nomark _))))) (pss_one (ps_ret pe_bl))
    pss_nil)
  (pss_one (ps_ret (pe_and (pe_cmpR (op_eqD hr.units) (pe_calK0 k_kept_dealings (hr.mono (by decide)) rfl pass0 (pk_cons (pv 3) pk_nil)) (pv 4) (nomark _)) (pe_one (pe_cmpR (op_eqD hr.units) (pe_cal c_kept_dealings (hr.mono (by decide)) rfl pass0 (pa_cons (pe_lst pa_nil) pa_nil)) (pe_lst pa_nil) (nomark _))))))))))))), ?_⟩)
  · obtain ⟨a, ns, rfl, _⟩ := h; rfl
  · obtain ⟨a, ns, rfl, hS, nl, q⟩ := h
    walk_at "go"
    refine ⟨H, a, ns, 4, 100, 0, rfl, Same.refl _, hS, nl, by omega, by omega, by omega, by omega, fun names es us G H5 T L F gr hk tx nne hT hL hF F0 pe eo el e1 ej => ?_⟩
    refine g_gTup (SqT.of hT) rfl ?_
    walk_at "go"
    refine ⟨G, F, us, es, rfl, gr.gh, hF, pe, by omega, fun F' us' G6 H6 gr6 F'0 hF' pe' => ?_⟩
    have hF6 := gr6.same _ _ hF
    have pe6 : Paired (EvAt H6) us es := Paired.imp (fun _ _ z => EvAt.grow gr6.gh (EvAt.grow gr6.gg z)) pe
    have hF'6 := gr6.gh _ _ hF'
    have pe'6 : Paired (EvAt H6) us' es := Paired.imp (fun _ _ z => EvAt.grow gr6.gh z) pe'
    have shp : SeqAt.shaped (.list (es.map evD)) = true := evsD_shaped fun e he => ⟨(eo e he).2.1.st, (eo e he).1.rows hk⟩
    have gd : Good es := good_hist ej fun e he => (eo e he).2.2
    have dt : ∀ e ∈ es, EvDt e := fun e he => ⟨(eo e he).2.1.st, (eo e he).1.rows hk, gd.go e he⟩
    have rok := rows_ok dt
    clear gr gr6 hT hL hF pe pe' F'0 F0 hF' eo ej tx nne hk
    walk_at "go"
    refine ⟨F, us, es, rfl, hF6, pe6, gd, dt, by omega, fun D qd H7 s7 hD pd D0 ld => ?_⟩
    have hF7 := s7 _ _ hF6
    have hF'7 := s7 _ _ hF'6
    have pe7 : Paired (EvAt H7) us es := Paired.imp (fun _ _ z => EvAt.grow s7 z) pe6
    have pe'7 : Paired (EvAt H7) us' es := Paired.imp (fun _ _ z => EvAt.grow s7 z) pe'6
    have rsh : SeqAt.shaped (.list ((accs es).rows.map rowD)) = true := rows_shaped rok
    clear hF6 hF'6 pe6 pe'6
    walk_at "go"
    refine ⟨F', us', es, rfl, SqL.of hF'7, pe'7, gd, by omega, fun R qs H8 s8 hR pq nd R0 q0 lq => ?_⟩
    walk_at "go"
    refine isi_yes hR ?_
    walk_at "go"
    refine ⟨.list ((accs es).rows.map rowD), .list ((accs es).rows.map rowD), .lst (SqL.of hR) (rowsDp2 pq), .lst (SqL.of (s8 _ _ hD)) (rowsDp2 (Paired.imp (fun _ _ z => z.same s8) pd)), rsh, rsh, ?_⟩
    rw [rowsD_eqv2]
    walk_at "go"
    refine ⟨.list (es.map evD), .list (es.map evD), .lst (SqL.of (s8 _ _ hF'7)) (evsDp (Paired.imp (fun _ _ z => EvAt.grow s8 z) pe'7)), .lst (SqL.of (s8 _ _ hF7)) (evsDp (Paired.imp (fun _ _ z => EvAt.grow s8 z) pe7)), shp, shp, ?_⟩
    rw [show PyData.eqv (.list (es.map evD)) (.list (es.map evD)) = true from evsD_eqv es]
    walk_at "go"
    refine forL_by (SqL.of hR) (fun i σ' H' => (∃ x6 x7, σ' = [some (.ref a), some (.ref L), some (.ref F), some (.ref F'), some (.ref D), some (.ref R), x6, x7]) ∧ Same H8 H') ⟨⟨_, _, rfl⟩, Same.refl _⟩ (fun i σ' H' _ p => SqL.of (p.2 _ _ hR)) ?_ ?_
    · rintro i x σ' H' hx ⟨⟨x6, x7, rfl⟩, s9⟩
      rw [List.getElem?_map] at hx
      obtain ⟨qi, hqi, ex⟩ := Option.map_eq_some_iff.mp hx
      subst ex
      obtain ⟨r, hr', hr⟩ := Paired.at' pq hqi
      have ht := s9 _ _ hr.et
      have cut : cutV [V.int r.d, .int r.st, .int r.p, .ref qi.a, .ref qi.b, .ref qi.c] none (some 3) = [.int r.d, .int r.st, .int r.p] := rfl
      have sl0 : ¬ (HT.sIx [V.int r.d, .int r.st, .int r.p, .ref qi.a, .ref qi.b, .ref qi.c].length 0 none = 0 ∧ HT.sIx [V.int r.d, .int r.st, .int r.p, .ref qi.a, .ref qi.b, .ref qi.c].length [V.int r.d, .int r.st, .int r.p, .ref qi.a, .ref qi.b, .ref qi.c].length (some 3) = [V.int r.d, .int r.st, .int r.p, .ref qi.a, .ref qi.b, .ref qi.c].length) := fun z => absurd z.2 (show ¬ HT.sIx 6 6 (some 3) = 6 by decide)
      walk_at "go"
      refine isi_tup ht ?_
      walk_at "go"
      refine g_lcT ?_
      walk_at "go"
      refine g_slA ht sl0 cut fun T1 H10 T10 s10 hT1 => ?_
      walk_at "go"
      refine lcT_map hT1 (fun _ => .bl false) (by rw [sizeLine_eq]; simp) ?_ ?_
      · intro j y H11 hy s11 Rr k
        have hi : ∃ z, y = .int z := by
          match j, hy with
          | 0, hy => exact ⟨_, (Option.some.inj hy).symm⟩
          | 1, hy => exact ⟨_, (Option.some.inj hy).symm⟩
          | 2, hy => exact ⟨_, (Option.some.inj hy).symm⟩
        obtain ⟨z, rfl⟩ := hi
        walk_at "go"
        refine ⟨rfl, ?_⟩
        walk_at "go"
        refine isb_no (.inr ⟨z, rfl⟩) ?_
        exact k _ (Same.refl _)
      · intro D1 H11 D10 s11 hD1
        walk_at "go"
        refine ⟨D1, [false, false, false], rfl, SqL.of hD1, ?_⟩
        walk_at "go"
        show if false = true then _ else _
        walk_at "go"
        exact ⟨⟨_, _, rfl⟩, s9.trans (s10.trans s11)⟩
    · rintro σ' H' ⟨⟨x6, x7, rfl⟩, s9⟩
      walk_at "go"
      refine ⟨R, qs, (accs es).rows, rfl, s9 _ _ hR, Paired.imp (fun _ _ z => z.same s9) pq, nd, by omega, fun r hr => (rok r hr).mono (by omega), fun H9 fr => ?_⟩
      have s79 : Same H7 H9 := fun x o e => fr x o (fun m => by
        rcases List.mem_cons.mp m with z | z
        · rw [z, R0] at e; cases e
        · rw [q0 x z] at e; cases e) (s9 _ _ (s8 _ _ e))
      walk_at "go"
      refine ⟨F', us', es, rfl, SqL.of (s79 _ _ hF'7), Paired.imp (fun _ _ z => EvAt.grow s79 z) pe'7, gd, by omega, fun R2 qs2 H10 s10 hR2 pq2 _ _ _ _ => ?_⟩
      have s710 := s79.trans s10
      walk_at "go"
      refine ⟨.list ((accs es).rows.map rowD), .list ((accs es).rows.map rowD), .lst (SqL.of hR2) (rowsDp2 pq2), .lst (SqL.of (s710 _ _ hD)) (rowsDp2 (Paired.imp (fun _ _ z => z.same s710) pd)), rsh, rsh, ?_⟩
      rw [rowsD_eqv2]
      walk_at "go"
      refine g_calK ?_
      walk_at "go"
      refine ⟨rfl, F', us', es, rfl, SqL.of (s710 _ _ hF'7), Paired.imp (fun _ _ z => EvAt.grow s710 z) pe'7, gd, by omega, fun R3 qs3 H11 s11 hR3 pq3 _ _ _ _ => ?_⟩
      have s711 := s710.trans s11
      walk_at "go"
      refine ⟨.list ((accs es).rows.map rowD), .list ((accs es).rows.map rowD), .lst (SqL.of hR3) (rowsDp2 pq3), .lst (SqL.of (s711 _ _ hD)) (rowsDp2 (Paired.imp (fun _ _ z => z.same s711) pd)), rsh, rsh, ?_⟩
      rw [rowsD_eqv2]
      walk_at "go"
      first | refine g_yes rfl ?_ | skip
      walk_at "go"
      refine g_newL sz0 fun L0 H12 L00 s12 hL0 => ?_
      walk_at "go"
      refine ⟨L0, [], [], rfl, SqL.of hL0, .nil, (fun i e h => by simp at h), by decide, fun R4 qs4 H13 s13 hR4 pq4 _ _ _ _ => ?_⟩
      have q4 : qs4 = [] := by
        have := Paired.len pq4
        exact List.eq_nil_of_length_eq_zero this
      subst q4
      walk_at "go"
      refine g_newL sz0 fun L1 H14 L10 s14 hL1 => ?_
      refine ⟨.list [], .list [], .lst (SqL.of (s14 _ _ hR4)) .nil, .lst (SqL.of hL1) .nil, rfl, rfl, ?_⟩
      exact q _
end
end Hs

set_option maxHeartbeats 0
namespace Hs
open PySem PySem.Spec PyProof.Rows L2
def free : List Str := ["len", "range", "isinstance", "min", "max", "sorted", "dict", "list", "any", "all", "sum", "enumerate", "set", "zip", "int", "str", "bool", "tuple", "ValueError"]
def ex (K : PySem.W.Frag) : Bool := (free.all fun x => He.eqO (PySem.W.nsIn K mainGlobals x) (some none))
def ts : List He.Tab := []
def d__law_cell_at : He.DefD := ⟨("_law_cell_at", none), "_law_cell_at", "_law_cell_at", defArgs s__law_cell_at, defBody s__law_cell_at, defScope s__law_cell_at, [], []⟩
def d__law_stir : He.DefD := ⟨("_law_stir", none), "_law_stir", "_law_stir", defArgs s__law_stir, defBody s__law_stir, defScope s__law_stir, [], []⟩
def d__law_well : He.DefD := ⟨("_law_well", none), "_law_well", "_law_well", defArgs s__law_well, defBody s__law_well, defScope s__law_well, [], []⟩
def d__law_draw : He.DefD := ⟨("_law_draw", none), "_law_draw", "_law_draw", defArgs s__law_draw, defBody s__law_draw, defScope s__law_draw, [], []⟩
def d__law_worth : He.DefD := ⟨("_law_worth", none), "_law_worth", "_law_worth", defArgs s__law_worth, defBody s__law_worth, defScope s__law_worth, [], []⟩
def d__law_edge : He.DefD := ⟨("_law_edge", none), "_law_edge", "_law_edge", defArgs s__law_edge, defBody s__law_edge, defScope s__law_edge, [], []⟩
def d__law_new_name : He.DefD := ⟨("_law_new_name", none), "_law_new_name", "_law_new_name", defArgs s__law_new_name, defBody s__law_new_name, defScope s__law_new_name, [], []⟩
def d__law_places : He.DefD := ⟨("_law_places", none), "_law_places", "_law_places", defArgs s__law_places, defBody s__law_places, defScope s__law_places, [], []⟩
def d__law_sees : He.DefD := ⟨("_law_sees", none), "_law_sees", "_law_sees", defArgs s__law_sees, defBody s__law_sees, defScope s__law_sees, [], []⟩
def d__law_keys_of : He.DefD := ⟨("_law_keys_of", none), "_law_keys_of", "_law_keys_of", defArgs s__law_keys_of, defBody s__law_keys_of, defScope s__law_keys_of, [], []⟩
def d__law_scanned : He.DefD := ⟨("_law_scanned", none), "_law_scanned", "_law_scanned", defArgs s__law_scanned, defBody s__law_scanned, defScope s__law_scanned, [], []⟩
def d__law_free : He.DefD := ⟨("_law_free", none), "_law_free", "_law_free", defArgs s__law_free, defBody s__law_free, defScope s__law_free, [], []⟩
def d__law_deed_can : He.DefD := ⟨("_law_deed_can", none), "_law_deed_can", "_law_deed_can", defArgs s__law_deed_can, defBody s__law_deed_can, defScope s__law_deed_can, [], []⟩
def d__law_happens : He.DefD := ⟨("_law_happens", none), "_law_happens", "_law_happens", defArgs s__law_happens, defBody s__law_happens, defScope s__law_happens, [], []⟩
def d__law_new_state : He.DefD := ⟨("_law_new_state", none), "_law_new_state", "_law_new_state", defArgs s__law_new_state, defBody s__law_new_state, defScope s__law_new_state, [], []⟩
def d__law_begun : He.DefD := ⟨("_law_begun", none), "_law_begun", "_law_begun", defArgs s__law_begun, defBody s__law_begun, defScope s__law_begun, [], []⟩
def d__law_deed : He.DefD := ⟨("_law_deed", none), "_law_deed", "_law_deed", defArgs s__law_deed, defBody s__law_deed, defScope s__law_deed, [], []⟩
def d__law_raised : He.DefD := ⟨("_law_raised", none), "_law_raised", "_law_raised", defArgs s__law_raised, defBody s__law_raised, defScope s__law_raised, [], []⟩
def d__law_history : He.DefD := ⟨("_law_history", none), "_law_history", "_law_history", defArgs s__law_history, defBody s__law_history, defScope s__law_history, [], []⟩
def d__law_copied : He.DefD := ⟨("_law_copied", none), "_law_copied", "_law_copied", defArgs s__law_copied, defBody s__law_copied, defScope s__law_copied, [], []⟩
def d_kept_dealings : He.DefD := ⟨("kept_dealings", none), "kept_dealings", "kept_dealings", defArgs s_kept_dealings, defBody s_kept_dealings, defScope s_kept_dealings, [], []⟩
def d__law_dealing : He.DefD := ⟨("_law_dealing", none), "_law_dealing", "_law_dealing", defArgs s__law_dealing, defBody s__law_dealing, defScope s__law_dealing, [], []⟩
def d__law_due : He.DefD := ⟨("_law_due", none), "_law_due", "_law_due", defArgs s__law_due, defBody s__law_due, defScope s__law_due, [], []⟩
def d__law_apart : He.DefD := ⟨("_law_apart", none), "_law_apart", "_law_apart", defArgs s__law_apart, defBody s__law_apart, defScope s__law_apart, [], []⟩
def d_law : He.DefD := ⟨("law", none), "law", "law", defArgs s_law, defBody s_law, defScope s_law, [], []⟩
def fn : List He.DefD := [d__law_cell_at, d__law_stir, d__law_well, d__law_draw, d__law_worth, d__law_edge, d__law_new_name, d__law_places, d__law_sees, d__law_keys_of, d__law_scanned, d__law_free, d__law_deed_can, d__law_happens, d__law_new_state, d__law_begun, d__law_deed, d__law_raised, d__law_history, d__law_copied, d_kept_dealings, d__law_dealing, d__law_due, d__law_apart, d_law]
def fa : List He.Fa := [.glo "_law_cell_at", .glo "_law_stir", .glo "_law_well", .glo "_law_draw", .glo "_law_worth", .glo "_law_edge", .glo "_law_new_name", .glo "_law_places", .glo "_law_sees", .glo "_law_keys_of", .glo "_law_scanned", .glo "_law_free", .glo "_law_deed_can", .glo "_law_happens", .glo "_law_new_state", .glo "_law_begun", .glo "_law_deed", .glo "_law_raised", .glo "_law_history", .glo "_law_copied", .glo "kept_dealings", .glo "_law_dealing", .glo "_law_due", .glo "_law_apart", .glo "law"]
abbrev R : PySem.W.OpenRow := PySem.W.OpenLaw.row PySem.Challenge.rw_slotkeep_k60_dealings_of_a_history
abbrev hk : PySem.W.Hook := He.hookX 6 fa fn ts [] ex
def ob (s : PySem.W.SharedT) : He.AlX := He.obsX 6 fa fn ts [] ex (HandSHeadRun.getT s)
theorem ob_eq (s : PySem.W.SharedT) : ob s = hk.obs s.abs := He.obsX_eq (HandSHeadRun.getT_eq s)
def loose : List PySem.Str := (["kept_dealings", "_law_cell_at", "_law_stir", "_law_well", "_law_draw", "_law_new_name", "_law_new_state", "_law_sees", "_law_keys_of", "_law_scanned", "_law_free", "_law_places", "_law_deed_can", "_law_can", "_law_happens", "_law_judged", "_law_worth", "_law_edge", "_law_begun", "_law_deed", "_law_raised", "_law_history", "_law_due", "_law_dealing", "_law_apart", "_law_copied"] : List PySem.Str)
theorem run (w : World) : HandSHeadRun.RunEq R (PySem.W.view R.prog [28]) hk ob 20000 loose w := by
  intro os
  kernel_rfl
end Hs

set_option maxHeartbeats 0
namespace Hs
open PySem PySem.Spec PyProof.Rows L2 Sk
theorem facts {P : Program} {w : World} {K : PySem.W.Frag} {h : Heap} {mg : Str → Option Value} {f : Addr} (X : K.In h) (G : h.Ns mainGlobals mg) (hfa : mg ("law" : Str) = some (.ref f)) (c : He.SaysX fa fn ts [] ex w h K) :
    ∃ fd : FuncData, (∀ (s : Shared) (v : Value), BindsTo s fd ⟨[v], []⟩ [("script", v)]) ∧ ∀ base : Heap, K.In base → base.Ns mainGlobals mg → FnOk P w K mg base CX0 7 f fd ["script"] (spLaw (K := K)) := by
  have d := c.t.d
  have e0 := c.more
  have x0 := e0
  have B : Bas mg := ⟨fun x hx => PySem.W.mg_none_of X G (He.eqO_ok (List.all_eq_true.mp x0 x hx))⟩
  obtain ⟨f__law_cell_at, F__law_cell_at⟩ := d.def_ 0 (d := d__law_cell_at) rfl
  obtain ⟨f__law_stir, F__law_stir⟩ := d.def_ 1 (d := d__law_stir) rfl
  obtain ⟨f__law_well, F__law_well⟩ := d.def_ 2 (d := d__law_well) rfl
  obtain ⟨f__law_draw, F__law_draw⟩ := d.def_ 3 (d := d__law_draw) rfl
  obtain ⟨f__law_worth, F__law_worth⟩ := d.def_ 4 (d := d__law_worth) rfl
  obtain ⟨f__law_edge, F__law_edge⟩ := d.def_ 5 (d := d__law_edge) rfl
  obtain ⟨f__law_new_name, F__law_new_name⟩ := d.def_ 6 (d := d__law_new_name) rfl
  obtain ⟨f__law_places, F__law_places⟩ := d.def_ 7 (d := d__law_places) rfl
  obtain ⟨f__law_sees, F__law_sees⟩ := d.def_ 8 (d := d__law_sees) rfl
  obtain ⟨f__law_keys_of, F__law_keys_of⟩ := d.def_ 9 (d := d__law_keys_of) rfl
  obtain ⟨f__law_scanned, F__law_scanned⟩ := d.def_ 10 (d := d__law_scanned) rfl
  obtain ⟨f__law_free, F__law_free⟩ := d.def_ 11 (d := d__law_free) rfl
  obtain ⟨f__law_deed_can, F__law_deed_can⟩ := d.def_ 12 (d := d__law_deed_can) rfl
  obtain ⟨f__law_happens, F__law_happens⟩ := d.def_ 13 (d := d__law_happens) rfl
  obtain ⟨f__law_new_state, F__law_new_state⟩ := d.def_ 14 (d := d__law_new_state) rfl
  obtain ⟨f__law_begun, F__law_begun⟩ := d.def_ 15 (d := d__law_begun) rfl
  obtain ⟨f__law_deed, F__law_deed⟩ := d.def_ 16 (d := d__law_deed) rfl
  obtain ⟨f__law_raised, F__law_raised⟩ := d.def_ 17 (d := d__law_raised) rfl
  obtain ⟨f__law_history, F__law_history⟩ := d.def_ 18 (d := d__law_history) rfl
  obtain ⟨f__law_copied, F__law_copied⟩ := d.def_ 19 (d := d__law_copied) rfl
  obtain ⟨f_kept_dealings, F_kept_dealings⟩ := d.def_ 20 (d := d_kept_dealings) rfl
  obtain ⟨f__law_dealing, F__law_dealing⟩ := d.def_ 21 (d := d__law_dealing) rfl
  obtain ⟨f__law_due, F__law_due⟩ := d.def_ 22 (d := d__law_due) rfl
  obtain ⟨f__law_apart, F__law_apart⟩ := d.def_ 23 (d := d__law_apart) rfl
  obtain ⟨f_law, F_law⟩ := d.def_ 24 (d := d_law) rfl
  have g__law_cell_at := He.glo_ok X G (d.fact 0 (f := .glo "_law_cell_at") rfl)
  have g__law_stir := He.glo_ok X G (d.fact 1 (f := .glo "_law_stir") rfl)
  have g__law_well := He.glo_ok X G (d.fact 2 (f := .glo "_law_well") rfl)
  have g__law_draw := He.glo_ok X G (d.fact 3 (f := .glo "_law_draw") rfl)
  have g__law_worth := He.glo_ok X G (d.fact 4 (f := .glo "_law_worth") rfl)
  have g__law_edge := He.glo_ok X G (d.fact 5 (f := .glo "_law_edge") rfl)
  have g__law_new_name := He.glo_ok X G (d.fact 6 (f := .glo "_law_new_name") rfl)
  have g__law_places := He.glo_ok X G (d.fact 7 (f := .glo "_law_places") rfl)
  have g__law_sees := He.glo_ok X G (d.fact 8 (f := .glo "_law_sees") rfl)
  have g__law_keys_of := He.glo_ok X G (d.fact 9 (f := .glo "_law_keys_of") rfl)
  have g__law_scanned := He.glo_ok X G (d.fact 10 (f := .glo "_law_scanned") rfl)
  have g__law_free := He.glo_ok X G (d.fact 11 (f := .glo "_law_free") rfl)
  have g__law_deed_can := He.glo_ok X G (d.fact 12 (f := .glo "_law_deed_can") rfl)
  have g__law_happens := He.glo_ok X G (d.fact 13 (f := .glo "_law_happens") rfl)
  have g__law_new_state := He.glo_ok X G (d.fact 14 (f := .glo "_law_new_state") rfl)
  have g__law_begun := He.glo_ok X G (d.fact 15 (f := .glo "_law_begun") rfl)
  have g__law_deed := He.glo_ok X G (d.fact 16 (f := .glo "_law_deed") rfl)
  have g__law_raised := He.glo_ok X G (d.fact 17 (f := .glo "_law_raised") rfl)
  have g__law_history := He.glo_ok X G (d.fact 18 (f := .glo "_law_history") rfl)
  have g__law_copied := He.glo_ok X G (d.fact 19 (f := .glo "_law_copied") rfl)
  have g_kept_dealings := He.glo_ok X G (d.fact 20 (f := .glo "kept_dealings") rfl)
  have g__law_dealing := He.glo_ok X G (d.fact 21 (f := .glo "_law_dealing") rfl)
  have g__law_due := He.glo_ok X G (d.fact 22 (f := .glo "_law_due") rfl)
  have g__law_apart := He.glo_ok X G (d.fact 23 (f := .glo "_law_apart") rfl)
  have g_law := He.glo_ok X G (d.fact 24 (f := .glo "law") rfl)
  have e := hfa.symm.trans g_law
  cases e
  refine ⟨f_law, fun s v => FunD.bindsA (ps := ["script"]) F_law (fun _ _ _ _ _ _ us hl => match us, hl with | [_], _ => rfl) s [v] rfl, fun base _ _ => ?_⟩
  have c__law_cell_at := ok__law_cell_at (P := P) (w := w) (base := base) (F := F__law_cell_at) (gm := g__law_cell_at) (B := B)
  have c__law_stir := ok__law_stir (P := P) (w := w) (base := base) (F := F__law_stir) (gm := g__law_stir) (B := B)
  have c__law_well := ok__law_well (P := P) (w := w) (base := base) (F := F__law_well) (gm := g__law_well) (B := B) (c__law_stir := c__law_stir)
  have c__law_draw := ok__law_draw (P := P) (w := w) (base := base) (F := F__law_draw) (gm := g__law_draw) (B := B) (c__law_stir := c__law_stir)
  have c__law_worth := ok__law_worth (P := P) (w := w) (base := base) (F := F__law_worth) (gm := g__law_worth) (B := B) (c__law_draw := c__law_draw)
  have c__law_edge := ok__law_edge (P := P) (w := w) (base := base) (F := F__law_edge) (gm := g__law_edge) (B := B) (c__law_draw := c__law_draw)
  have c__law_new_name := ok__law_new_name (P := P) (w := w) (base := base) (F := F__law_new_name) (gm := g__law_new_name) (B := B) (c__law_draw := c__law_draw)
  have c__law_places := ok__law_places (P := P) (w := w) (base := base) (F := F__law_places) (gm := g__law_places) (B := B)
  have c__law_sees := ok__law_sees (P := P) (w := w) (base := base) (F := F__law_sees) (gm := g__law_sees) (B := B)
  have c__law_keys_of := ok__law_keys_of (P := P) (w := w) (base := base) (F := F__law_keys_of) (gm := g__law_keys_of) (B := B)
  have c__law_scanned := ok__law_scanned (P := P) (w := w) (base := base) (F := F__law_scanned) (gm := g__law_scanned) (B := B) (c__law_sees := c__law_sees) (c__law_keys_of := c__law_keys_of)
  have c__law_free := ok__law_free (P := P) (w := w) (base := base) (F := F__law_free) (gm := g__law_free) (B := B)
  have c__law_deed_can := ok__law_deed_can (P := P) (w := w) (base := base) (F := F__law_deed_can) (gm := g__law_deed_can) (B := B) (c__law_sees := c__law_sees) (c__law_scanned := c__law_scanned) (c__law_free := c__law_free) (c__law_places := c__law_places)
  have c__law_happens := ok__law_happens (P := P) (w := w) (base := base) (F := F__law_happens) (gm := g__law_happens) (B := B) (c__law_places := c__law_places)
  have c__law_new_state := ok__law_new_state (P := P) (w := w) (base := base) (F := F__law_new_state) (gm := g__law_new_state) (B := B)
  have c__law_begun := ok__law_begun (P := P) (w := w) (base := base) (F := F__law_begun) (gm := g__law_begun) (B := B) (c__law_draw := c__law_draw)
  have c__law_deed := ok__law_deed (P := P) (w := w) (base := base) (F := F__law_deed) (gm := g__law_deed) (B := B) (c__law_draw := c__law_draw) (c__law_sees := c__law_sees) (c__law_scanned := c__law_scanned) (c__law_free := c__law_free) (c__law_places := c__law_places) (c__law_deed_can := c__law_deed_can) (c__law_begun := c__law_begun) (c__law_worth := c__law_worth) (c__law_edge := c__law_edge)
  have c__law_raised := ok__law_raised (P := P) (w := w) (base := base) (F := F__law_raised) (gm := g__law_raised) (B := B) (c__law_draw := c__law_draw) (c__law_worth := c__law_worth)
  have c__law_history := ok__law_history (P := P) (w := w) (base := base) (F := F__law_history) (gm := g__law_history) (B := B) (c__law_cell_at := c__law_cell_at) (c__law_well := c__law_well) (c__law_draw := c__law_draw) (c__law_new_name := c__law_new_name) (c__law_new_state := c__law_new_state) (c__law_raised := c__law_raised) (c__law_happens := c__law_happens) (c__law_deed := c__law_deed)
  have c__law_copied := ok__law_copied (P := P) (w := w) (base := base) (F := F__law_copied) (gm := g__law_copied) (B := B)
  have o_kept_dealings := ok_kept_dealings (P := P) (w := w) (base := base) (F := F_kept_dealings) (B := B)
  have c_kept_dealings : Cal P w K mg base CX0 2 "kept_dealings" ["history"] (spDeals (K := K)) := ⟨_, _, o_kept_dealings, g_kept_dealings, F_kept_dealings.kp, F_kept_dealings.bindsN fun _ _ _ _ _ _ us hl => match us, hl with | [_], _ => rfl⟩
  have k_kept_dealings : CalK P w K mg base CX0 2 "kept_dealings" ["history"] ["history"] (spDeals (K := K)) := ⟨_, _, o_kept_dealings, g_kept_dealings, F_kept_dealings.kp, FunD.kbn F_kept_dealings fun _ _ _ _ _ _ ws hl => match ws, hl with | [_], _ => rfl⟩
  have c__law_dealing := ok__law_dealing (P := P) (w := w) (base := base) (F := F__law_dealing) (gm := g__law_dealing) (B := B)
  have c__law_due := ok__law_due (P := P) (w := w) (base := base) (F := F__law_due) (gm := g__law_due) (B := B) (c__law_dealing := c__law_dealing)
  have c__law_apart := ok__law_apart (P := P) (w := w) (base := base) (F := F__law_apart) (gm := g__law_apart) (B := B)
  exact ok_law (P := P) (w := w) (base := base) (F := F_law) (B := B) (c__law_history := c__law_history) (c__law_copied := c__law_copied) (c__law_due := c__law_due) (c__law_apart := c__law_apart) (c_kept_dealings := c_kept_dealings) (k_kept_dealings := k_kept_dealings)
end Hs
open PySem PySem.W PySem.Calls PyProof.Rows
theorem PySem.Challenge.cw_slotkeep_k60_dealings_of_a_history_holds : PySem.Challenge.rw_slotkeep_k60_dealings_of_a_history.Holds := by
  w_on; o_law
  refine HandSHeadRun.head_any (r := OpenLaw.row PySem.Challenge.rw_slotkeep_k60_dealings_of_a_history) (q := view (OpenLaw.row PySem.Challenge.rw_slotkeep_k60_dealings_of_a_history).prog [28]) (H := Hs.hk) (ob := Hs.ob) (M := 20000) (loose := Hs.loose) (d := HandSHeadRun.topDef (OpenLaw.row PySem.Challenge.rw_slotkeep_k60_dealings_of_a_history).prog 28) (kwd := []) Hs.ob_eq
    (by kernel_rfl) (fun s => by kernel_rfl) Hs.run (by kernel_rfl) (by kernel_rfl) (by kernel_rfl) (by rfl) (by first | assumption | decide +kernel) (by decide +kernel) ⟨rfl, rfl, rfl, rfl, rfl, by decide +kernel⟩ ?hw ?hc
  case hw => w_witness2
  case hc =>
    refine L2.walk_ofE (l := PySem.Challenge.rw_slotkeep_k60_dealings_of_a_history) (n := 63) (k := 7) (x := "script") (CX := L2.CX0) rfl (by decide) (by kernel_rfl) ⟨rfl, by decide, by decide⟩ ?F (fun _ _ _ _ z => z)
    intro w mg fa h Y G hmg0
    obtain ⟨K, KX, c⟩ := Y
    have hmg : mg ("law" : PySem.Str) = some (.ref fa) := by
      have e : (HandSHeadRun.topDef (OpenLaw.row PySem.Challenge.rw_slotkeep_k60_dealings_of_a_history).prog 28).name = ("law" : PySem.Str) := by kernel_rfl
      rw [← e]
      exact hmg0
    obtain ⟨fd, hb, hF⟩ := Hs.facts (P := (PySem.Challenge.rw_slotkeep_k60_dealings_of_a_history).prog) (w := w) KX G hmg c
    exact ⟨K, fd, Hs.spLaw (K := K), KX, hb, fun H a ns hl _ hS => ⟨a, ns, rfl, hS, hl, fun _ => rfl⟩, hF⟩
