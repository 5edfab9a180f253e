import PyProof.Rows.All
import Wide.All
import OpenK.AllK
import Wide.FinOn
import HandS.ForMost
import HandS.IsInst
import HandS.Defaults
import HandS.Codes
import HandS.Flow
import HandS.Evl
import HandS.Star
import HandS.MakeKw
import HandS.ClsMeth
import HandS.FStr
import HandS.Style
import HandS.RaiseMore
import KE.GoesEnum
import HandS.TupAny
import HandS.Lambda
import HandS.Deep
import HandS.ExcInit
import HandS.Nested
import KE.KExcSuper
import KE.KTryMore
import HandS.ExcField
import HandS.EndTab
import KE.RegKSuper
import KE.KNestM
import KE.KDflt
import HandS.TupMul
import KE.KDictKeyed
import HandS.DictComp
import HandS.SetKeys
import HandS.Property
import PyProof.TableCode
import HandS.Head0
import HandS.Head1
import HandS.Head2
import HandS.HeadHook1
import HandS.HeadHook2
import HandS.HeadHook4
import PySem.Challenge.RW_tabsure_k11_grammars_refused
set_option Elab.async false
set_option linter.all false
set_option maxRecDepth 100000
set_option maxHeartbeats 4000000
namespace L2
open PySem PySem.Spec PyProof.Rows
/-! ### calls of a def by its name -/
structure Cl (P : Program) (w : World) (K : PySem.W.Frag) (mg : Str → Option Value) (base : Heap) (CX : CXT) (k : Nat) (x : Str) (sp : Sp) (dvs : List V) : Prop where
  ex : ∃ (f : Addr) (fd : FuncData) (ps : List Str) (ds : List Value), FnOk P w K mg base CX k f fd ps sp ∧ mg x = some (.ref f) ∧ PySem.W.keepIn K (.ref f) = true ∧ Binds K fd ps ds ∧ Vals dvs ds
section
variable {X : Cx} {k j : Nat} {x : Str} {p pos : Pos} {t : TA} {sp : Sp} {dvs : List V} {e : Expr} {es : List Expr}
theorem pe_c (c : Cl X.prog X.w X.K X.mg X.base CX0 k x sp dvs) (hr : Room j X.A) (hk : k ≤ j) (hg : Gl X x) (ha : PA X (e :: es) t)
    (hdb : (x == ("__debug__" : Str)) = false := by decide) (he : starEach (e :: es) X.env = (false, eval e X.env) :: starEach es X.env := by rfl) (hpl : (backTo pos (starEach es X.env)).any (·.1) = false := by rfl) :
    PE X (.Call (.Name x p) (e :: es) [] pos) (tCall sp dvs E0 t) := by
  obtain ⟨f, fd, ps, ds, F, hm, kp, b, d⟩ := c.ex
  exact pe_call F (hr.mono hk) hg hm kp b d pass0 ha hdb he hpl
end
/-! ### calls with keywords alone -/
structure CalN (P : Program) (w : World) (K : PySem.W.Frag) (mg : Str → Option Value) (base : Heap) (k : Nat) (x : Str) (n : Nat) (ks : List Str) (gV : List V → List V → List V) (sp : Sp) : Prop where
  ex : ∃ (f : Addr) (fd : FuncData) (ps : List Str) (g : List Value → List Value → List Value), FnOk P w K mg base CX0 k f fd ps sp ∧ mg x = some (.ref f) ∧ PySem.W.keepIn K (.ref f) = true ∧ KBn K fd ps n ks g gV
section
variable {X : Cx} {k j n : Nat} {x : Str} {p pos : Pos} {kws : List Keyword} {tk t : TA} {ks : List Str} {gV : List V → List V → List V} {sp : Sp} {e : Expr} {es : List Expr}
theorem pe_ck0 (c : CalN X.prog X.w X.K X.mg X.base k x 0 ks gV sp) (hr : Room j X.A) (hk : k ≤ j) (hg : Gl X x) (hkw : PK X kws tk)
    (hall : (backToKw pos (keywordEach kws X.env)).all (·.1.isSome) = true := by rfl) (hks : (backToKw pos (keywordEach kws X.env)).filterMap (·.1) = ks := by rfl) (hdb : (x == ("__debug__" : Str)) = false := by decide)
    (hpl : ((backTo pos (starEach [] X.env)).any (·.1) || (backToKw pos (keywordEach kws X.env)).any (·.1.isNone)) = false := by rfl) :
    PE X (.Call (.Name x p) [] kws pos) (tCallN 0 ks.length sp gV E0 tNil tk) := by
  obtain ⟨f, fd, ps, g, F, hm, kp, hb⟩ := c.ex
  refine ⟨fun pins s σ H Q I h => ?_⟩
  refine wpAny_Call_Name_kw (ld_glob I hg hm ?_ hdb)
  refine PySem.W.callWith_KW0 (h₀ := X.base) I.ok.mod.kin kp hall ?_ hpl
  refine thn (hkw.run pos pins s σ H _ I h) fun ws s2 ⟨zs, H2, I2, rz, l1, l2, q2⟩ => ⟨I2.kIn, ?_⟩
  rw [hks]
  exact run_fnN (us := []) (vs := []) F (hr.mono hk) hb pass0 I2 .nil rz l1 l2 q2
theorem pe_ck (c : CalN X.prog X.w X.K X.mg X.base k x n ks gV sp) (hr : Room j X.A) (hk : k ≤ j) (hg : Gl X x) (ha : PA X (e :: es) t) (hkw : PK X kws tk)
    (hall : (backToKw pos (keywordEach kws X.env)).all (·.1.isSome) = true := by rfl) (hks : (backToKw pos (keywordEach kws X.env)).filterMap (·.1) = ks := by rfl)
    (hdb : (x == ("__debug__" : Str)) = false := by decide) (he : starEach (e :: es) X.env = (false, eval e X.env) :: starEach es X.env := by rfl)
    (hpl : ((backTo pos (starEach (e :: es) X.env)).any (·.1) || (backToKw pos (keywordEach kws X.env)).any (·.1.isNone)) = false := by rfl) :
    PE X (.Call (.Name x p) (e :: es) kws pos) (tCallN n ks.length sp gV E0 t tk) := by
  obtain ⟨f, fd, ps, g, F, hm, kp, hb⟩ := c.ex
  exact pe_callN F (hr.mono hk) hg hm kp hb pass0 ha hkw hall hks hdb he hpl
end
/-! ### a def of the text -/
structure Df (K : PySem.W.Frag) (mg : Str → Option Value) (x : Str) (st : Stmt) : Prop where
  ex : ∃ (f : Addr) (fd : FuncData), Fun K x x st f fd ∧ mg x = some (.ref f)
theorem df_mk {K : PySem.W.Frag} {h : Heap} {mg : Str → Option Value} {x : Str} {st : Stmt} {f : Addr} {oc : Value} {od an : Option Addr} {osl : Array (Option Value)} {kV doc pm cdv ct : Value} (X : K.In h) (G : h.Ns mainGlobals mg)
    (a : PySem.W.nsIn K mainGlobals x = some (some (.ref f)))
    (l : K.lookup f = some ⟨oc, od, .func (PySem.W.fnOf x x (defArgs st) (defBody st) (defScope st) .none kV doc pm an cdv ct), osl⟩)
    (c : PySem.W.codeIn K cdv x = true) (k : PySem.W.keepIn K (.ref f) = true) : Df K mg x st := ⟨f, _, fun_mk l c k, PySem.W.mg_of X G a⟩
section
variable {P : Program} {w : World} {K : PySem.W.Frag} {mg : Str → Option Value} {base : Heap}
theorem cal_mk {x : Str} {st : Stmt} {N ps : List Str} {k : Nat} {sp : Sp} (D : Df K mg x st) (S : FnScope N ps (defScope st))
    (hb : ∀ (kV doc pm : Value) (an : Option Addr) (cdv ct : Value) (us : List Value), us.length = ps.length → bindArgs (PySem.W.fnOf x x (defArgs st) (defBody st) (defScope st) .none kV doc pm an cdv ct) ⟨us, []⟩ = pure (ps.zip us))
    (len : ∀ vs H Q E, sp vs H Q E → vs.length = ps.length)
    (hbody : ∀ (f : Addr) (cdv : Value) (A : Around) (outer : List Env) (s : Shared) (H : Hp) (vs : List V) (Q : VK) (E : XK), Room k (A.deeper (envOfC x (defScope st) s.heap.objs.size f cdv)) → sp vs H Q E →
      ∃ t, PSs (cxOf CX0 P w K mg base N x (defScope st) f cdv A outer s H E).nox (defBody st) t ∧ t { nx := fun _ H' => Q .non H', rt := Q } (start N vs) H) : Cl P w K mg base CX0 (k + 1) x sp [] := by
  obtain ⟨f, fd, F, hm⟩ := D.ex
  exact ⟨f, fd, ps, [], F.ok S len (hbody f), hm, F.kp, F.binds hb, .nil⟩
end
/-! ### heaps off some addresses -/
def off (H : Hp) (S : List Addr) : Hp := fun b => if b ∈ S then none else H b
theorem off_same (H : Hp) (S : List Addr) : Same (off H S) H := fun b o h => by
  unfold off at h
  split at h
  · cases h
  · exact h
theorem off_ne {H : Hp} {S : List Addr} {b : Addr} (h : b ∉ S) : off H S b = H b := by unfold off; rw [if_neg h]
theorem off_in {H : Hp} {S : List Addr} {b : Addr} (h : b ∈ S) : off H S b = none := by unfold off; rw [if_pos h]
/-- off more addresses: less -/
theorem off_sub {H : Hp} {S T : List Addr} (h : ∀ b ∈ S, b ∈ T) : Same (off H T) (off H S) := fun b o e => by
  by_cases hb : b ∈ T
  · rw [off_in hb] at e; cases e
  · rw [off_ne hb] at e; rw [off_ne fun q => hb (h b q)]; exact e
theorem Same.offT {H H' : Hp} (S : List Addr) (s : Same H H') : Same (off H S) (off H' S) := fun b o h => by
  by_cases e : b ∈ S
  · rw [off_in e] at h; cases h
  · rw [off_ne e] at h ⊢; exact s b o h
/-- the addresses of S are taken -/
def Tk (H : Hp) (S : List Addr) : Prop := ∀ b ∈ S, H b ≠ none
theorem Tk.nil {H : Hp} : Tk H [] := fun b h => by cases h
theorem Tk.cons {H : Hp} {a : Addr} {S : List Addr} (h : H a ≠ none) (t : Tk H S) : Tk H (a :: S) := fun b hb => by
  rcases List.mem_cons.mp hb with rfl | hb
  · exact h
  · exact t b hb
theorem Tk.notIn {H : Hp} {a : Addr} {S : List Addr} (t : Tk H S) (h : H a = none) : a ∉ S := fun q => t a q h
theorem Tk.same {H H' : Hp} {S : List Addr} (t : Tk H S) (e : Same H H') : Tk H' S := fun b hb => by
  cases q : H b with
  | none => exact absurd q (t b hb)
  | some o => rw [e b o q]; intro z; cases z
theorem off_nil {H : Hp} : off H [] = H := by
  funext b; exact off_ne (by simp)
/-- H off S stays when something of S is written anew -/
theorem off_upd {H : Hp} {S : List Addr} {p : Addr} {o : HO} (h : p ∈ S) : off (upd H p o) S = off H S := by
  funext b
  by_cases e : b ∈ S
  · rw [off_in e, off_in e]
  · rw [off_ne e, off_ne e, upd_ne fun q => e (by rw [q]; exact h)]
theorem SqL.offT {K : PySem.W.Frag} {H : Hp} {S : List Addr} {a : Addr} {xs : List V} (h : H a = some (.lst xs)) (n : a ∉ S) : SqL K (off H S) a xs := SqL.of (by rw [off_ne n]; exact h)
theorem SqT.offT {K : PySem.W.Frag} {H : Hp} {S : List Addr} {a : Addr} {xs : List V} (h : H a = some (.tup xs)) (n : a ∉ S) : SqT K (off H S) a xs := SqT.of (by rw [off_ne n]; exact h)
theorem Same.newT {H : Hp} {p : Addr} {o : HO} (h : H p = none) : Same H (upd H p o) := fun b u e => by
  rw [upd_ne (ne_of_none e h)]; exact e
theorem Same.mutT {H H' : Hp} {p : Addr} {o : HO} (e : Same H H') (h : H p = none) : Same H (upd H' p o) := fun a u ha => by
  rw [upd_ne (ne_of_none ha h)]; exact e a u ha
theorem Same.trans_new {H H' : Hp} {p : Addr} {o : HO} (s : Same H H') (h : H' p = none) : Same H (upd H' p o) := s.trans (Same.newT h)
theorem Same.seqTT {K : PySem.W.Frag} {H H' : Hp} {a : Addr} {xs : List V} (e : Same H H') (h : SqT K H a xs) : SqT K H' a xs := by
  rcases h with (h | ⟨o, h⟩) | h
  · exact .inl (.inl (e _ _ h))
  · exact .inl (.inr ⟨o, e _ _ h⟩)
  · exact .inr h
/-! ### data -/
mutual
theorem Dp.monoT {K : PySem.W.Frag} {H H' : Hp} (e : Same H H') : ∀ (d : PyData) {v : V}, Dp K H v d → Dp K H' v d
  | .none, _, h => by cases h; exact .non
  | .bool b, _, h => by cases h; exact .bl b
  | .int i, _, h => by cases h; exact .int i
  | .str x, _, h => by cases h; exact .str x
  | .list ds, _, h => by
    cases h with
    | lst hs ha => exact .lst (Same.seq e hs) (DpAll.monoT e ds ha)
  | .tuple ds, _, h => by
    cases h with
    | tup hs ha => exact .tup (Same.seqTT e hs) (DpAll.monoT e ds ha)
  | .dict _, _, h => by cases h
theorem DpAll.monoT {K : PySem.W.Frag} {H H' : Hp} (e : Same H H') : ∀ (ds : List PyData) {vs : List V}, DpAll K H vs ds → DpAll K H' vs ds
  | [], _, h => by cases h; exact .nil
  | d :: ds, _, h => by
    cases h with
    | cons h1 h2 => exact .cons (Dp.monoT e d h1) (DpAll.monoT e ds h2)
end
theorem DpAll.lengthT {K : PySem.W.Frag} {H : Hp} : ∀ {vs : List V} {ds : List PyData}, DpAll K H vs ds → vs.length = ds.length
  | _, _, .nil => rfl
  | _, _, .cons _ t => congrArg Nat.succ (DpAll.lengthT t)
theorem DpAll.getT {K : PySem.W.Frag} {H : Hp} : ∀ {vs : List V} {ds : List PyData} {i : Nat} {v : V}, DpAll K H vs ds → vs[i]? = some v → ∃ d, ds[i]? = some d ∧ Dp K H v d
  | _, _, _, _, .nil, e => by simp at e
  | _, _, 0, _, .cons h _, e => by simp at e; subst e; exact ⟨_, rfl, h⟩
  | _, _, i + 1, _, .cons _ t, e => by
    obtain ⟨d, h1, h2⟩ := DpAll.getT (i := i) t (by simpa using e)
    exact ⟨d, by simpa using h1, h2⟩
theorem DpAll.getDT {K : PySem.W.Frag} {H : Hp} : ∀ {vs : List V} {ds : List PyData} {i : Nat} {d : PyData}, DpAll K H vs ds → ds[i]? = some d → ∃ v, vs[i]? = some v ∧ Dp K H v d
  | _, _, _, _, .nil, e => by simp at e
  | _, _, 0, _, .cons h _, e => by simp at e; subst e; exact ⟨_, rfl, h⟩
  | _, _, i + 1, _, .cons _ t, e => by
    obtain ⟨v, h1, h2⟩ := DpAll.getDT (i := i) t (by simpa using e)
    exact ⟨v, by simpa using h1, h2⟩
theorem DpAll.memT {K : PySem.W.Frag} {H : Hp} {vs : List V} {ds : List PyData} {v : V} (h : DpAll K H vs ds) (hv : v ∈ vs) : ∃ d ∈ ds, Dp K H v d := by
  obtain ⟨i, hi⟩ := List.mem_iff_getElem?.mp hv
  obtain ⟨d, h1, h2⟩ := h.getT hi
  exact ⟨d, List.mem_of_getElem? h1, h2⟩
theorem DpAll.appendT {K : PySem.W.Frag} {H : Hp} : ∀ {vs us : List V} {ds es : List PyData}, DpAll K H vs ds → DpAll K H us es → DpAll K H (vs ++ us) (ds ++ es)
  | _, _, _, _, .nil, s => s
  | _, _, _, _, .cons h t, s => .cons h (DpAll.appendT t s)
theorem DpAll.strsT {K : PySem.W.Frag} {H : Hp} : ∀ (xs : List Str), DpAll K H (xs.map V.str) (xs.map PyData.str)
  | [] => .nil
  | x :: xs => .cons (.str x) (DpAll.strsT xs)
/-- a value's type's name -/
def tyN : PyData → String
  | .none => "NoneType" | .bool _ => "bool" | .int _ => "int" | .str _ => "str" | .list _ => "list" | .tuple _ => "tuple" | .dict _ => "dict"
theorem Dp.tyT {K : PySem.W.Frag} {H : Hp} {v : V} {d : PyData} (h : Dp K H v d) : TyX K H v (.type (tyN d)) := by
  cases h with
  | non => exact .base .non
  | bl b => exact .base (.bl b)
  | int i => exact .base (.int i)
  | str x => exact .base (.str x)
  | lst hs _ =>
    rcases hs with (h | ⟨o, h⟩) | ⟨o, its, n, h, hc, _⟩
    · exact .base (.lst h)
    · exact .base (.frz h)
    · exact .kList h hc
  | tup hs _ =>
    rcases hs with (h | ⟨o, h⟩) | ⟨o, its, n, h, hc, _⟩
    · exact .base (.tup h)
    · exact .fTuple h
    · exact .kTuple h hc
def isStr : PyData → Bool | .str _ => true | _ => false
def isInt : PyData → Bool | .int _ => true | .bool _ => true | _ => false
def isBool : PyData → Bool | .bool _ => true | _ => false
def isLst : PyData → Bool | .list _ => true | _ => false
def isTup : PyData → Bool | .tuple _ => true | _ => false
def isNonD : PyData → Bool | .none => true | _ => false
theorem kit_str : ∀ d : PyData, kitB (tyN d) "str" = some (isStr d)
  | .none => (by decide +kernel : kitB "NoneType" "str" = some false)
  | .bool _ => (by decide +kernel : kitB "bool" "str" = some false)
  | .int _ => (by decide +kernel : kitB "int" "str" = some false)
  | .str _ => (by decide +kernel : kitB "str" "str" = some true)
  | .list _ => (by decide +kernel : kitB "list" "str" = some false)
  | .tuple _ => (by decide +kernel : kitB "tuple" "str" = some false)
  | .dict _ => (by decide +kernel : kitB "dict" "str" = some false)
theorem kit_int : ∀ d : PyData, kitB (tyN d) "int" = some (isInt d)
  | .none => (by decide +kernel : kitB "NoneType" "int" = some false)
  | .bool _ => (by decide +kernel : kitB "bool" "int" = some true)
  | .int _ => (by decide +kernel : kitB "int" "int" = some true)
  | .str _ => (by decide +kernel : kitB "str" "int" = some false)
  | .list _ => (by decide +kernel : kitB "list" "int" = some false)
  | .tuple _ => (by decide +kernel : kitB "tuple" "int" = some false)
  | .dict _ => (by decide +kernel : kitB "dict" "int" = some false)
theorem kit_bool : ∀ d : PyData, kitB (tyN d) "bool" = some (isBool d)
  | .none => (by decide +kernel : kitB "NoneType" "bool" = some false)
  | .bool _ => (by decide +kernel : kitB "bool" "bool" = some true)
  | .int _ => (by decide +kernel : kitB "int" "bool" = some false)
  | .str _ => (by decide +kernel : kitB "str" "bool" = some false)
  | .list _ => (by decide +kernel : kitB "list" "bool" = some false)
  | .tuple _ => (by decide +kernel : kitB "tuple" "bool" = some false)
  | .dict _ => (by decide +kernel : kitB "dict" "bool" = some false)
theorem kit_list : ∀ d : PyData, kitB (tyN d) "list" = some (isLst d)
  | .none => (by decide +kernel : kitB "NoneType" "list" = some false)
  | .bool _ => (by decide +kernel : kitB "bool" "list" = some false)
  | .int _ => (by decide +kernel : kitB "int" "list" = some false)
  | .str _ => (by decide +kernel : kitB "str" "list" = some false)
  | .list _ => (by decide +kernel : kitB "list" "list" = some true)
  | .tuple _ => (by decide +kernel : kitB "tuple" "list" = some false)
  | .dict _ => (by decide +kernel : kitB "dict" "list" = some false)
theorem kit_tuple : ∀ d : PyData, kitB (tyN d) "tuple" = some (isTup d)
  | .none => (by decide +kernel : kitB "NoneType" "tuple" = some false)
  | .bool _ => (by decide +kernel : kitB "bool" "tuple" = some false)
  | .int _ => (by decide +kernel : kitB "int" "tuple" = some false)
  | .str _ => (by decide +kernel : kitB "str" "tuple" = some false)
  | .list _ => (by decide +kernel : kitB "list" "tuple" = some false)
  | .tuple _ => (by decide +kernel : kitB "tuple" "tuple" = some true)
  | .dict _ => (by decide +kernel : kitB "dict" "tuple" = some false)
section
variable {K : PySem.W.Frag} {H : Hp} {v : V} {d : PyData} {Q : VK}
theorem isi_data {t : String} {b : Bool} (h : Dp K H v d) (e : kitB (tyN d) t = some b) (q : Q (.bl b) H) : rIsi K [v, .ty t] H Q :=
  ⟨v, .ty t, _, _, _, rfl, .ty t, h.tyT, kit_ty e, q⟩
theorem isi_str (h : Dp K H v d) (q : Q (.bl (isStr d)) H) : rIsi K [v, .ty "str"] H Q := isi_data h (kit_str d) q
theorem isi_int (h : Dp K H v d) (q : Q (.bl (isInt d)) H) : rIsi K [v, .ty "int"] H Q := isi_data h (kit_int d) q
theorem isi_bool (h : Dp K H v d) (q : Q (.bl (isBool d)) H) : rIsi K [v, .ty "bool"] H Q := isi_data h (kit_bool d) q
theorem isi_list (h : Dp K H v d) (q : Q (.bl (isLst d)) H) : rIsi K [v, .ty "list"] H Q := isi_data h (kit_list d) q
theorem isi_tuple (h : Dp K H v d) (q : Q (.bl (isTup d)) H) : rIsi K [v, .ty "tuple"] H Q := isi_data h (kit_tuple d) q
theorem clsLT : Paired ClsV [.ty "list", .ty "tuple"] [.type "list", .type "tuple"] := .cons (.ty _) (.cons (.ty _) .nil)
theorem kit_lt {K : PySem.W.Frag} (d : PyData) : PySem.W.kitAny K (.type (tyN d)) [.type "list", .type "tuple"] = some (isLst d || isTup d) := by
  refine kitAny_cons (kit_ty (kit_list d)) (fun e => ?_) (fun e => by rw [e]; rfl)
  rw [e]
  refine kitAny_cons (kit_ty (kit_tuple d)) (fun e2 => ?_) (fun e2 => by rw [e2]; rfl)
  rw [e2]; exact kitAny_nil
theorem Dp.isNonT (h : Dp K H v d) : decide (v = .non) = isNonD d := by
  cases h <;> simp [isNonD]
end
/-! ### a text's signs in a comprehension -/
theorem lc_str {z : Str} {g : TG} {tt : TT} {te : TE} {vs : List Nat} {σ : St} {H1 : Hp} {D : Addr} {Qd : Hp → Prop} (Pv : Nat → Hp → Prop) (h0 : Pv 0 (upd H1 D (.lst [])))
    (hs : ∀ i c H, z.cps.toList[i]? = some c → Pv i H → g (.str ⟨#[c]⟩) (wipe σ vs) H fun σ2 H2 => wipe σ2 vs = wipe σ vs ∧ tt σ2 H2 fun b H3 =>
      if b = true then te σ2 H3 fun y H4 => ∃ acc, H4 D = some (.lst acc) ∧ acc.length < sizeLine ∧ Pv (i + 1) (upd H4 D (.lst (acc ++ [y]))) else Pv (i + 1) H3) (hd : ∀ H, Pv z.cps.toList.length H → Qd H) :
    ∃ W : Nat → Nat → Hp → Prop, (∃ m, W 0 m (upd H1 D (.lst []))) ∧ ∀ i m H, W i m H →
      ((Its z).stop i H ∧ Qd H) ∨ ((Its z).go i H ∧ ∃ Nx : Hp → Prop, (∀ H', Nx H' → ∃ m', m' < m ∧ W (i + 1) m' H') ∧ ∀ x H', (Its z).yld i H x H' → g x (wipe σ vs) H' fun σ2 H2 => wipe σ2 vs = wipe σ vs ∧ tt σ2 H2 fun b H3 =>
        if b = true then te σ2 H3 fun y H4 => ∃ acc, H4 D = some (.lst acc) ∧ acc.length < sizeLine ∧ Nx (upd H4 D (.lst (acc ++ [y]))) else Nx H3) := by
  have hl : z.cps.toList.length = z.cps.size := by simp
  refine ⟨fun i m H => m = z.cps.size - i ∧ i ≤ z.cps.size ∧ Pv i H, ⟨z.cps.size, by simp, Nat.zero_le _, h0⟩, ?_⟩
  rintro i m H ⟨rfl, hi, p⟩
  by_cases hlt : i < z.cps.size
  · refine .inr ⟨hlt, Pv (i + 1), fun H' p' => ⟨z.cps.size - (i + 1), by omega, rfl, hlt, p'⟩, fun x H' y => ?_⟩
    obtain ⟨e, c, hc, rfl⟩ := y
    subst e
    exact hs i c _ (by simpa using hc) p
  · have e : i = z.cps.size := by omega
    subst e
    exact .inl ⟨Nat.le_refl _, hd H (by rw [hl]; exact p)⟩
/-- a comprehension over a text whose element is a value f c; what is made on the way stays -/
theorem lc_strV {z : Str} {g : TG} {tt : TT} {te : TE} {vs : List Nat} {σ : St} {H1 : Hp} {D : Addr} {Qd : Hp → Prop} (f : Nat → V) (hD : H1 D = none) (hz : z.length ≤ 100000)
    (hs : ∀ c H (Nx : V → Hp → Prop), c ∈ z.cps.toList → Same H1 H → (∀ H4, Same H H4 → Nx (f c) H4) → g (.str ⟨#[c]⟩) (wipe σ vs) H fun σ2 H2 => wipe σ2 vs = wipe σ vs ∧ tt σ2 H2 fun b H3 => b = true ∧ te σ2 H3 Nx)
    (hg : ∀ v σ H Q Q', (∀ σ H, Q σ H → Q' σ H) → g v σ H Q → g v σ H Q') (ht : ∀ σ H Q Q', (∀ b H, Q b H → Q' b H) → tt σ H Q → tt σ H Q')
    (hd : ∀ H, Same H1 H → H D = some (.lst (z.cps.toList.map f)) → Qd H) :
    ∃ W : Nat → Nat → Hp → Prop, (∃ m, W 0 m (upd H1 D (.lst []))) ∧ ∀ i m H, W i m H →
      ((Its z).stop i H ∧ Qd H) ∨ ((Its z).go i H ∧ ∃ Nx : Hp → Prop, (∀ H', Nx H' → ∃ m', m' < m ∧ W (i + 1) m' H') ∧ ∀ x H', (Its z).yld i H x H' → g x (wipe σ vs) H' fun σ2 H2 => wipe σ2 vs = wipe σ vs ∧ tt σ2 H2 fun b H3 =>
        if b = true then te σ2 H3 fun y H4 => ∃ acc, H4 D = some (.lst acc) ∧ acc.length < sizeLine ∧ Nx (upd H4 D (.lst (acc ++ [y]))) else Nx H3) := by
  refine lc_str (fun i H => Same H1 H ∧ H D = some (.lst ((z.cps.toList.take i).map f))) ⟨Same.newT hD, upd_same⟩ (fun i c H hc hP => ?_) (fun H hP => hd H hP.1 (by rw [hP.2, List.take_length]))
  obtain ⟨hP1, hP2⟩ := hP
  have hi := (List.getElem?_eq_some_iff.mp hc).1
  have hl : z.cps.toList.length = z.length := by simp [Str.length]
  refine hg _ _ _ _ _ ?_ (hs c H (fun y H4 => ∃ acc, H4 D = some (.lst acc) ∧ acc.length < sizeLine ∧ (Same H1 (upd H4 D (.lst (acc ++ [y]))) ∧ upd H4 D (.lst (acc ++ [y])) D = some (.lst ((z.cps.toList.take (i + 1)).map f)))) (List.mem_of_getElem? hc) hP1 fun H4 S4 => ?_)
  · rintro σ2 H2 ⟨e, h⟩
    refine ⟨e, ht _ _ _ _ ?_ h⟩
    rintro b H3 ⟨rfl, h⟩
    exact h
  · refine ⟨_, S4 _ _ hP2, ?_, Same.mutT (hP1.trans S4) hD, ?_⟩
    · rw [List.length_map, List.length_take]
      have : sizeLine = 16777216 := sizeLine_eq
      omega
    · rw [upd_same, List.take_succ, hc, List.map_append]; rfl
theorem gName_mono {i : Nat} : ∀ v σ H (Q Q' : St → Hp → Prop), (∀ σ H, Q σ H → Q' σ H) → gName i v σ H Q → gName i v σ H Q' := fun v σ H Q Q' h q => h _ _ q
theorem tYes_mono : ∀ σ H (Q Q' : Bool → Hp → Prop), (∀ b H, Q b H → Q' b H) → tYes σ H Q → tYes σ H Q' := fun σ H Q Q' h q => h _ _ q
structure Okd (P : Program) (w : World) (K : PySem.W.Frag) (mg : Str → Option Value) (base : Heap) (CX : CXT) (k : Nat) (x : Str) (st : Stmt) (ps : List Str) (sp : Sp) : Prop where
  ex : ∃ (f : Addr) (fd : FuncData), Fun K x x st f fd ∧ mg x = some (.ref f) ∧ FnOk P w K mg base CX k f fd ps sp
section
variable {P : Program} {w : World} {K : PySem.W.Frag} {mg : Str → Option Value} {base : Heap} {CX : CXT} {k : Nat} {x : Str} {st : Stmt} {ps : List Str} {sp : Sp}
theorem ok_mk {N : List Str} (D : Df K mg x st) (S : FnScope N ps (defScope st))
    (len : ∀ vs H Q E, sp vs H Q E → vs.length = ps.length)
    (hbody : ∀ (f : Addr) (cdv : Value) (A : Around) (outer : List Env) (s : Shared) (H : Hp) (vs : List V) (Q : VK) (E : XK), Room k (A.deeper (envOfC x (defScope st) s.heap.objs.size f cdv)) → sp vs H Q E →
      ∃ t, PSs (cxOf CX0 P w K mg base N x (defScope st) f cdv A outer s H E).nox (defBody st) t ∧ t { nx := fun _ H' => Q .non H', rt := Q } (start N vs) H) : Okd P w K mg base CX0 (k + 1) x st ps sp := by
  obtain ⟨f, fd, F, hm⟩ := D.ex
  exact ⟨f, fd, F, hm, F.ok S len (hbody f)⟩
theorem Okd.cl (o : Okd P w K mg base CX k x st ps sp) (hb : ∀ (kV doc pm : Value) (an : Option Addr) (cdv ct : Value) (us : List Value), us.length = ps.length → bindArgs (PySem.W.fnOf x x (defArgs st) (defBody st) (defScope st) .none kV doc pm an cdv ct) ⟨us, []⟩ = pure (ps.zip us)) :
    Cl P w K mg base CX k x sp [] := by
  obtain ⟨f, fd, F, hm, ok⟩ := o.ex
  exact ⟨f, fd, ps, [], ok, hm, F.kp, F.binds hb, .nil⟩
theorem Okd.cn (o : Okd P w K mg base CX0 k x st ps sp) (n : Nat) (ks : List Str) (g : {α : Type} → List α → List α → List α) (hr : ∀ {vs us zs ws}, Vals vs us → Vals zs ws → Vals (g vs zs) (g us ws))
    (hb : ∀ (kV doc pm : Value) (an : Option Addr) (cdv ct : Value) (us ws : List Value), us.length = n → ws.length = ks.length → bindArgs (PySem.W.fnOf x x (defArgs st) (defBody st) (defScope st) .none kV doc pm an cdv ct) ⟨us, ks.zip ws⟩ = pure (ps.zip (g us ws))) :
    CalN P w K mg base k x n ks (fun vs zs => g vs zs) sp := by
  obtain ⟨f, fd, F, hm, ok⟩ := o.ex
  obtain ⟨oc, od, kV, doc, pm, an, cdv, ct, osl, rfl, lk, hcd⟩ := F.ex
  exact ⟨f, _, ps, fun us ws => g us ws, ok, hm, F.kp, ⟨fun s us ws _ l1 l2 => .of_eq (hb kV doc pm an cdv ct us ws l1 l2), fun r1 r2 => hr r1 r2⟩⟩
end
end L2
namespace L2
open PySem PySem.Spec PyProof.Rows
/-! ### the built-ins' names are not the module's -/
structure Txt (mg : Str → Option Value) : Prop where
  b_len : mg "len" = none
  b_int : mg "int" = none
  b_str : mg "str" = none
  b_bool : mg "bool" = none
  b_list : mg "list" = none
  b_tuple : mg "tuple" = none
  b_range : mg "range" = none
  b_isinstance : mg "isinstance" = none
  b_all : mg "all" = none
  b_any : mg "any" = none
  b_sum : mg "sum" = none
  b_max : mg "max" = none
  b_min : mg "min" = none
  b_sorted : mg "sorted" = none
  b_enumerate : mg "enumerate" = none
  b_zip : mg "zip" = none
  b_dict : mg "dict" = none
  b_set : mg "set" = none
  b_repr : mg "repr" = none
  b_super : mg "super" = none
/-! ### the drawing of numbers -/
def Feed (H : Hp) (p l : Addr) : Prop := ∃ (ns : List Int) (i c s : Int), H p = some (.lst [.ref l, .int i, .int c, .int s]) ∧ H l = some (.lst (ns.map V.int)) ∧ l ≠ p ∧ 0 ≤ i ∧ 0 ≤ c ∧ 0 ≤ s ∧ s < 2147483647 ∧ ns.length < 64
/-- the feed has moved, nothing else -/
def Mv (p l : Addr) (H H' : Hp) : Prop := (∀ b o, b ≠ p → H b = some o → H' b = some o) ∧ Feed H' p l
theorem Feed.tk {p l : Addr} {H : Hp} (h : Feed H p l) : H p ≠ none := by
  obtain ⟨ns, i, c, s, h1, r⟩ := h
  rw [h1]; intro z; cases z
theorem Mv.off {p l : Addr} {H H' : Hp} {S : List Addr} (a : Mv p l H H') (h : p ∈ S) : Same (off H S) (off H' S) := fun b o e => by
  by_cases q : b ∈ S
  · rw [off_in q] at e; cases e
  · rw [off_ne q] at e ⊢; exact a.1 b o (fun z => q (by rw [z]; exact h)) e
theorem Mv.refl {p l : Addr} {H : Hp} (h : Feed H p l) : Mv p l H H := ⟨fun _ _ _ e => e, h⟩
theorem Mv.trans {p l : Addr} {H H1 H2 : Hp} (a : Mv p l H H1) (b : Mv p l H1 H2) : Mv p l H H2 := ⟨fun x o n e => b.1 x o n (a.1 x o n e), b.2⟩
theorem Feed.same {p l : Addr} {H H' : Hp} (h : Feed H p l) (e : Same H H') : Feed H' p l := by
  obtain ⟨ns, i, c, s, h1, h2, r⟩ := h
  exact ⟨ns, i, c, s, e _ _ h1, e _ _ h2, r⟩
theorem Mv.of_same {p l : Addr} {H H' : Hp} (h : Feed H p l) (e : Same H H') : Mv p l H H' := ⟨fun b o _ q => e b o q, h.same e⟩
theorem Mv.same {p l : Addr} {H H1 H2 : Hp} (a : Mv p l H H1) (e : Same H1 H2) : Mv p l H H2 := a.trans (Mv.of_same a.2 e)
theorem Mv.mut {p l D : Addr} {H H1 : Hp} {o : HO} (a : Mv p l H H1) (h : H D = none) (hp : D ≠ p) (hl : D ≠ l) : Mv p l H (upd H1 D o) := by
  refine ⟨fun b u n e => by rw [upd_ne (ne_of_none e h)]; exact a.1 b u n e, ?_⟩
  obtain ⟨ns, i, c, s, h1, h2, r⟩ := a.2
  exact ⟨ns, i, c, s, by rw [upd_ne hp.symm]; exact h1, by rw [upd_ne hl.symm]; exact h2, r⟩
theorem Feed.tkl {p l : Addr} {H : Hp} (h : Feed H p l) : H l ≠ none := by
  obtain ⟨ns, i, c, s, h1, h2, r⟩ := h
  rw [h2]; intro z; cases z
theorem Mv.new {p l q : Addr} {H H1 : Hp} {o : HO} (a : Mv p l H H1) (h : H1 q = none) : Mv p l H (upd H1 q o) := a.same (Same.newT h)
theorem Mv.tk {p l : Addr} {H H' : Hp} {S : List Addr} (a : Mv p l H H') (t : Tk H S) : Tk H' S := fun b hb => by
  by_cases e : b = p
  · subst e; exact a.2.tk
  · cases q : H b with
    | none => exact absurd q (t b hb)
    | some o => rw [a.1 b o e q]; intro z; cases z
/-- the feed's own list is written anew -/
theorem Feed.put {H : Hp} {p l : Addr} {ns : List Int} {i c s : Int} (h2 : H l = some (.lst (ns.map V.int))) (hl : l ≠ p) (h3 : 0 ≤ i) (h4 : 0 ≤ c) (h5 : 0 ≤ s) (h6 : s < 2147483647) (h7 : ns.length < 64) :
    Feed (upd H p (.lst [.ref l, .int i, .int c, .int s])) p l := ⟨ns, i, c, s, upd_same, by rw [upd_ne hl]; exact h2, hl, h3, h4, h5, h6, h7⟩
theorem Mv.put {H : Hp} {p l : Addr} {ns : List Int} {i c s : Int} (h2 : H l = some (.lst (ns.map V.int))) (hl : l ≠ p) (h3 : 0 ≤ i) (h4 : 0 ≤ c) (h5 : 0 ≤ s) (h6 : s < 2147483647) (h7 : ns.length < 64) :
    Mv p l H (upd H p (.lst [.ref l, .int i, .int c, .int s])) := ⟨fun b o n e => by rw [upd_ne n]; exact e, Feed.put h2 hl h3 h4 h5 h6 h7⟩
theorem Dp.on {K : PySem.W.Frag} {H : Hp} {S : List Addr} {v : V} {d : PyData} (h : Dp K (off H S) v d) : Dp K H v d := h.monoT (off_same H S) d
theorem DpAll.on {K : PySem.W.Frag} {H : Hp} {S : List Addr} {v : List V} {d : List PyData} (h : DpAll K (off H S) v d) : DpAll K H v d := h.monoT (off_same H S) d
theorem Dp.mv {K : PySem.W.Frag} {H H' : Hp} {p : Addr} {S : List Addr} {v : V} {d : PyData} (h : Dp K (off H S) v d) (m : Mv p l H H') (hp : p ∈ S) : Dp K (off H' S) v d := h.monoT (m.off hp) d
theorem DpAll.mv {K : PySem.W.Frag} {H H' : Hp} {p : Addr} {S : List Addr} {v : List V} {d : List PyData} (h : DpAll K (off H S) v d) (m : Mv p l H H') (hp : p ∈ S) : DpAll K (off H' S) v d := h.monoT (m.off hp) d
/-- take: a number below many -/
def spTake : Sp := fun vs H Q _ => ∃ (p l : Addr) (m : Int), vs = [.ref p, .int m] ∧ Feed H p l ∧ 0 < m ∧ m < 1000 ∧ ∀ (r : Int) (H' : Hp), 0 ≤ r → r < m → Mv p l H H' → Q (.int r) H'
/-- of: one of some -/
def spOf (K : PySem.W.Frag) : Sp := fun vs H Q _ => ∃ (p l : Addr) (v : V), vs = [.ref p, v] ∧ Feed H p l ∧
  ((∃ a xs, v = .ref a ∧ (SqL K (off H [p]) a xs ∨ SqT K (off H [p]) a xs) ∧ 0 < xs.length ∧ xs.length < 1000 ∧ ∀ x H', x ∈ xs → Mv p l H H' → Q x H') ∨
   (∃ z : Str, v = .str z ∧ 0 < z.length ∧ z.length < 1000 ∧ ∀ c H', c ∈ z.cps.toList → Mv p l H H' → Q (.str ⟨#[c]⟩) H'))
def spFeed (K : PySem.W.Frag) : Sp := fun vs H Q _ => ∃ (a : Addr) (ns : List Int), vs = [.ref a] ∧ SqL K H a (ns.map V.int) ∧ ns.length ≤ 63 ∧ ∀ p l H', Same H H' → Feed H' p l → H p = none → H l = none → Q (.ref p) H'
theorem mod_lt {a b : Int} (h : 0 < b) : 0 ≤ a.fmod b ∧ a.fmod b < b := ⟨Int.fmod_nonneg_of_pos _ h, Int.fmod_lt_of_pos _ h⟩
def dok : Nat → PyData → Bool
  | n + 1, .list ds => decide (ds.length ≤ 100000) && ds.all (dok n)
  | n + 1, .tuple ds => decide (ds.length ≤ 100000) && ds.all (dok n)
  | _, .none => true
  | _, .bool _ => true
  | _, .int _ => true
  | _, .str s => decide (s.length ≤ 100000)
  | _, _ => false
/-- same: two equal data -/
def spSame (K : PySem.W.Frag) : Nat → Sp
  | 0 => fun _ _ _ _ => False
  | n + 1 => fun vs H Q _ => ∃ (a b : V) (d : PyData), vs = [a, b] ∧ Dp K H a d ∧ Dp K H b d ∧ dok n d = true ∧ ∀ H', Same H H' → Q (.bl true) H'
theorem same_seqs {K : PySem.W.Frag} {H : Hp} {a b : V} {d : PyData} {n : Nat} (ha : Dp K H a d) (hb : Dp K H b d) (hd : dok n d = true) (hq : (isLst d || isTup d) = true) :
    ∃ (p q : Addr) (xs ys : List V) (ds : List PyData) (m : Nat), n = m + 1 ∧ a = .ref p ∧ b = .ref q ∧ (SqL K H p xs ∨ SqT K H p xs) ∧ (SqL K H q ys ∨ SqT K H q ys) ∧ DpAll K H xs ds ∧ DpAll K H ys ds ∧ ds.length ≤ 100000 ∧ ∀ d ∈ ds, dok m d = true := by
  cases d with
  | list ds =>
    cases n with
    | zero => cases hd
    | succ m =>
      have hd' : (decide (ds.length ≤ 100000) && ds.all (dok m)) = true := hd
      rw [Bool.and_eq_true, List.all_eq_true] at hd'
      cases ha with
      | lst hs hall =>
        cases hb with
        | lst hs2 hall2 => exact ⟨_, _, _, _, ds, m, rfl, rfl, rfl, .inl hs, .inl hs2, hall, hall2, of_decide_eq_true hd'.1, hd'.2⟩
  | tuple ds =>
    cases n with
    | zero => cases hd
    | succ m =>
      have hd' : (decide (ds.length ≤ 100000) && ds.all (dok m)) = true := hd
      rw [Bool.and_eq_true, List.all_eq_true] at hd'
      cases ha with
      | tup hs hall =>
        cases hb with
        | tup hs2 hall2 => exact ⟨_, _, _, _, ds, m, rfl, rfl, rfl, .inr hs, .inr hs2, hall, hall2, of_decide_eq_true hd'.1, hd'.2⟩
  | _ => cases hq
/-- a place of a list or a tuple -/
theorem ix_any {K : PySem.W.Frag} {H : Hp} {p : Addr} {xs : List V} {i : Nat} {x : V} {z : Int} {Q : VK} (h : SqL K H p xs ∨ SqT K H p xs) (hx : xs[i]? = some x) (hz : z = (i : Int)) (q : Q x H) : rIx K (.ref p) (.int z) H Q := by
  subst hz
  exact h.elim (fun h => .inl ⟨p, xs, _, x, rfl, rfl, h, atI_nat hx, q⟩) (fun h => .inr (.inl ⟨p, xs, _, x, rfl, rfl, h, atI_nat hx, q⟩))
theorem Same.seqs {K : PySem.W.Frag} {H H' : Hp} {p : Addr} {xs : List V} (e : Same H H') (h : SqL K H p xs ∨ SqT K H p xs) : SqL K H' p xs ∨ SqT K H' p xs :=
  h.elim (fun h => .inl (Same.seq e h)) (fun h => .inr (Same.seqTT e h))
theorem len_any {K : PySem.W.Frag} {H : Hp} {p : Addr} {xs : List V} (h : SqL K H p xs ∨ SqT K H p xs) : LenV K (.ref p) H xs.length := h.elim (fun h => .inl ⟨_, h, rfl⟩) (fun h => .inr ⟨_, h, rfl⟩)
end L2
namespace L2
open PySem PySem.Spec PyProof.Rows
/-! ### contracts of defs by the form of a call: positional values, keywords named ks -/
abbrev Sp2 := List V → List V → Hp → VK → XK → Prop
structure FnA (P : Program) (w : World) (K : PySem.W.Frag) (mg : Str → Option Value) (base : Heap) (CX : CXT) (k : Nat) (f : Addr) (ks : List Str) (sp : Sp2) : Prop where
  run : ∀ (A : Around) (outer : List Env) (s : Shared) (H : Hp) (us ws : List Value) (vs zs : List V) (Q : VK) (E : XK), Room k A → Env0 P w K mg base A outer s H → Vals vs us → Vals zs ws → zs.length = ks.length → sp vs zs H Q E →
    codeAny (model P w) A (.call (.ref f) ⟨us, ks.zip ws⟩) (CR CX outer P w H s Q E) s
section
variable {P : Program} {w : World} {K : PySem.W.Frag} {mg : Str → Option Value} {base : Heap} {CX : CXT} {k j n : Nat} {f : Addr} {fd : FuncData} {ps ks : List Str} {sp : Sp} {sp2 : Sp2} {ds : List Value} {dvs : List V} {g : List Value → List Value → List Value} {gV : List V → List V → List V}
theorem FnA.mono (F : FnA P w K mg base CX j f ks sp2) (h : j ≤ k) : FnA P w K mg base CX k f ks sp2 := ⟨fun A o s H us ws vs zs Q E hr => F.run A o s H us ws vs zs Q E (hr.mono h)⟩
theorem FnA.imp {sp' : Sp2} (F : FnA P w K mg base CX k f ks sp2) (h : ∀ vs zs H Q E, sp' vs zs H Q E → sp2 vs zs H Q E) : FnA P w K mg base CX k f ks sp' :=
  ⟨fun A o s H us ws vs zs Q E hr he r1 r2 l hs => F.run A o s H us ws vs zs Q E hr he r1 r2 l (h _ _ _ _ _ hs)⟩
theorem kIn0 {A : Around} {outer : List Env} {s : Shared} {H : Hp} (e : Env0 P w K mg base A outer s H) : K.In s.heap := e.mod.kin.keeps fun b o q => (e.bs b o q).1
/-- positional values, then the defaults -/
theorem FnOk.toA (F : FnOk P w K mg base CX k f fd ps sp) (hb : Binds K fd ps ds) (hd : Vals dvs ds) : FnA P w K mg base CX k f [] (fun vs _ H Q E => sp (vs ++ dvs) H Q E) :=
  ⟨fun A o s H us ws vs zs Q E hr he r1 r2 l hs => by
    have r := r1.append hd
    have hl : (us ++ ds).length = ps.length := by rw [← r.length]; exact F.len _ _ _ _ hs
    have := F.run A o s H ⟨us, []⟩ (us ++ ds) (vs ++ dvs) Q E hr he (hb s us (kIn0 he) hl) r hs
    simpa using this⟩
/-- n positional values, keywords named ks -/
theorem FnOk.toK (F : FnOk P w K mg base CX k f fd ps sp) (hb : KBn K fd ps n ks g gV) : FnA P w K mg base CX k f ks (fun vs zs H Q E => vs.length = n ∧ sp (gV vs zs) H Q E) :=
  ⟨fun A o s H us ws vs zs Q E hr he r1 r2 l hs =>
    F.run A o s H ⟨us, ks.zip ws⟩ (g us ws) (gV vs zs) Q E hr he (hb.to s us ws (kIn0 he) (r1.length.symm.trans hs.1) (r2.length.symm.trans l)) (hb.rel r1 r2) hs.2⟩
end
section
variable {X : Cx} {CX : CXT} {k : Nat} {f : Addr} {ks : List Str} {sp : Sp2} {E : XK}
/-- the callee runs, within A -/
theorem run_fnA {A : Around} {pins : List (Addr × Obj)} {σ : St} {H : Hp} {s : Shared} {Q : VK} {us ws : List Value} {vs zs : List V} (F : FnA X.prog X.w X.K X.mg X.base CX k f ks sp) (hr : Room k A) (hf : A.frames = X.A.frames) (hx : Passes CX X E)
    (I : Inv X pins σ H s) (r : Vals vs us) (rz : Vals zs ws) (l : zs.length = ks.length) (h : sp vs zs H Q E) : wpAny (model X.prog X.w) A (call (.ref f) us (ks.zip ws)) (EP X pins σ Q) X.xe s := by
  have e0 : Env0 X.prog X.w X.K X.mg X.base A X.stack s H := by
    have e := I.env0
    exact ⟨by rw [hf]; exact e.frames, e.mod, e.bs, e.bsz, e.funs, e.frf, e.hok, e.bare⟩
  refine wpAny_call (codeAny_mono (F.run A X.stack s H us ws vs zs Q E hr e0 r rz l h) fun r s' hq => ?_)
  cases r with
  | error e => exact hx pins σ H s e s' I hq
  | ok fl =>
    cases fl with
    | ret u => exact I.after hq
    | next => exact False.elim hq
    | brk => exact False.elim hq
    | cont => exact False.elim hq
theorem run_fnA0 {A : Around} {pins : List (Addr × Obj)} {σ : St} {H : Hp} {s : Shared} {Q : VK} {us : List Value} {vs : List V} (F : FnA X.prog X.w X.K X.mg X.base CX k f [] sp) (hr : Room k A) (hf : A.frames = X.A.frames) (hx : Passes CX X E)
    (I : Inv X pins σ H s) (r : Vals vs us) (h : sp vs [] H Q E) : wpAny (model X.prog X.w) A (call (.ref f) us) (EP X pins σ Q) X.xe s := by
  have := run_fnA (ws := []) F hr hf hx I r .nil rfl h
  simpa using this
end
/-! ### methods: the class at C answers to m -/
structure MtC (P : Program) (w : World) (K : PySem.W.Frag) (mg : Str → Option Value) (base : Heap) (CX : CXT) (k : Nat) (C : Addr) (m : Str) (ks : List Str) (sp : Sp2) : Prop where
  ex : ∃ f, Meth K C m f ∧ FnA P w K mg base CX k f ks sp
  cl : Cls K C
section
variable {P : Program} {w : World} {K : PySem.W.Frag} {mg : Str → Option Value} {base : Heap} {CX : CXT} {k j : Nat} {C : Addr} {m : Str} {ks : List Str} {sp sp' : Sp2}
theorem MtC.mono (F : MtC P w K mg base CX j C m ks sp) (h : j ≤ k) : MtC P w K mg base CX k C m ks sp := by
  obtain ⟨⟨f, h1, h2⟩, c⟩ := F
  exact ⟨⟨f, h1, h2.mono h⟩, c⟩
theorem MtC.imp (F : MtC P w K mg base CX k C m ks sp) (h : ∀ vs zs H Q E, sp' vs zs H Q E → sp vs zs H Q E) : MtC P w K mg base CX k C m ks sp' := by
  obtain ⟨⟨f, h1, h2⟩, c⟩ := F
  exact ⟨⟨f, h1, h2.imp h⟩, c⟩
end
def tMethA (X : Cx) (CX : CXT) (k : Nat) (m : Str) (ks : List Str) (E : XK) (ta : TE) (t tk : TA) : TE := fun σ H Q => ta σ H fun x H1 => ∃ a C dx fs sp, x = .ref a ∧ H1 a = some (.ins C dx fs) ∧ fs.lookup m = none ∧ MtC X.prog X.w X.K X.mg X.base CX k C m ks sp ∧
  t σ H1 fun vs H2 => tk σ H2 fun zs H3 => zs.length = ks.length ∧ sp (x :: vs) zs H3 Q E
section
variable {X : Cx} {CX : CXT} {k : Nat} {ks : List Str} {E : XK} {m : Str} {apos pos : Pos} {o e : Expr} {es : List Expr} {kws : List Keyword} {ta : TE} {t tk : TA} {pl : Sem Bool}
theorem pe_methA (hr : Room k X.A) (hx : Passes CX X E) (he : PE X o ta) (ha : PA X (e :: es) t) (hkw : PK X kws tk)
    (hall : (backToKw pos (keywordEach kws X.env)).all (·.1.isSome) = true := by rfl) (hks : (backToKw pos (keywordEach kws X.env)).filterMap (·.1) = ks := by rfl)
    (hst : starEach (e :: es) X.env = (false, eval e X.env) :: starEach es X.env := by rfl)
    (hpl : ((backTo pos (starEach (e :: es) X.env)).any (·.1) || (backToKw pos (keywordEach kws X.env)).any (·.1.isNone)) = false := by rfl)
    (ht : eval (.Call (.Attribute o m apos) (e :: es) kws pos) X.env = (do
      let ov ← eval o X.env
      standAt apos.atName
      let (f, first) ← holding [ov] (getMethod ov m pl)
      callWith pos f first (backTo pos (starEach (e :: es) X.env)) (backToKw pos (keywordEach kws X.env))) := by rfl) :
    PE X (.Call (.Attribute o m apos) (e :: es) kws pos) (tMethA X CX k m ks E ta t tk) := by
  refine ⟨fun pins s σ H Q I h => ?_⟩
  refine PySem.W.methodCall_KW (pl := pl) (thn (he.run pins s σ H _ I h) fun u s1 ⟨x, H1, I1, rx, a, C, dx, fs, sp, ex, ea, l, M, q⟩ => ?_) ht
  subst ex
  obtain rfl : u = Value.ref a := rx
  obtain ⟨⟨f, hm, F⟩, c⟩ := M
  refine getmeth_ok I1 ea c hm l ?_
  refine PySem.W.callWith_KW (first := [.ref a]) (h₀ := X.base) I.ok.mod.kin hm.kp hall (thn (ha.run pos pins s1 σ H1 _ I1 q) fun us s2 ⟨vs, H2, I2, r, q2⟩ => ?_) hpl hst
  refine thn (hkw.run pos pins s2 σ H2 _ I2 q2) fun ws s3 ⟨zs, H3, I3, rz, l2, q3⟩ => ⟨I3.kIn, ?_⟩
  rw [hks]
  exact run_fnA (us := .ref a :: us) (vs := .ref a :: vs) F hr rfl hx I3 (.cons rfl r) rz l2 q3
theorem pe_methA0 (hr : Room k X.A) (hx : Passes CX X E) (he : PE X o ta) (hkw : PK X kws tk)
    (hall : (backToKw pos (keywordEach kws X.env)).all (·.1.isSome) = true := by rfl) (hks : (backToKw pos (keywordEach kws X.env)).filterMap (·.1) = ks := by rfl)
    (hpl : ((backTo pos (starEach [] X.env)).any (·.1) || (backToKw pos (keywordEach kws X.env)).any (·.1.isNone)) = false := by rfl)
    (ht : eval (.Call (.Attribute o m apos) [] kws pos) X.env = (do
      let ov ← eval o X.env
      standAt apos.atName
      let (f, first) ← holding [ov] (getMethod ov m pl)
      callWith pos f first (backTo pos (starEach [] X.env)) (backToKw pos (keywordEach kws X.env))) := by rfl) :
    PE X (.Call (.Attribute o m apos) [] kws pos) (tMethA X CX k m ks E ta tNil tk) := by
  refine ⟨fun pins s σ H Q I h => ?_⟩
  refine PySem.W.methodCall_KW (pl := pl) (thn (he.run pins s σ H _ I h) fun u s1 ⟨x, H1, I1, rx, a, C, dx, fs, sp, ex, ea, l, M, q⟩ => ?_) ht
  subst ex
  obtain rfl : u = Value.ref a := rx
  obtain ⟨⟨f, hm, F⟩, c⟩ := M
  refine getmeth_ok I1 ea c hm l ?_
  refine PySem.W.callWith_KW0 (first := [.ref a]) (h₀ := X.base) I.ok.mod.kin hm.kp hall ?_ hpl
  refine thn (hkw.run pos pins s1 σ H1 _ I1 q) fun ws s3 ⟨zs, H3, I3, rz, l2, q3⟩ => ⟨I3.kIn, ?_⟩
  rw [hks]
  exact run_fnA (us := [.ref a]) (vs := [.ref a]) F hr rfl hx I3 (.cons rfl .nil) rz l2 q3
end
/-! ### new instances: the name x is the class at C -/
structure MkA (P : Program) (w : World) (K : PySem.W.Frag) (mg : Str → Option Value) (base : Heap) (CX : CXT) (k : Nat) (x : Str) (C : Addr) (ks : List Str) (sp : Sp2) : Prop where
  ex : ∃ f, Mk K C f ∧ FnA P w K mg base CX k f ks sp
  mg : mg x = some (.ref C)
def tMakeA (C : Addr) (ks : List Str) (sp : Sp2) (E : XK) (t tk : TA) : TE := fun σ H Q => t σ H fun vs H1 => tk σ H1 fun zs H2 => zs.length = ks.length ∧ ∀ x dx, H2 x = none → H2 dx = none → dx ≠ x →
  sp (.ref x :: vs) zs (upd (upd H2 dx (.own x)) x (.ins C dx [])) (fun v H3 => v = .non ∧ Q (.ref x) H3) E
section
variable {X : Cx} {CX : CXT} {k j : Nat} {C : Addr} {ks : List Str} {sp : Sp2} {E : XK} {x : Str} {p pos : Pos} {e : Expr} {es : List Expr} {kws : List Keyword} {t tk : TA}
theorem run_makeA {pins : List (Addr × Obj)} {σ : St} {H : Hp} {s : Shared} {Q : VK} {us ws : List Value} {vs zs : List V} (M : MkA X.prog X.w X.K X.mg X.base CX k x C ks sp) (hr : Room (k + 1) X.A) (hx : Passes CX X E) (I : Inv X pins σ H s) (r : Vals vs us) (rz : Vals zs ws) (l : zs.length = ks.length)
    (h : ∀ x dx, H x = none → H dx = none → dx ≠ x → sp (.ref x :: vs) zs (upd (upd H dx (.own x)) x (.ins C dx [])) (fun v H2 => v = .non ∧ Q (.ref x) H2) E) :
    wpAny (model X.prog X.w) X.A (call (.ref C) us (ks.zip ws)) (EP X pins σ Q) X.xe s := by
  obtain ⟨⟨f, M, F⟩, _⟩ := M
  have hq := h (s.heap.objs.size + 1) s.heap.objs.size (I.hok.fresh (Nat.le_succ _)) (I.hok.fresh (Nat.le_refl _)) (Nat.ne_of_lt (Nat.lt_succ_self _))
  have I2 := Inv.made (C := C) I
  have r1 : Vals (V.ref (s.heap.objs.size + 1) :: vs) (Value.ref (s.heap.objs.size + 1) :: us) := .cons rfl r
  refine wpAny_call (make_map (f := f) I.kIn M.makes M.init (beq_iff_eq.mp M.fn) (codeAny_mono (F.run _ X.stack _ _ (Value.ref (s.heap.objs.size + 1) :: us) ws _ _ _ E (hr.make C us (ks.zip ws))
    (I2.env0.make C us (ks.zip ws)) r1 rz l hq) fun r s' hq' => ?_))
  cases r with
  | error e => exact hx pins σ _ _ e s' I2 hq'
  | ok fl =>
    cases fl with
    | ret u =>
      obtain ⟨v, H', I3, rv, ev, q3⟩ := I2.after hq'
      subst ev
      exact ⟨rv, ⟨V.ref (s.heap.objs.size + 1), H', I3, rfl, q3⟩⟩
    | next => exact False.elim hq'
    | brk => exact False.elim hq'
    | cont => exact False.elim hq'
theorem pe_makeA (M : MkA X.prog X.w X.K X.mg X.base CX k x C ks sp) (hr : Room j X.A) (hk : k + 1 ≤ j) (hx : Passes CX X E) (hg : Gl X x) (ha : PA X (e :: es) t) (hkw : PK X kws tk)
    (hall : (backToKw pos (keywordEach kws X.env)).all (·.1.isSome) = true := by rfl) (hks : (backToKw pos (keywordEach kws X.env)).filterMap (·.1) = ks := by rfl)
    (hdb : (x == ("__debug__" : Str)) = false := by decide) (he : starEach (e :: es) X.env = (false, eval e X.env) :: starEach es X.env := by rfl)
    (hpl : ((backTo pos (starEach (e :: es) X.env)).any (·.1) || (backToKw pos (keywordEach kws X.env)).any (·.1.isNone)) = false := by rfl) :
    PE X (.Call (.Name x p) (e :: es) kws pos) (tMakeA C ks sp E t tk) := by
  refine ⟨fun pins s σ H Q I h => ?_⟩
  obtain ⟨f, m, F⟩ := M.ex
  refine wpAny_Call_Name_kw (ld_glob I hg M.mg ?_ hdb)
  refine PySem.W.callWith_KW (h₀ := X.base) I.ok.mod.kin m.kp hall (thn (ha.run pos pins s σ H _ I h) fun us s1 ⟨vs, H1, I1, r, q⟩ => ?_) hpl he
  refine thn (hkw.run pos pins s1 σ H1 _ I1 q) fun ws s2 ⟨zs, H2, I2, rz, l2, q2⟩ => ⟨I2.kIn, ?_⟩
  rw [hks]
  exact run_makeA M (hr.mono hk) hx I2 r rz l2 q2
theorem pe_makeA0 (M : MkA X.prog X.w X.K X.mg X.base CX k x C ks sp) (hr : Room j X.A) (hk : k + 1 ≤ j) (hx : Passes CX X E) (hg : Gl X x) (hkw : PK X kws tk)
    (hall : (backToKw pos (keywordEach kws X.env)).all (·.1.isSome) = true := by rfl) (hks : (backToKw pos (keywordEach kws X.env)).filterMap (·.1) = ks := by rfl) (hdb : (x == ("__debug__" : Str)) = false := by decide)
    (hpl : ((backTo pos (starEach [] X.env)).any (·.1) || (backToKw pos (keywordEach kws X.env)).any (·.1.isNone)) = false := by rfl) :
    PE X (.Call (.Name x p) [] kws pos) (tMakeA C ks sp E tNil tk) := by
  refine ⟨fun pins s σ H Q I h => ?_⟩
  obtain ⟨f, m, F⟩ := M.ex
  refine wpAny_Call_Name_kw (ld_glob I hg M.mg ?_ hdb)
  refine PySem.W.callWith_KW0 (h₀ := X.base) I.ok.mod.kin m.kp hall ?_ hpl
  refine thn (hkw.run pos pins s σ H _ I h) fun ws s2 ⟨zs, H2, I2, rz, l2, q2⟩ => ⟨I2.kIn, ?_⟩
  rw [hks]
  exact run_makeA (us := []) (vs := []) M (hr.mono hk) hx I2 .nil rz l2 q2
end
/-- a class without __init__ -/
structure Mk0 (K : PySem.W.Frag) (mg : Str → Option Value) (x : Str) (C : Addr) : Prop where
  makes : PySem.W.makesIn K C = true
  init : PySem.W.findIn K (.ref C) "__init__" = some (some (.builtin "object.__init__"))
  kp : PySem.W.keepIn K (.ref C) = true
  mg : mg x = some (.ref C)
def tMake0 (C : Addr) : TE := fun _ H Q => ∀ x dx, H x = none → H dx = none → dx ≠ x → Q (.ref x) (upd (upd H dx (.own x)) x (.ins C dx []))
theorem make_plain0 {prog : Program} {w : World} {A : Around} {K : PySem.W.Frag} {C : Addr} {R : Result → Shared → Prop} {s : Shared} (X : K.In s.heap) (hm : PySem.W.makesIn K C = true) (hi : PySem.W.findIn K (.ref C) "__init__" = some (some (.builtin "object.__init__")))
    (h : R (.ok (.ret (.ref (s.heap.objs.size + 1)))) { s with heap := (s.heap.push PySem.W.emptyDict).push (PySem.W.instObj C s.heap.objs.size) }) : codeAny (model prog w) A (.call (.ref C) ⟨[], []⟩) R s := by
  obtain ⟨hh, g, d, t, os⟩ := s
  have Y := PySem.W.makes_of (M := model prog w) X hm
  have e2 : ((hh.push PySem.W.emptyDict).push (PySem.W.instObj C hh.objs.size)).get? (hh.objs.size + 1) = some (PySem.W.instObj C hh.objs.size) := by
    have := Heap.get?_push_size (hh.push PySem.W.emptyDict) (o := PySem.W.instObj C hh.objs.size) rfl
    rwa [Heap.size_push] at this
  refine PySem.W.make_core Y (PySem.W.looks_findIn X hi) (fun self => PySem.W.Looks.of_pure (PySem.W.oi_bind self)) (.inr ⟨rfl, rfl⟩) ?_
  have t1 : PySem.W.Looks (model prog w) ((hh.push PySem.W.emptyDict).push (PySem.W.instObj C hh.objs.size)) (typeOf (.ref (hh.objs.size + 1))) (.ref C) := (PySem.W.Looks.ld e2).andThen .now
  have t2 : PySem.W.Looks (model prog w) ((hh.push PySem.W.emptyDict).push (PySem.W.instObj C hh.objs.size)) (isInstance (.ref (hh.objs.size + 1)) (.type "object")) true := t1.andThen (Y.top.keeps fun b o e => Heap.get?_push_of_some _ (Heap.get?_push_of_some _ e))
  refine codeAny_call_builtin PySem.W.oi_plain PySem.W.entry_oi (@PySem.W.check_slot (model prog w) _ _ _ "object.__init__" "object" "__init__" (.ref (hh.objs.size + 1)) [] [] _ PySem.W.oi_kind PySem.W.oi_split t2 (PySem.W.oi_args (.ref (hh.objs.size + 1))) ?_)
  rw [PySem.W.oi_run]
  exact wpAny_pure (And.intro rfl h)
section
variable {X : Cx} {C : Addr} {x : Str} {p pos : Pos}
theorem pe_make00 (M : Mk0 X.K X.mg x C) (hg : Gl X x) (hdb : (x == ("__debug__" : Str)) = false := by decide) : PE X (.Call (.Name x p) [] [] pos) (tMake0 C) := by
  refine ⟨fun pins s σ H Q I h => ?_⟩
  refine wpAny_Call_Name_kw (ld_glob I hg M.mg ?_ hdb)
  refine PySem.W.callWith_K0 I.kIn M.kp (wpAny_call (make_plain0 I.kIn M.makes M.init ?_))
  exact ⟨.ref (s.heap.objs.size + 1), _, Inv.made (C := C) I, rfl, h _ _ (I.hok.fresh (Nat.le_succ _)) (I.hok.fresh (Nat.le_refl _)) (Nat.ne_of_lt (Nat.lt_succ_self _))⟩
end
/-! ### a value's type as the library looks it up -/
theorem looks_ty {X : Cx} {pins : List (Addr × Obj)} {σ : St} {H : Hp} {s : Shared} {M : Model} {y : V} {u t : Value} (I : Inv X pins σ H s) (ry : RelV y u) (ty : TyOf X.K H y t) : PySem.W.Looks M s.heap (typeOf u) t := by
  cases ty with
  | non => cases (show u = Value.none from ry); exact PySem.W.Looks.of_pure rfl
  | bl y => cases (show u = Value.bool y from ry); exact PySem.W.Looks.of_pure rfl
  | int i => obtain ⟨t, q⟩ := (show ∃ t, u = Value.int i t from ry); cases q; exact PySem.W.Looks.of_pure rfl
  | str y => obtain ⟨t, q⟩ := (show ∃ t, u = Value.str y t from ry); cases q; exact PySem.W.Looks.of_pure rfl
  | flt y => obtain ⟨t, q⟩ := (show ∃ t, u = Value.float y t from ry); cases q; exact PySem.W.Looks.of_pure rfl
  | @lst a xs ea =>
    cases (show u = Value.ref a from ry)
    obtain ⟨_, _, n, _, h1⟩ := (show ObjOk X.prog X.w H s.heap a (.lst xs) from I.hok a _ ea)
    exact (PySem.W.Looks.ld h1).andThen .now
  | @frz a ob xs ea =>
    cases (show u = Value.ref a from ry)
    obtain ⟨_, _, _, n, _, h1⟩ := (show ObjOk X.prog X.w H s.heap a (.frz ob (.lst xs)) from I.hok a _ ea)
    exact (PySem.W.Looks.ld h1).andThen .now
  | @tup a xs ea =>
    cases (show u = Value.ref a from ry)
    obtain ⟨_, _, _, o, h1, h2, _⟩ := (show ObjOk X.prog X.w H s.heap a (.tup xs) from I.hok a _ ea)
    exact h2 ▸ (PySem.W.Looks.ld h1).andThen .now
  | @dK a kvs ea =>
    cases (show u = Value.ref a from ry)
    obtain ⟨_, _, vs, _, o, es, ep, h1, h2, _⟩ := (show ObjOk X.prog X.w H s.heap a (.dK kvs) from I.hok a _ ea)
    exact h2.1 ▸ (PySem.W.Looks.ld h1).andThen .now
  | @dT a kvs ea =>
    cases (show u = Value.ref a from ry)
    obtain ⟨_, _, xs, _, o, es, ep, h1, h2, _⟩ := (show ObjOk X.prog X.w H s.heap a (.dT kvs) from I.hok a _ ea)
    exact h2.1 ▸ (PySem.W.Looks.ld h1).andThen .now
  | @ins a C dx fs ea cl ha hn htk hm =>
    cases (show u = Value.ref a from ry)
    obtain ⟨mA, O, _⟩ := ins_get I.hok ea
    obtain ⟨od, J, _⟩ := O.look
    exact J.type
/-! ### == and != by the class's own __eq__ -/
theorem rel_cmp {Q : Value → Shared → Prop} {v : V} {u : Value} {s' : Shared} (r : RelV v u) (h : Q u s') : PySem.W.CmpBack Q u s' := by
  cases u <;> first | exact h | (cases v <;> first | exact r.elim | (obtain ⟨_, z⟩ := r; cases z) | cases r)
def rEqI (X : Cx) (CX : CXT) (k : Nat) (E : XK) : R2 := fun x y H Q => ∃ a C dx fs sp t, x = .ref a ∧ H a = some (.ins C dx fs) ∧ MtC X.prog X.w X.K X.mg X.base CX k C "__eq__" [] sp ∧ TyOf X.K H y t ∧ PySem.W.notFirst X.K C t = true ∧ sp [x, y] [] H Q E
theorem op_eqI {X : Cx} {CX : CXT} {k : Nat} {E : XK} (hr : Room k X.A) (hx : Passes CX X E) : OpR X (compareOp .Eq) (rEqI X CX k E) := by
  rintro pins s σ H x y u v Q I rx ry ⟨a, C, dx, fs, sp, t, rfl, ha, M, ty, nf, q⟩
  obtain rfl : u = Value.ref a := rx
  obtain ⟨⟨f, hm, F⟩, c⟩ := M
  obtain ⟨mA, J, _⟩ := ins_get I.hok ha
  obtain ⟨od, J, _⟩ := J.look
  obtain ⟨m, hF⟩ := I.fr
  show wpAny (model X.prog X.w) X.A (richCompare .Eq (.ref a) v) (EP X pins σ Q) X.xe s
  refine PySem.W.cmp_K (op := .Eq) hr.units0 hF I.ok.mod.kin J (looks_ty I ry ty) nf hm.at_ hm.fn ?_
  exact wpAny_mono (run_fnA0 (us := [.ref a, v]) (vs := [.ref a, y]) F hr rfl hx I (.cons rfl (.cons ry .nil)) q) (fun r s' h => let ⟨_, _, _, rv, _⟩ := h; rel_cmp rv h) fun _ _ e => e
theorem ifBound_B {M : Model} {A : Around} {E : Value → Shared → Prop} {s : Shared} {K : PySem.W.Frag} {x C : Addr} {ox : Obj} {od : Option Obj} {name : Str} {id : String} {args : List Value} {Q : Option Value → Shared → Prop} (X : K.In s.heap) (I : PySem.W.InstAt s.heap x ox C od)
    (hs : PySem.W.findIn K (.ref C) name = some (some (.builtin id))) (hb : ∀ self, bindSpecial (.builtin id) self = pure (.builtin id, [self]))
    (h : wpAny M A (call (.builtin id) (.ref x :: args)) (fun v => Q (some v)) E s) : wpAny M A (callSpecialIfBound? (.ref x) name args) Q E s := by
  simp only [callSpecialIfBound?, bindSpecialIfBound?]
  refine wpAny_holding (wpAny_bind (wpAny_bind (wpAny_bind (I.type.here ((PySem.W.looks_findIn X hs).here ?_)))))
  refine wpAny_bind (wpAny_askSetting (wpAny_ite ?_))
  have fin : wpAny M A (call (.builtin id) ([.ref x] ++ args) >>= fun v => pure (some v)) Q E s := wpAny_bind (wpAny_mono h (fun v s' h' => wpAny_pure h') fun _ _ h' => h')
  split
  · exact wpAny_bind ((PySem.W.Looks.of_pure (hb _)).here (wpAny_pure (by exact fin)))
  · exact wpAny_tryCatch (wpAny_bind ((PySem.W.Looks.of_pure (hb _)).here (wpAny_pure (by exact fin))))
theorem one_bind (self : Value) : bindSpecial (.builtin "object.__ne__") self = pure (.builtin "object.__ne__", [self]) :=
  (Slot.of (T := "object") (name := "__ne__") (owner := "object") (n := "__ne__") (by rw [typeLookup_type, builtinLookup_eq_fast]; kernel_rfl) (by decide +kernel) (by decide +kernel) (by decide +kernel)
    (.inl (by decide +kernel)) (by rw [isSubtype_type]; kernel_rfl)).bind self
theorem one_plain : plainId "object.__ne__" = true := by decide +kernel
section
variable {prog : Program} {w : World} {A : Around} {E : Value → Shared → Prop} {s : Shared} {K : PySem.W.Frag} {x C f : Addr} {ox : Obj} {od : Option Obj} {b tb : Value}
theorem ne_own {Q : Value → Shared → Prop} (hu : A.units + 1 < cLine) (X : K.In s.heap) (I : PySem.W.InstAt s.heap x ox C od) (hb : PySem.W.Looks (model prog w) s.heap (typeOf b) tb) (hn : PySem.W.notFirst K C tb = true)
    (hne : PySem.W.findIn K (.ref C) "__ne__" = some (some (.builtin "object.__ne__"))) (ho : PySem.W.mroIn K C (.type "object") = some true) (hs : PySem.W.findIn K (.ref C) "__eq__" = some (some (.ref f))) (hf : PySem.W.isFn K (.ref f) = true)
    (h : wpAny (model prog w) A.in1 (call (.ref f) [.ref x, b]) (fun v s' => ∃ c, v = .bool c ∧ Q (.bool (!c)) s') E s) : wpAny (model prog w) A (richCompare .NotEq (.ref x) b) Q E s := by
  have one : wpAny (model prog w) A (tryCompare (.ref x) "__ne__" b) (fun r s' => ∃ v, r = some v ∧ Q v s') E s := by
    unfold tryCompare
    refine wpAny_bind (ifBound_B X I hne one_bind (wpAny_call (codeAny_call_builtin one_plain PySem.F.cmpEntry_ne
      (@PySem.W.check_slot (model prog w) _ _ _ "object.__ne__" "object" "__ne__" (.ref x) [b] [] _ PySem.F.cmpKind_ne PySem.F.cmpSplit_ne (I.type.andThen (PySem.W.looks_mroIn X ho)) (PySem.F.cmpArgs_ne _ _) ?_))))
    have hu1 : A.in1.units < cLine := by show A.units + 1 < cLine; exact hu
    unfold Builtin.«object.__ne__»
    repeat (first
      | with_reducible refine wpAny_cRoomFor hu1 ?_
      | (refine wpAny_bind (m := callSpecialIfBound? (.ref x) (Str.ofString "__eq__") [b])
          (PySem.W.ifBound_K X I hs hf (wpAny_mono h (fun r s' hr => by
            obtain ⟨c, rfl, hq⟩ := hr
            repeat (first | exact ⟨_, rfl, hq⟩ | exact wpAny_pure ⟨_, rfl, hq⟩ | exact wpAny_pure (wpAny_pure ⟨_, rfl, hq⟩) | exact wpAny_truthy_bool ⟨_, rfl, hq⟩ | (refine wpAny_bind (m := truthy (.bool _)) (wpAny_truthy_bool ?_)) | wp_step)) fun _ _ e => e)))
      | wp_step)
  unfold richCompare
  simp only [oneThing_ref]
  refine wpAny_holding (wpAny_bind (wpAny_cRoomFor (Nat.lt_of_succ_lt hu) ?_))
  refine wpAny_bind (I.type.here (wpAny_bind (hb.here ?_)))
  split
  · rename_i q
    have e : PySem.W.subIn K tb (.ref C) = some false := by
      rcases Bool.or_eq_true_iff.mp hn with e | e
      · rw [beq_iff_eq.mp e] at q; simp at q
      · exact beq_iff_eq.mp e
    refine wpAny_bind ((PySem.W.looks_subIn X e).here ?_)
    simp only [Bool.false_eq_true, if_false]
    refine wpAny_bind (wpAny_mono one (fun r s' z => ?_) fun _ _ e => e)
    obtain ⟨v, rfl, hq⟩ := z
    exact wpAny_pure hq
  · refine wpAny_bind (wpAny_pure ?_)
    simp only [Bool.false_eq_true, if_false]
    refine wpAny_bind (wpAny_mono one (fun r s' z => ?_) fun _ _ e => e)
    obtain ⟨v, rfl, hq⟩ := z
    exact wpAny_pure hq
end
/-- the class has no __ne__ of its own -/
structure NoNe (K : PySem.W.Frag) (C : Addr) : Prop where
  ne : PySem.W.findIn K (.ref C) "__ne__" = some (some (.builtin "object.__ne__"))
  ob : PySem.W.mroIn K C (.type "object") = some true
def rNeI (X : Cx) (CX : CXT) (k : Nat) (E : XK) : R2 := fun x y H Q => ∃ a C dx fs sp t, x = .ref a ∧ H a = some (.ins C dx fs) ∧ MtC X.prog X.w X.K X.mg X.base CX k C "__eq__" [] sp ∧ NoNe X.K C ∧ TyOf X.K H y t ∧ PySem.W.notFirst X.K C t = true ∧
  sp [x, y] [] H (fun v H' => ∃ b, v = .bl b ∧ Q (.bl (!b)) H') E
theorem op_neI {X : Cx} {CX : CXT} {k : Nat} {E : XK} (hr : Room (k + 1) X.A) (hx : Passes CX X E) : OpR X (compareOp .NotEq) (rNeI X CX k E) := by
  rintro pins s σ H x y u v Q I rx ry ⟨a, C, dx, fs, sp, t, rfl, ha, M, N, ty, nf, q⟩
  obtain rfl : u = Value.ref a := rx
  obtain ⟨⟨f, hm, F⟩, c⟩ := M
  obtain ⟨mA, J, _⟩ := ins_get I.hok ha
  obtain ⟨od, J, _⟩ := J.look
  obtain ⟨m, hF⟩ := I.fr
  show wpAny (model X.prog X.w) X.A (richCompare .NotEq (.ref a) v) (EP X pins σ Q) X.xe s
  refine ne_own (by have := hr.un; omega) I.kIn J (looks_ty I ry ty) nf N.ne N.ob hm.at_ hm.fn ?_
  refine wpAny_mono (run_fnA0 (us := [.ref a, v]) (vs := [.ref a, y]) (A := X.A.in1) F hr.in1 rfl hx I (.cons rfl (.cons ry .nil)) q) (fun r s' h => ?_) fun _ _ e => e
  obtain ⟨v', H', I', rv, c, ev, q'⟩ := h
  subst ev
  cases (show r = Value.bool c from rv)
  exact ⟨c, rfl, .bl (!c), H', I', rfl, q'⟩
/-! ### in and not in by the class's own __contains__ -/
def rInI (X : Cx) (CX : CXT) (k : Nat) (E : XK) (neg : Bool) : R2 := fun y x H Q => ∃ a C dx fs sp, x = .ref a ∧ H a = some (.ins C dx fs) ∧ MtC X.prog X.w X.K X.mg X.base CX k C "__contains__" [] sp ∧
  sp [x, y] [] H (fun v H' => ∃ b, v = .bl b ∧ Q (.bl (neg != b)) H') E
theorem op_inI {X : Cx} {CX : CXT} {k : Nat} {E : XK} (hr : Room k X.A) (hx : Passes CX X E) : OpR X (compareOp .In) (rInI X CX k E false) := by
  rintro pins s σ H y x v u Q I ry rx ⟨a, C, dx, fs, sp, rfl, ha, M, q⟩
  obtain rfl : u = Value.ref a := rx
  obtain ⟨⟨f, hm, F⟩, c⟩ := M
  obtain ⟨mA, J, _⟩ := ins_get I.hok ha
  obtain ⟨od, J, _⟩ := J.look
  obtain ⟨m, hF⟩ := I.fr
  refine PySem.W.in_K hF I.ok.mod.kin J hm.at_ hm.fn ?_
  refine wpAny_mono (run_fnA0 (us := [.ref a, v]) (vs := [.ref a, y]) F hr rfl hx I (.cons rfl (.cons ry .nil)) q) (fun r s' h => ?_) fun _ _ e => e
  obtain ⟨v', H', I', rv, c, ev, q'⟩ := h
  subst ev
  cases (show r = Value.bool c from rv)
  exact wpAny_truthy_bool ⟨.bl c, H', I', rfl, by simpa using q'⟩
theorem op_notInI {X : Cx} {CX : CXT} {k : Nat} {E : XK} (hr : Room k X.A) (hx : Passes CX X E) : OpR X (compareOp .NotIn) (rInI X CX k E true) := by
  rintro pins s σ H y x v u Q I ry rx ⟨a, C, dx, fs, sp, rfl, ha, M, q⟩
  obtain rfl : u = Value.ref a := rx
  obtain ⟨⟨f, hm, F⟩, c⟩ := M
  obtain ⟨mA, J, _⟩ := ins_get I.hok ha
  obtain ⟨od, J, _⟩ := J.look
  obtain ⟨m, hF⟩ := I.fr
  refine PySem.W.notIn_K hF I.ok.mod.kin J hm.at_ hm.fn ?_
  refine wpAny_mono (run_fnA0 (us := [.ref a, v]) (vs := [.ref a, y]) F hr rfl hx I (.cons rfl (.cons ry .nil)) q) (fun r s' h => ?_) fun _ _ e => e
  obtain ⟨v', H', I', rv, c, ev, q'⟩ := h
  subst ev
  cases (show r = Value.bool c from rv)
  exact wpAny_truthy_bool ⟨.bl (!c), H', I', rfl, by simpa using q'⟩
/-! ### repr(o), len(o), the truth of o by its class's own defs -/
def rReprI (X : Cx) (CX : CXT) (k : Nat) (E : XK) : List V → Hp → VK → Prop := fun xs H Q => ∃ a C dx fs sp, xs = [.ref a] ∧ H a = some (.ins C dx fs) ∧ MtC X.prog X.w X.K X.mg X.base CX k C "__repr__" [] sp ∧ sp [.ref a] [] H (fun v H' => (∃ z, v = .str z) ∧ Q v H') E
theorem call_reprI {X : Cx} {CX : CXT} {k : Nat} {E : XK} (hr : Room (k + 1) X.A) (hx : Passes CX X E) : CallR X (.builtin "repr") (rReprI X CX k E) := by
  rintro pins s σ H xs us Q I r ⟨a, C, dx, fs, sp, rfl, ha, M, q⟩
  obtain ⟨u, rfl, rx⟩ := vals1 r
  obtain rfl : u = Value.ref a := rx
  obtain ⟨⟨f, hm, F⟩, c⟩ := M
  obtain ⟨mA, J, _⟩ := ins_get I.hok ha
  obtain ⟨od, J, _⟩ := J.look
  obtain ⟨m, hF⟩ := I.fr
  refine PySem.W.repr_K (by show X.A.units + 1 < cLine; have := hr.un; omega) hF I.ok.mod.kin J hm.at_ hm.fn ?_
  refine wpAny_mono (run_fnA0 (us := [.ref a]) (vs := [.ref a]) (A := X.A.in1) F hr.in1 rfl hx I (.cons rfl .nil) q) (fun r s' h => ?_) fun _ _ e => e
  obtain ⟨v', H', I', rv, ⟨z, ev⟩, q'⟩ := h
  subst ev
  obtain ⟨t, e⟩ := (show ∃ t, r = Value.str z t from rv)
  subst e
  exact ⟨.str z, H', I', ⟨t, rfl⟩, q'⟩
def rLenI (X : Cx) (CX : CXT) (k : Nat) (E : XK) : List V → Hp → VK → Prop := fun xs H Q => ∃ a C dx fs sp, xs = [.ref a] ∧ H a = some (.ins C dx fs) ∧ MtC X.prog X.w X.K X.mg X.base CX k C "__len__" [] sp ∧ sp [.ref a] [] H (fun v H' => ∃ i : Int, v = .int i ∧ 0 ≤ i ∧ i < 2 ^ 63 ∧ Q v H') E
theorem call_lenI {X : Cx} {CX : CXT} {k : Nat} {E : XK} (hr : Room (k + 1) X.A) (hx : Passes CX X E) : CallR X (.builtin "len") (rLenI X CX k E) := by
  rintro pins s σ H xs us Q I r ⟨a, C, dx, fs, sp, rfl, ha, M, q⟩
  obtain ⟨u, rfl, rx⟩ := vals1 r
  obtain rfl : u = Value.ref a := rx
  obtain ⟨⟨f, hm, F⟩, c⟩ := M
  obtain ⟨mA, J, _⟩ := ins_get I.hok ha
  obtain ⟨od, J, _⟩ := J.look
  obtain ⟨m, hF⟩ := I.fr
  refine PySem.W.len_K hF I.ok.mod.kin J hm.at_ hm.fn ?_
  refine wpAny_mono (run_fnA0 (us := [.ref a]) (vs := [.ref a]) (A := X.A.in1) F hr.in1 rfl hx I (.cons rfl .nil) q) (fun r s' h => ?_) fun _ _ e => e
  obtain ⟨v', H', I', rv, i, ev, h0, h1, q'⟩ := h
  subst ev
  obtain ⟨t, e⟩ := (show ∃ t, r = Value.int i t from rv)
  subst e
  exact ⟨⟨h0, h1⟩, .int i, H', I'.tok _, ⟨_, rfl⟩, q'⟩
end L2
namespace L2
open PySem PySem.Spec PyProof.Rows
/-! ### a def or a method of the text, standing at f -/
structure Fd (K : PySem.W.Frag) (x qual : Str) (st : Stmt) (dvs : List V) (kws : List (Str × V)) (f : Addr) : Prop where
  ex : ∃ fd, FunD K x qual (defArgs st) (defBody st) (defScope st) dvs kws f fd
theorem fd_mk {K : PySem.W.Frag} {x qual : Str} {st : Stmt} {dvs : List V} {kws : List (Str × V)} {f : Addr} {oc dV kV doc pm cdv ct : Value} {od an : Option Addr} {osl : Array (Option Value)}
    (l : K.lookup f = some ⟨oc, od, .func (PySem.W.fnOf x qual (defArgs st) (defBody st) (defScope st) dV kV doc pm an cdv ct), osl⟩) (c : PySem.W.codeIn K cdv qual = true) (k : PySem.W.keepIn K (.ref f) = true) (hd : DflV K dV dvs) (hk : KwdV K kV kws) : Fd K x qual st dvs kws f :=
  ⟨_, ⟨oc, od, dV, kV, doc, pm, an, cdv, ct, osl, rfl, l, c, hd, hk⟩, k⟩
theorem dfl_none {K : PySem.W.Frag} : DflV K .none [] := .inl ⟨rfl, rfl⟩
theorem dfl_of {K : PySem.W.Frag} {T : Addr} {o : Obj} {v : V} {dvs : List V} {its : List Value} {n : Nat} (l : K.lookup T = some o) (h : o.data = .seq its.toArray n) (r : Vals (v :: dvs) its) : DflV K (.ref T) (v :: dvs) := .inr ⟨fun z => (by cases z), T, o, its, n, rfl, l, h, r⟩
theorem kwd_none {K : PySem.W.Frag} {kV : Value} : KwdV K kV [] := .inl rfl
theorem kwd_of {K : PySem.W.Frag} {D : Addr} {kws : List (Str × V)} (h : ∀ q ∈ kws, ∃ u, PySem.W.nsIn K D q.1 = some (some u) ∧ RelV q.2 u) : KwdV K (.ref D) kws := .inr ⟨D, rfl, h⟩
/-- .. with its promise -/
structure Fo (P : Program) (w : World) (K : PySem.W.Frag) (mg : Str → Option Value) (base : Heap) (CX : CXT) (k : Nat) (x qual : Str) (st : Stmt) (dvs : List V) (kws : List (Str × V)) (f : Addr) (ps : List Str) (sp : Sp) : Prop where
  ex : ∃ fd, FunD K x qual (defArgs st) (defBody st) (defScope st) dvs kws f fd ∧ FnOk P w K mg base CX k f fd ps sp
section
variable {P : Program} {w : World} {K : PySem.W.Frag} {mg : Str → Option Value} {base : Heap} {CX : CXT} {k : Nat} {x qual : Str} {st : Stmt} {dvs : List V} {kws : List (Str × V)} {f : Addr} {N ps : List Str} {sp : Sp}
theorem fo_mk (D : Fd K x qual st dvs kws f) (S : FnScope N ps (defScope st)) (len : ∀ vs H Q E, sp vs H Q E → vs.length = ps.length)
    (hbody : ∀ (cdv : Value) (A : Around) (outer : List Env) (s : Shared) (H : Hp) (vs : List V) (Q : VK) (E : XK), Room k (A.deeper (envOfC qual (defScope st) s.heap.objs.size f cdv)) → sp vs H Q E →
      ∃ t, PSs (cxOf CX0 P w K mg base N qual (defScope st) f cdv A outer s H E).nox (defBody st) t ∧ t { nx := fun _ H' => Q .non H', rt := Q } (start N vs) H) : Fo P w K mg base CX0 (k + 1) x qual st dvs kws f ps sp := by
  obtain ⟨fd, F⟩ := D.ex
  exact ⟨fd, F, F.ok S len fun cdv A outer s H vs Q E hr hs => let ⟨t, h, q⟩ := hbody cdv A outer s H vs Q E hr hs; ⟨t, h.nox, q⟩⟩
theorem fo_mkX (D : Fd K x qual st dvs kws f) (S : FnScope N ps (defScope st)) (len : ∀ vs H Q E, sp vs H Q E → vs.length = ps.length)
    (hbody : ∀ (cdv : Value) (A : Around) (outer : List Env) (s : Shared) (H : Hp) (vs : List V) (Q : VK) (E : XK), Room k (A.deeper (envOfC qual (defScope st) s.heap.objs.size f cdv)) → sp vs H Q E →
      ∃ t, PSs (cxOf CX P w K mg base N qual (defScope st) f cdv A outer s H E) (defBody st) t ∧ t { nx := fun _ H' => Q .non H', rt := Q } (start N vs) H) : Fo P w K mg base CX (k + 1) x qual st dvs kws f ps sp := by
  obtain ⟨fd, F⟩ := D.ex
  exact ⟨fd, F, F.ok S len hbody⟩
/-- no defaults, all written -/
theorem Fo.pos (o : Fo P w K mg base CX k x qual st [] kws f ps sp) (h : ∀ (kV doc pm : Value) (an : Option Addr) (cdv ct : Value) (us : List Value), us.length = ps.length → bindArgs (PySem.W.fnOf x qual (defArgs st) (defBody st) (defScope st) .none kV doc pm an cdv ct) ⟨us, []⟩ = pure (ps.zip us)) :
    FnA P w K mg base CX k f [] (fun vs _ => sp vs) := by
  obtain ⟨fd, F, ok⟩ := o.ex
  exact (ok.toA (F.bindsN h) .nil).imp fun vs zs H Q E q => by rw [List.append_nil]; exact q
/-- keywords ks behind n values -/
theorem Fo.key (o : Fo P w K mg base CX k x qual st [] kws f ps sp) (n : Nat) (ks : List Str) (g : {α : Type} → List α → List α → List α) (hr : ∀ {vs us zs ws}, Vals vs us → Vals zs ws → Vals (g vs zs) (g us ws))
    (h : ∀ (kV doc pm : Value) (an : Option Addr) (cdv ct : Value) (us ws : List Value), us.length = n → ws.length = ks.length → bindArgs (PySem.W.fnOf x qual (defArgs st) (defBody st) (defScope st) .none kV doc pm an cdv ct) ⟨us, ks.zip ws⟩ = pure (ps.zip (g us ws))) :
    FnA P w K mg base CX k f ks (fun vs zs H Q E => vs.length = n ∧ sp (g vs zs) H Q E) := by
  obtain ⟨fd, F, ok⟩ := o.ex
  obtain ⟨oc, od, dV, kV, doc, pm, an, cdv, ct, osl, rfl, lk, hcd, hD, hK⟩ := F.ex
  rcases hD with ⟨_, rfl⟩ | ⟨e, _⟩
  · exact ok.toK (ks := ks) (n := n) (g := fun us ws => g us ws) (gV := fun vs zs => g vs zs) ⟨fun s us ws _ l1 l2 => .of_eq (h kV doc pm an cdv ct us ws l1 l2), fun r1 r2 => hr r1 r2⟩
  · exact absurd rfl e
/-- keyword-only defaults -/
theorem Fo.pos0 (o : Fo P w K mg base CX k x qual st [] kws f ps sp) (n : Nat) (hk : kws ≠ []) (hn : n + kws.length = ps.length)
    (h : ∀ (D : Addr) (doc pm : Value) (an : Option Addr) (cdv ct : Value) (us ks : List Value), us.length = n → ks.length = kws.length →
      KwChain D ((kws.map (·.1)).zip ks) (bindArgs (PySem.W.fnOf x qual (defArgs st) (defBody st) (defScope st) .none (.ref D) doc pm an cdv ct) ⟨us, []⟩) (ps.zip (us ++ ks))) :
    FnA P w K mg base CX k f [] (fun vs _ H Q E => sp (vs ++ kws.map (·.2)) H Q E) := by
  obtain ⟨fd, F, ok⟩ := o.ex
  obtain ⟨ds, r, b⟩ := F.binds0 n hk hn h
  exact ok.toA b r
/-- defaults: n values written, the ones behind the first j fill up -/
theorem Fo.pos1 (o : Fo P w K mg base CX k x qual st dvs kws f ps sp) (n j : Nat) (hd : dvs ≠ []) (hn : n + (dvs.length - j) = ps.length)
    (h : ∀ (T : Addr) (kV doc pm : Value) (an : Option Addr) (cdv ct : Value) (us its : List Value), us.length = n → its.length = dvs.length →
      ∃ k, bindArgs (PySem.W.fnOf x qual (defArgs st) (defBody st) (defScope st) (.ref T) kV doc pm an cdv ct) ⟨us, []⟩ = seqItems? (.ref T) >>= k ∧ k (some its.toArray) = pure (ps.zip (us ++ its.drop j))) :
    FnA P w K mg base CX k f [] (fun vs _ H Q E => sp (vs ++ dvs.drop j) H Q E) := by
  obtain ⟨fd, F, ok⟩ := o.ex
  obtain ⟨ds, r, b⟩ := F.binds1 n j hd hn h
  exact ok.toA b r
theorem FnR.toA {sp : Sp} (F : FnR P w K mg base CX k f sp) : FnA P w K mg base CX k f [] (fun vs _ => sp vs) := ⟨fun A o s H us ws vs zs Q E hr he r1 r2 l hs => by
  have := F A o s H us vs Q E hr he r1 hs
  simpa using this⟩
/-- def f(a, .., *v): the promise tells of the tuple of the rest -/
theorem fo_star {pv : Str} (D : Fd K x qual st [] [] f) (S : FnScope N (ps ++ [pv]) (defScope st)) (hCX : StX.CXUp CX)
    (hb : ∀ (kV doc pm : Value) (an : Option Addr) (cdv ct : Value) (us rest : List Value), us.length = ps.length → bindArgs (PySem.W.fnOf x qual (defArgs st) (defBody st) (defScope st) .none kV doc pm an cdv ct) ⟨us ++ rest, []⟩ = (newTuple rest >>= fun t => pure (ps.zip us ++ [(pv, t)])))
    (hbody : ∀ (cdv : Value) (A : Around) (outer : List Env) (s : Shared) (H : Hp) (vs : List V) (Q : VK) (E : XK), Room k (A.deeper (envOfC qual (defScope st) s.heap.objs.size f cdv)) → sp vs H Q E →
      ∃ t, PSs (cxOf CX P w K mg base N qual (defScope st) f cdv A outer s H E) (defBody st) t ∧ t { nx := fun _ H' => Q .non H', rt := Q } (start N vs) H) :
    FnA P w K mg base CX (k + 1) f [] (fun vs _ H Q E => ∃ ws rest, vs = ws ++ rest ∧ ws.length = ps.length ∧ rest.length ≤ sizeLine ∧ ∀ p, H p = Option.none → sp (ws ++ [V.ref p]) (upd H p (.tup rest)) Q E) := by
  obtain ⟨fd, F⟩ := D.ex
  obtain ⟨oc, od, dV, kV, doc, pm, an, cdv, ct, osl, rfl, lk, hcd, hD, hK⟩ := F.ex
  rcases hD with ⟨_, rfl⟩ | ⟨e, _⟩
  · exact FnR.toA (StX.fn_star lk hcd S hCX (hb kV doc pm an cdv ct) fun A outer s H vs Q E hr hs => hbody cdv A outer s H vs Q E hr hs)
  · exact absurd rfl e
/-- .. which lets no exception out -/
theorem fo_star0 {pv : Str} (D : Fd K x qual st [] [] f) (S : FnScope N (ps ++ [pv]) (defScope st))
    (hb : ∀ (kV doc pm : Value) (an : Option Addr) (cdv ct : Value) (us rest : List Value), us.length = ps.length → bindArgs (PySem.W.fnOf x qual (defArgs st) (defBody st) (defScope st) .none kV doc pm an cdv ct) ⟨us ++ rest, []⟩ = (newTuple rest >>= fun t => pure (ps.zip us ++ [(pv, t)])))
    (hbody : ∀ (cdv : Value) (A : Around) (outer : List Env) (s : Shared) (H : Hp) (vs : List V) (Q : VK) (E : XK), Room k (A.deeper (envOfC qual (defScope st) s.heap.objs.size f cdv)) → sp vs H Q E →
      ∃ t, PSs (cxOf CX0 P w K mg base N qual (defScope st) f cdv A outer s H E).nox (defBody st) t ∧ t { nx := fun _ H' => Q .non H', rt := Q } (start N vs) H) :
    FnA P w K mg base CX0 (k + 1) f [] (fun vs _ H Q E => ∃ ws rest, vs = ws ++ rest ∧ ws.length = ps.length ∧ rest.length ≤ sizeLine ∧ ∀ p, H p = Option.none → sp (ws ++ [V.ref p]) (upd H p (.tup rest)) Q E) := by
  obtain ⟨fd, F⟩ := D.ex
  obtain ⟨oc, od, dV, kV, doc, pm, an, cdv, ct, osl, rfl, lk, hcd, hD, hK⟩ := F.ex
  rcases hD with ⟨_, rfl⟩ | ⟨e, _⟩
  · exact FnR.toA (StX.fn_star lk hcd S StX.cxUp_none (hb kV doc pm an cdv ct) fun A outer s H vs Q E hr hs => let ⟨t, h, q⟩ := hbody cdv A outer s H vs Q E hr hs; ⟨t, h.nox, q⟩)
  · exact absurd rfl e
end
/-- a def of the module by its name -/
structure FdG (K : PySem.W.Frag) (mg : Str → Option Value) (x : Str) (st : Stmt) (dvs : List V) (kws : List (Str × V)) (f : Addr) : Prop where
  fd : Fd K x x st dvs kws f
  mg : mg x = some (.ref f)
  kp : PySem.W.keepIn K (.ref f) = true
end L2
namespace L2
open PySem
/-- isinstance against an own class -/
theorem kit_own {K : PySem.W.Frag} {t : Value} {C : Addr} {b : Bool} (h1 : PySem.W.isClsIn K C = true) (h2 : PySem.W.typeIn K (.ref C) = some (.type "type")) (h3 : PySem.W.subIn K (.ref C) (.ref C) = some true) (h4 : PySem.W.subIn K t (.ref C) = some b) : PySem.W.kitOne K t (.ref C) = some b := by
  unfold PySem.W.kitOne
  by_cases e : (t == Value.ref C) = true
  · rw [if_pos e]
    rw [beq_iff_eq.mp e, h3] at h4
    exact h4
  · rw [if_neg e]
    have h1' : (PySem.W.clsIn K C).isSome = true := h1
    show (if ((PySem.W.clsIn K C).isSome && PySem.W.typeIn K (.ref C) == some (.type "type")) = true then PySem.W.subIn K t (.ref C) else none) = some b
    rw [h1', h2, if_pos (by rfl)]
    exact h4
end L2
/-! ### enumerate(tuple) -/
namespace PySem
set_option maxHeartbeats 1000000 in
theorem meets_enumerate_newB1 {v : Value} {o : Obj} {H : Heap → Prop} (B : Begins v o H) :
    Meets (Builtin.«enumerate.__new__» ⟨[.type "enumerate", v], []⟩) (fun _ R s => H s.heap ∧
      R (.ok (.ret (.ref (s.heap.push o).objs.size))) { s with heap := (s.heap.push o).push { cls := .type "enumerate", data := .fields #[.none, .bool false, .ref s.heap.objs.size, rawInt 0, .none, .none] } }) :=
  .of_wp fun prog w A R s h => by
    obtain ⟨hp, g, d, tk, os⟩ := s; obtain ⟨h1, h⟩ := h
    have hsub := sub_enumerate
    have q1 : ∀ {A' : Around} {E : Value → Shared → Prop} {Q : Value → Shared → Prop}, Q (.ref hp.objs.size) ⟨hp.push o, g, d, tk, os⟩ → wpAny (model prog w) A' (pyIter v) Q E ⟨hp, g, d, tk, os⟩ :=
      fun q => B.iter prog w _ _ ⟨hp, g, d, tk, os⟩ _ h1 q
    wp_walk using q1
    refine wpAny_stack_any fun st => wpAny_pure ?_
    split
    · rename_i c _ _ _ _ _
      cases (c == Value.type "enumerate")
      · wp_walk using q1
        exact ⟨_, rfl, h⟩
      · wp_walk using q1
        exact ⟨_, rfl, h⟩
    · wp_walk using q1
      exact ⟨_, rfl, h⟩
theorem enum_begins1 {prog : Program} {w : World} {A : Around} {E : Value → Shared → Prop} {s : Shared} {v : Value} {o : Obj} {H : Heap → Prop} {Q : Value → Shared → Prop} (B : Begins v o H) (h1 : H s.heap)
    (h : ∀ h', IsEnum h' (s.heap.objs.size + 1) s.heap.objs.size 0 .none → h'.get? s.heap.objs.size = some o → h'.objs.size = s.heap.objs.size + 2 →
      (∀ b o, s.heap.get? b = some o → h'.get? b = some o) → Q (.ref (s.heap.objs.size + 1)) { s with heap := h' }) :
    wpAny (model prog w) A (call (.type "enumerate") [v]) Q E s := by
  refine callType_new F.called_enumerate (by decide) (F.typeCall_enumerate_1 _) (F.newCall_enumerate_1 _) (fun obj => F.args_object_init_2 obj _) F.entry_enumerate_new
    (meets_enumerate_newB1 B) ⟨h1, ?_⟩
  have hz : (s.heap.push o).objs.size = s.heap.objs.size + 1 := Heap.size_push ..
  show _ ∧ _
  rw [hz]
  have he : IsEnum ((s.heap.push o).push { cls := .type "enumerate", data := .fields #[.none, .bool false, .ref s.heap.objs.size, rawInt 0, .none, .none] }) (s.heap.objs.size + 1) s.heap.objs.size 0 .none := by
    have := Heap.get?_push_size (s.heap.push o) (o := { cls := .type "enumerate", data := .fields #[.none, .bool false, .ref s.heap.objs.size, rawInt 0, .none, .none] }) rfl
    rw [hz] at this; exact this
  refine ⟨⟨_, he, rfl⟩, h _ he (Heap.get?_push_of_some _ (Heap.get?_push_size _ B.free)) (by rw [Heap.size_push, hz]) fun b o x => Heap.get?_push_of_some _ (Heap.get?_push_of_some _ x)⟩
end PySem
namespace L2
open PySem PySem.Spec PyProof.Rows
def IteT (K : PySem.W.Frag) (a : Addr) : It :=
  ⟨fun i H => ∃ (xs : List V) (x : V), SqT K H a xs ∧ xs[i]? = some x, fun i H v H' => ∃ T x, v = .ref T ∧ H T = none ∧ H' = upd H T (.tup [.int (i : Nat), x]) ∧ ∀ xs, SqT K H a xs → xs[i]? = some x, fun i H => ∃ xs : List V, SqT K H a xs ∧ xs.length ≤ i⟩
theorem turn_enumT {P : Program} {w : World} {K : PySem.W.Frag} {elts : List Expr} {kk : Nat} {tpos : Pos} (a e it : Addr) (hat : a ≠ it) (hae : a ≠ e) :
    Turn P w K (.Tuple elts kk tpos) (IteT K a) [e, it] e (fun i h => (∃ old, IsEnum h e it ((i : Nat) : Int) old) ∧ h.IsTupleIter it a i ∧ e ≠ it) where
  mem := by simp
  obj := fun i h st b hb => by
    obtain ⟨⟨old, he⟩, ⟨o, ho, hc, hd⟩, _⟩ := st
    have e' : b = e ∨ b = it := by simpa using hb
    rcases e' with z | z
    · rw [z]; exact ⟨_, he, fun v q => nomatch q⟩
    · rw [z]; exact ⟨o, ho, fun v q => by rw [hd] at q; cases q⟩
  keep := fun i h h' st k => let ⟨⟨old, he⟩, hi, hne⟩ := st; ⟨⟨old, k e (by simp) _ he⟩, hi.at fun o q => k it (by simp) o q, hne⟩
  item := by
    intro X hP hw hK hc i pins s σ H E I hf st hg
    subst hP hw hK
    obtain ⟨⟨old, he⟩, hit, hne⟩ := st
    obtain ⟨xs, x, hq, hx⟩ := hg
    obtain ⟨its, rv, p, hz⟩ := I.tuple hq
    obtain ⟨u, hu, ru⟩ := rv.get hx
    have hel : e < s.heap.objs.size := Heap.lt_size he
    have hil : it < s.heap.objs.size := by obtain ⟨_, q, _⟩ := hit; exact Heap.lt_size q
    have pT : s.heap.IsTuple a its.toArray := p
    have hlt : i < its.toArray.size := by
      have := (List.getElem?_eq_some_iff.mp hu).1
      simpa using this
    refine wpAny_pyNext_enum_itemD (Draws.tuple (prog := X.prog) (w := X.w) (A := X.A.in1) (I.ok.hd hc) it a hat its.toArray) he ⟨hit, pT⟩ hlt hne (fun z => ?_) fun u' h' tk hP ho st' hT hsz hk => ?_
    · rcases (show e = it ∨ e = a by simpa using z) with z | z
      · exact hne z
      · exact hae z.symm
    have hu' : u' = u := by
      have e1 : its[i]? = some u' := by simpa using hP
      rw [hu] at e1
      injection e1 with e1
      exact e1.symm
    subst hu'
    refine ⟨_, rfl, wpAny_letOwnedTupleGo_enum (s := { s with heap := h', toks := tk + 1 }) ho fun h'' he' sb => ?_⟩
    have hT2 : h''.get? s.heap.objs.size = some { cls := .type "tuple", data := .seq #[.int i tk, u'] } := (sb.2 _ (Nat.ne_of_gt hel)).trans hT
    have new : ObjOk X.prog X.w (upd H s.heap.objs.size (.tup [.int (i : Nat), x])) h'' s.heap.objs.size (.tup [.int (i : Nat), x]) :=
      ⟨by show 2 ≤ sizeLine; decide, [.int i tk, u'], .cons ⟨_, rfl⟩ (.cons ru .nil), ⟨_, hT2, rfl, _, rfl⟩⟩
    have I1 : Inv X pins σ (upd H s.heap.objs.size (.tup [.int (i : Nat), x])) { s with heap := h'', toks := tk + 1 } :=
      I.turnedNew (ch := [e, it]) (fun b ob hb q => (sb.2 b (fun z => hb (by simp [z]))).trans (hk b ob (fun z => hb (by simp [z])) (fun z => hb (by simp [z])) q)) hf (Nat.le_refl _) new
    refine ⟨.ref s.heap.objs.size, _, I1, rfl, ⟨_, x, rfl, I.hok.fresh (Nat.le_refl _), rfl, fun ys hy => by rw [I.tuple_inj hy hq]; exact hx⟩, ⟨⟨u', ?_⟩, st'.1.at fun o q => (sb.2 it (Ne.symm hne)).trans q, hne⟩, fun b hb => ?_⟩
    · have e1 : ((i + 1 : Nat) : Int) = (i : Int) + 1 := by omega
      rw [e1]; exact he'
    · have hb' : b < s.heap.objs.size := by
        have e' : b = e ∨ b = it := by simpa using hb
        rcases e' with z | z
        · rw [z]; exact hel
        · rw [z]; exact hil
      rw [upd_ne (Nat.ne_of_lt hb')]
      exact (hf b hb).1
  done := by
    intro X hP hw hK hc i pins s σ H E I hf st hg
    subst hP hw hK
    obtain ⟨⟨old, he⟩, hit, hne⟩ := st
    obtain ⟨xs, hq, hx⟩ := hg
    obtain ⟨its, rv, p, hz⟩ := I.tuple hq
    obtain ⟨f0, f1, f2, f3, f4, f5⟩ := hf it (by simp)
    have hl := rv.length
    have pT : s.heap.IsTuple a its.toArray := p
    have hT : s.TypeIs (.ref e) "enumerate" := ⟨_, he, rfl⟩
    unfold pyNext
    refine wpAny_bind (wpAny_attempt (wpAny_callSpecial?_slot (name := Str.ofString "__next__") hT F.slot_enumerate_next
      (wpAny_call_entry F.slot_enumerate_next hT F.entry_enumerate_next ?_ (F.args_enumerate_next_1 _))))
    show wpAny _ _ (field (.ref e) 2 >>= _) _ _ _
    refine wpAny_bind (wpAny_field he rfl (x := .ref it) rfl ?_)
    refine wpAny_bind (wpAny_nextOf_tuple_end (I.ok.hd hc) hit pT (by simp; omega) fun h' x he' hx' => ?_)
    obtain ⟨o, ho, hc'⟩ := hx'
    refine wpAny_bind (wpAny_isInstance (T := "StopIteration") (b := true) ⟨o, ho, hc'⟩ isSubtype_stop ?_)
    exact wpAny_pure ⟨rfl, I.turned (t' := s.toks) (fun b o hb q => he' b o hb q) f0 f1 f3 f4 f5⟩
  self := fun A i s Q E st h => let ⟨⟨_, he⟩, _⟩ := st; wpAny_pyIter_enum he h
def iEnumT (K : PySem.W.Frag) (ta : TA) : TI := fun σ H R => ta σ H fun vs H1 => ∃ a xs, vs = [.ref a] ∧ SqT K H1 a xs ∧ R (IteT K a) H1
theorem pi_enumT {X : Cx} {e : Expr} {ta : TA} {p pos tpos : Pos} {elts : List Expr} {kk : Nat} (hg : Gl X "enumerate") (hm : X.mg "enumerate" = none) (ha : PA X [e] ta) (hs : starEach [e] X.env = [(false, eval e X.env)] := by rfl) :
    PI X (.Tuple elts kk tpos) (.Call (.Name "enumerate" p) [e] [] pos) (iEnumT X.K ta) := by
  refine ⟨fun pins s σ H R I h => ?_⟩
  refine Call_ (ld_blt I hg hm boot_enumerate (PyProof.Rows.callWith_type1 (thn (ha.run pos pins s σ H _ I h) fun us s1 ⟨vs, H1, I1, r1, q1⟩ => ?_) hs rfl))
  obtain ⟨a, xs, ex, hq, q⟩ := q1
  subst ex
  cases r1 with
  | cons r rr =>
    cases rr
    cases r
    obtain ⟨its, rv, p', hz⟩ := I1.tuple hq
    have pT : s1.heap.IsTuple a its.toArray := p'
    have hla : a < s1.heap.objs.size := by obtain ⟨_, q, _⟩ := pT; exact Heap.lt_size q
    refine enum_begins1 (begins_tuple a its.toArray) pT fun h' he hit hsz hk => wpAny_pyIter_enum he ?_
    have I2 : Inv X pins σ H1 { s1 with heap := h' } := I1.kept (t' := s1.toks) hk
    refine ⟨s1.heap.objs.size + 1, [s1.heap.objs.size + 1, s1.heap.objs.size], _, _, H1, rfl, I2, turn_enumT a (s1.heap.objs.size + 1) s1.heap.objs.size (Nat.ne_of_lt hla) (Nat.ne_of_lt (Nat.lt_succ_of_lt hla)), ⟨⟨.none, he⟩, ⟨_, hit, rfl, rfl⟩, Nat.succ_ne_self _⟩, fun b hb => ?_, q⟩
    have e' : b = s1.heap.objs.size + 1 ∨ b = s1.heap.objs.size := by simpa using hb
    have hle : s1.heap.objs.size ≤ b := by
      rcases e' with z | z
      · rw [z]; exact Nat.le_add_right _ _
      · rw [z]; exact Nat.le_refl _
    exact I1.fpOk hle (I1.hok.fresh hle)
/-- the loop over enumerate(t): one turn gets the place and the item, in a new pair -/
theorem for_enumT {K : PySem.W.Frag} {a : Addr} {xs : List V} {g : TG} {tb : TS} {D : Ends} {σ : St} {H : Hp} (Pv : Nat → St → Hp → Prop) (h0 : Pv 0 σ H) (hl : ∀ i σ H, Pv i σ H → SqT K H a xs)
    (hs : ∀ i x T σ H, xs[i]? = some x → Pv i σ H → H T = none → g (.ref T) σ (upd H T (.tup [.int (i : Nat), x])) fun σ2 H2 => tb { D with nx := Pv (i + 1), ct := Pv (i + 1), bk := D.nx } σ2 H2) (hd : ∀ σ H, Pv xs.length σ H → D.nx σ H) :
    ∃ W : Nat → Nat → St → Hp → Prop, (∃ m, W 0 m σ H) ∧ ∀ i m σ H, W i m σ H → ((IteT K a).stop i H ∧ D.nx σ H) ∨
      ((IteT K a).go i H ∧ ∃ Nx : St → Hp → Prop, (∀ σ' H', Nx σ' H' → ∃ m', m' < m ∧ W (i + 1) m' σ' H') ∧ ∀ x H', (IteT K a).yld i H x H' → g x σ H' fun σ2 H2 => tb { D with nx := Nx, ct := Nx, bk := D.nx } σ2 H2) := by
  refine ⟨fun i m σ H => m = xs.length - i ∧ i ≤ xs.length ∧ Pv i σ H, ⟨xs.length, by simp, Nat.zero_le _, h0⟩, ?_⟩
  rintro i m σ H ⟨rfl, hi, p⟩
  have hq := hl _ _ _ p
  by_cases hlt : i < xs.length
  · refine .inr ⟨⟨xs, xs[i], hq, by simp [hlt]⟩, Pv (i + 1), fun σ' H' p' => ⟨xs.length - (i + 1), by omega, rfl, hlt, p'⟩, fun v H' y => ?_⟩
    obtain ⟨T, x, rfl, hT, rfl, hx⟩ := y
    exact hs i x T σ H (hx xs hq) p hT
  · have e : i = xs.length := by omega
    subst e
    exact .inl ⟨⟨xs, hq, Nat.le_refl _⟩, hd _ _ p⟩
end L2
namespace G
open PySem PySem.Spec L2
open PyProof.Rows hiding St
/-! ### plain data, runs -/
/-- dk: a dict of ints and texts as keys; dn: one of tuples -/
inductive D where
  | non | bl (b : Bool) | int (i : Int) | str (x : Str) | lst (ds : List D) | tup (ds : List D) | ins (C : Nat) (fs : List D) | feed | fn (j : Nat) | dk (ks : List Key) (ds : List D) | dn (ks : List D) (ds : List D)
  deriving Inhabited
mutual
/-- data as a dict's key -/
def D.nk : D → Option NestedKey
  | .non => some .none
  | .bl b => some (.num (if b then 1 else 0))
  | .int i => some (.num i)
  | .str x => some (.text x)
  | .tup ds => (D.nks ds).map .tup
  | .lst _ => none
  | .ins _ _ => none
  | .feed => none
  | .fn _ => none
  | .dk _ _ => none
  | .dn _ _ => none
def D.nks : List D → Option (List NestedKey)
  | [] => some []
  | d :: ds => match D.nk d, D.nks ds with
    | some a, some b => some (a :: b)
    | _, _ => none
end
/-- the module's own dicts; how keys hash -/
structure Dx where
  sd : List (Addr × List (Key × V))
  hk : NestedKey → Int
/-- a dict that stays as it is, its keys tuples -/
def DnO (hk : NestedKey → Int) (xs : List (NestedKey × Addr)) (vs : List V) (a : Addr) : HO := .ext fun h => (a == sysModules) = false ∧ ∃ (o : Obj) (es : Array DictEntry) (ep : Nat) (us : List Value), h.get? a = some o ∧ o.ExactDict ∧ o.data = .dict es ep ∧ Vals vs us ∧ us.length = xs.length ∧
  es.toList = (xs.zip us).map (fun p => (⟨hk p.1.1, .ref p.1.2, p.2⟩ : DictEntry)) ∧ (xs.map (·.1)).Nodup ∧ ∀ p ∈ xs, p.1.depth ≤ 8
inductive M (α : Type) where
  | ret (a : α) | fail | draw (m : Nat) (k : Nat → M α) | thr (C : Nat) (fs : List D)
/-- what is wanted of an exception of the class C with these fields -/
abbrev XD := Nat → List D → Prop
namespace M
variable {α β γ : Type}
def bind : M α → (α → M β) → M β
  | ret a, f => f a
  | fail, _ => fail
  | draw m k, f => draw m fun r => (k r).bind f
  | thr C fs, _ => thr C fs
def wp : M α → XD → (α → Prop) → Prop
  | ret a, _, Q => Q a
  | fail, _, _ => False
  | draw m k, E, Q => ∀ r, r < m → (k r).wp E Q
  | thr C fs, E, _ => E C fs
/-- an exception is a failure -/
def cut : M α → M α
  | ret a => ret a
  | fail => fail
  | draw m k => draw m fun r => (k r).cut
  | thr _ _ => fail
instance : Monad M where
  pure := ret
  bind := bind
@[simp] theorem bind_ret (a : α) (f : α → M β) : (ret a).bind f = f a := rfl
@[simp] theorem bind_fail (f : α → M β) : (fail : M α).bind f = fail := rfl
@[simp] theorem bind_draw (m : Nat) (k : Nat → M α) (f : α → M β) : (draw m k).bind f = draw m fun r => (k r).bind f := rfl
@[simp] theorem bind_thr (C : Nat) (fs : List D) (f : α → M β) : (thr C fs : M α).bind f = thr C fs := rfl
@[simp] theorem cut_ret (a : α) : (ret a).cut = ret a := rfl
@[simp] theorem cut_fail : (fail : M α).cut = fail := rfl
@[simp] theorem cut_thr (C : Nat) (fs : List D) : (thr C fs : M α).cut = fail := rfl
@[simp] theorem cut_draw (m : Nat) (k : Nat → M α) : (draw m k).cut = draw m fun r => (k r).cut := rfl
variable {E E' : XD}
@[simp] theorem wp_ret (a : α) (Q : α → Prop) : (ret a).wp E Q = Q a := rfl
@[simp] theorem wp_fail (Q : α → Prop) : (fail : M α).wp E Q = False := rfl
@[simp] theorem wp_draw (m : Nat) (k : Nat → M α) (Q : α → Prop) : (draw m k).wp E Q = ∀ r, r < m → (k r).wp E Q := rfl
@[simp] theorem wp_thr (C : Nat) (fs : List D) (Q : α → Prop) : (thr C fs : M α).wp E Q = E C fs := rfl
theorem wp_monoE {Q R : α → Prop} (h : ∀ a, Q a → R a) (hE : ∀ C fs, E C fs → E' C fs) : ∀ {m : M α}, m.wp E Q → m.wp E' R
  | ret a, q => h a q
  | draw _ _, q => fun r hr => wp_monoE h hE (q r hr)
  | thr _ _, q => hE _ _ q
theorem wp_mono {Q R : α → Prop} (h : ∀ a, Q a → R a) {m : M α} (q : m.wp E Q) : m.wp E R := wp_monoE h (fun _ _ q => q) q
theorem wp_bind {f : α → M β} {Q : β → Prop} : ∀ {m : M α}, (m.bind f).wp E Q ↔ m.wp E fun a => (f a).wp E Q
  | ret _ => Iff.rfl
  | fail => Iff.rfl
  | draw _ _ => ⟨fun h r hr => wp_bind.mp (h r hr), fun h r hr => wp_bind.mpr (h r hr)⟩
  | thr _ _ => Iff.rfl
theorem cut_bind (f : α → M β) : ∀ m : M α, (m.bind f).cut = m.cut.bind fun a => (f a).cut
  | ret _ => rfl
  | fail => rfl
  | draw m k => congrArg (draw m) (funext fun r => cut_bind f (k r))
  | thr _ _ => rfl
theorem cut_wp {Q : α → Prop} : ∀ {m : M α}, m.cut.wp E Q → m.wp E' Q
  | ret _, q => q
  | draw _ _, q => fun r hr => cut_wp (q r hr)
@[simp] theorem bind_eq (m : M α) (f : α → M β) : (m >>= f) = m.bind f := rfl
@[simp] theorem pure_eq (a : α) : (Pure.pure a : M α) = ret a := rfl
theorem bind_assoc (f : α → M β) (g : β → M γ) : ∀ m : M α, (m.bind f).bind g = m.bind fun a => (f a).bind g
  | ret _ => rfl
  | fail => rfl
  | draw m k => congrArg (draw m) (funext fun r => bind_assoc f g (k r))
  | thr _ _ => rfl
theorem bind_ret' : ∀ m : M α, m.bind ret = m
  | ret _ => rfl
  | fail => rfl
  | draw m k => congrArg (draw m) (funext fun r => bind_ret' (k r))
  | thr _ _ => rfl
instance : LawfulMonad M := LawfulMonad.mk' (id_map := fun m => bind_ret' m) (pure_bind := fun _ _ => rfl) (bind_assoc := fun m f g => bind_assoc f g m)
/-- of an option: nothing is a failure -/
def of : Option α → M α
  | some a => ret a
  | none => fail
@[simp] theorem of_some (a : α) : of (some a) = ret a := rfl
@[simp] theorem of_none : (of none : M α) = fail := rfl
end M
/-! ### which values stand for which data -/
/-- what a frame may change of others: the feed, tables of code objects; what lambdas are -/
structure Fdx where
  f : Option (Addr × Addr)
  tb : List (Addr × Str)
  lm : Nat → Addr → Hp → Prop
  mono : ∀ {j : Nat} {a : Addr} {H H' : Hp}, Same H H' → lm j a H → lm j a H'
namespace Fdx
def no : Fdx := ⟨none, [], fun _ _ _ => False, fun _ h => h⟩
def mv (x : Fdx) (p : Addr) : Prop := (∃ l, x.f = some (p, l)) ∨ ∃ q, (p, q) ∈ x.tb
structure ok (x : Fdx) (H : Hp) : Prop where
  fd : ∀ p l, x.f = some (p, l) → Feed H p l
  tb : LamX.Tabs x.tb H
theorem tabs_but {tb : List (Addr × Str)} {H H' : Hp} {a : Addr} (t : LamX.Tabs tb H) (nt : ∀ q, H a ≠ some (.tbl q)) (nc : ∀ c q, H a ≠ some (LamX.CodeO c q)) (e : ∀ b o, b ≠ a → H b = some o → H' b = some o) : LamX.Tabs tb H' := fun p hp => by
  obtain ⟨ps, h1, h2, h3⟩ := t p hp
  refine ⟨ps, e _ _ (fun z => nt ps (z ▸ h1)) h1, h2, fun pos cv hc => ?_⟩
  obtain ⟨c, e1, e2⟩ := h3 pos cv hc
  exact ⟨c, e1, e _ _ (fun z => nc c p.2 (by rw [← z]; exact e2)) e2⟩
namespace ok
variable {x : Fdx} {H H' : Hp} {a : Addr}
theorem same (h : x.ok H) (e : Same H H') : x.ok H' := ⟨fun p l q => (h.fd p l q).same e, LamX.Tabs.ext h.tb fun b o q => e b o q⟩
theorem tk (h : x.ok H) (m : x.mv a) : H a ≠ none := by
  rcases m with ⟨l, m⟩ | ⟨q, m⟩
  · exact (h.fd a l m).tk
  · obtain ⟨ps, z, _⟩ := h.tb _ m
    rw [z]; intro y; cases y
theorem put {u : HO} (h : x.ok H) (n : ¬ x.mv a) (nl : ∀ p l, x.f = some (p, l) → l ≠ a) (nc : ∀ c q, H a ≠ some (LamX.CodeO c q)) : x.ok (upd H a u) where
  fd := fun p l e => by
    obtain ⟨ns, i', c, s, q1, q2, q⟩ := h.fd p l e
    exact ⟨ns, i', c, s, by rw [upd_ne (fun z => n (by rw [← z]; exact .inl ⟨l, e⟩))]; exact q1, by rw [upd_ne (nl p l e)]; exact q2, q⟩
  tb := fun p hp => by
    obtain ⟨ps, h1, h2, h3⟩ := h.tb p hp
    refine ⟨ps, by rw [upd_ne (fun z => n (by rw [← z]; exact .inr ⟨p.2, hp⟩))]; exact h1, h2, fun pos cv hc => ?_⟩
    obtain ⟨c, e1, e2⟩ := h3 pos cv hc
    exact ⟨c, e1, by rw [upd_ne (fun z => nc c p.2 (by rw [← z]; exact e2))]; exact e2⟩
end ok
end Fdx
/-- tracked, and no lambda -/
def Tkd (H : Hp) (a : Addr) : Prop := ∃ u, H a = some u ∧ ∀ c q, u ≠ LamX.CodeO c q
theorem Tkd.ne {H : Hp} {a : Addr} (h : Tkd H a) : H a ≠ none := by
  obtain ⟨u, h, _⟩ := h
  rw [h]; intro z; cases z
theorem noCode {H : Hp} {a : Addr} {o : HO} (h : H a = some o) (n : ∀ f, o ≠ .ext f) : ∀ c q, H a ≠ some (LamX.CodeO c q) := fun c q z => by
  rw [h] at z
  exact n _ (Option.some.inj z)
structure Cf where
  K : PySem.W.Frag
  ad : Nat → Addr
  fl : Nat → List Str
  ae : Nat → Addr
  xn : Nat → List Str
  fd : Fdx
  self : Option Addr
  dx : Dx
def Cf.ok0 (g : Cf) (i : Nat) : Prop := i ≠ 0 ∨ g.self = none
/-- an instance's attributes are the class's first ones, in order -/
def FvOk (g : Cf) (C : Nat) (fv : List (Str × V)) : Prop := fv.map Prod.fst = (g.fl C).take fv.length
def DnAt (dx : Dx) (H : Hp) (xs : List (NestedKey × Addr)) (vs : List V) (a : Addr) : Prop := ∃ o, H a = some (.frz o (DnO dx.hk xs vs a))
def DkAt (dx : Dx) (H : Hp) (a : Addr) (kvs : List (Key × V)) : Prop := (∃ o, H a = some (.frz o (.dK kvs))) ∨ (a, kvs) ∈ dx.sd
mutual
inductive Rp (g : Cf) (H : Hp) : V → D → Prop
  | non : Rp g H .non .non
  | bl (b : Bool) : Rp g H (.bl b) (.bl b)
  | int (i : Int) : Rp g H (.int i) (.int i)
  | str (x : Str) : PyData.strOk x = true → Rp g H (.str x) (.str x)
  | lst {a : Addr} {vs : List V} {ds : List D} : H a = some (.lst vs) → RpA g H vs ds → Rp g H (.ref a) (.lst ds)
  | tup {a : Addr} {vs : List V} {ds : List D} : SqT g.K H a vs → RpA g H vs ds → Rp g H (.ref a) (.tup ds)
  | ins {a dx : Addr} {C : Nat} {fv : List (Str × V)} {fs : List D} : H a = some (.ins (g.ad C) dx fv) → FvOk g C fv → RpA g H (fv.map Prod.snd) fs → Rp g H (.ref a) (.ins C fs)
  | feed {p l : Addr} : g.fd.f = some (p, l) → Rp g H (.ref p) .feed
  | fn {a : Addr} {j : Nat} : g.fd.lm j a H → Rp g H (.ref a) (.fn j)
  | dk {a : Addr} {kvs : List (Key × V)} {ks : List Key} {ds : List D} : DkAt g.dx H a kvs → kvs.map Prod.fst = ks → RpA g H (kvs.map Prod.snd) ds → Rp g H (.ref a) (.dk ks ds)
  | dn {a : Addr} {xs : List (NestedKey × Addr)} {vs : List V} {ks ds : List D} : DnAt g.dx H xs vs a → ks.map D.nk = xs.map (fun p => some p.1) → RpA g H (xs.map fun p => V.ref p.2) ks → RpA g H vs ds → Rp g H (.ref a) (.dn ks ds)
inductive RpA (g : Cf) (H : Hp) : List V → List D → Prop
  | nil : RpA g H [] []
  | cons {v : V} {d : D} {vs : List V} {ds : List D} : Rp g H v d → RpA g H vs ds → RpA g H (v :: vs) (d :: ds)
end
section
variable {g : Cf} {H H' : Hp}
mutual
theorem Rp.mono (e : Same H H') : ∀ (d : D) {v : V}, Rp g H v d → Rp g H' v d
  | .non, _, h => by cases h; exact .non
  | .bl b, _, h => by cases h; exact .bl b
  | .int i, _, h => by cases h; exact .int i
  | .str x, _, h => by cases h with | str _ h => exact .str x h
  | .lst ds, _, h => by
    cases h with
    | lst hs ha => exact .lst (e _ _ hs) (RpA.mono e ds ha)
  | .tup ds, _, h => by
    cases h with
    | tup hs ha => exact .tup (Same.seqTT e hs) (RpA.mono e ds ha)
  | .ins C fs, _, h => by
    cases h with
    | ins hs hf ha => exact .ins (e _ _ hs) hf (RpA.mono e fs ha)
  | .feed, _, h => by
    cases h with
    | feed h => exact .feed h
  | .fn j, _, h => by
    cases h with
    | fn h => exact .fn (g.fd.mono e h)
  | .dk ks ds, _, h => by
    cases h with
    | dk h1 h2 h3 => exact .dk (h1.imp (fun ⟨o, q⟩ => ⟨o, e _ _ q⟩) id) h2 (RpA.mono e ds h3)
  | .dn ks ds, _, h => by
    cases h with
    | dn h1 h2 h3 h4 => exact .dn (let ⟨o, q⟩ := h1; ⟨o, e _ _ q⟩) h2 (RpA.mono e ks h3) (RpA.mono e ds h4)
theorem RpA.mono (e : Same H H') : ∀ (ds : List D) {vs : List V}, RpA g H vs ds → RpA g H' vs ds
  | [], _, h => by cases h; exact .nil
  | d :: ds, _, h => by
    cases h with
    | cons h1 h2 => exact .cons (Rp.mono e d h1) (RpA.mono e ds h2)
end
mutual
theorem Rp.cg {g' : Cf} (e1 : g.K = g'.K) (e2 : g.ad = g'.ad) (e3 : g.fl = g'.fl) (e4 : g.fd = g'.fd) (e5 : g.dx = g'.dx) : ∀ (d : D) {v : V}, Rp g H v d → Rp g' H v d
  | .non, _, h => by cases h; exact .non
  | .bl b, _, h => by cases h; exact .bl b
  | .int i, _, h => by cases h; exact .int i
  | .str x, _, h => by cases h with | str _ h => exact .str x h
  | .lst ds, _, h => by
    cases h with
    | lst hs ha => exact .lst hs (RpA.cg e1 e2 e3 e4 e5 ds ha)
  | .tup ds, _, h => by
    cases h with
    | tup hs ha => exact .tup (e1 ▸ hs) (RpA.cg e1 e2 e3 e4 e5 ds ha)
  | .ins C fs, _, h => by
    cases h with
    | ins hs hf ha => exact .ins (e2 ▸ hs) (by unfold FvOk at hf ⊢; rw [← e3]; exact hf) (RpA.cg e1 e2 e3 e4 e5 fs ha)
  | .feed, _, h => by
    cases h with
    | feed h => exact .feed (e4 ▸ h)
  | .fn j, _, h => by
    cases h with
    | fn h => exact .fn (e4 ▸ h)
  | .dk ks ds, _, h => by
    cases h with
    | dk h1 h2 h3 => exact .dk (e5 ▸ h1) h2 (RpA.cg e1 e2 e3 e4 e5 ds h3)
  | .dn ks ds, _, h => by
    cases h with
    | dn h1 h2 h3 h4 => exact .dn (e5 ▸ h1) h2 (RpA.cg e1 e2 e3 e4 e5 ks h3) (RpA.cg e1 e2 e3 e4 e5 ds h4)
theorem RpA.cg {g' : Cf} (e1 : g.K = g'.K) (e2 : g.ad = g'.ad) (e3 : g.fl = g'.fl) (e4 : g.fd = g'.fd) (e5 : g.dx = g'.dx) : ∀ (ds : List D) {vs : List V}, RpA g H vs ds → RpA g' H vs ds
  | [], _, h => by cases h; exact .nil
  | d :: ds, _, h => by
    cases h with
    | cons h1 h2 => exact .cons (Rp.cg e1 e2 e3 e4 e5 d h1) (RpA.cg e1 e2 e3 e4 e5 ds h2)
end
theorem RpA.length : ∀ {vs : List V} {ds : List D}, RpA g H vs ds → vs.length = ds.length
  | _, _, .nil => rfl
  | _, _, .cons _ t => congrArg Nat.succ (RpA.length t)
theorem RpA.get : ∀ {vs : List V} {ds : List D} {i : Nat} {d : D}, RpA g H vs ds → ds[i]? = some d → ∃ v, vs[i]? = some v ∧ Rp g H v d
  | _, _, _, _, .nil, e => by simp at e
  | _, _, 0, _, .cons h _, e => by simp at e; subst e; exact ⟨_, rfl, h⟩
  | _, _, i + 1, _, .cons _ t, e => by
    obtain ⟨v, h1, h2⟩ := RpA.get (i := i) t (by simpa using e)
    exact ⟨v, by simpa using h1, h2⟩
theorem RpA.getV : ∀ {vs : List V} {ds : List D} {i : Nat} {v : V}, RpA g H vs ds → vs[i]? = some v → ∃ d, ds[i]? = some d ∧ Rp g H v d
  | _, _, _, _, .nil, e => by simp at e
  | _, _, 0, _, .cons h _, e => by simp at e; subst e; exact ⟨_, rfl, h⟩
  | _, _, i + 1, _, .cons _ t, e => by
    obtain ⟨v, h1, h2⟩ := RpA.getV (i := i) t (by simpa using e)
    exact ⟨v, by simpa using h1, h2⟩
theorem RpA.append : ∀ {vs us : List V} {ds es : List D}, RpA g H vs ds → RpA g H us es → RpA g H (vs ++ us) (ds ++ es)
  | _, _, _, _, .nil, s => s
  | _, _, _, _, .cons h t, s => .cons h (RpA.append t s)
theorem RpA.take : ∀ {vs : List V} {ds : List D} (n : Nat), RpA g H vs ds → RpA g H (vs.take n) (ds.take n)
  | _, _, 0, _ => by simp only [List.take_zero]; exact .nil
  | _, _, _ + 1, .nil => by simp only [List.take_nil]; exact .nil
  | _, _, n + 1, .cons h t => by simp only [List.take_succ_cons]; exact .cons h (RpA.take n t)
theorem RpA.drop : ∀ {vs : List V} {ds : List D} (n : Nat), RpA g H vs ds → RpA g H (vs.drop n) (ds.drop n)
  | _, _, 0, h => h
  | _, _, _ + 1, .nil => by simp only [List.drop_nil]; exact .nil
  | _, _, n + 1, .cons h t => by simp only [List.drop_succ_cons]; exact RpA.drop n t
theorem RpA.set {v : V} {d : D} (r : Rp g H v d) : ∀ {vs : List V} {ds : List D} (n : Nat), RpA g H vs ds → RpA g H (vs.set n v) (ds.set n d)
  | _, _, _, .nil => .nil
  | _, _, 0, .cons _ t => .cons r t
  | _, _, n + 1, .cons h t => .cons h (RpA.set r n t)
theorem RpA.eraseIdx : ∀ {vs : List V} {ds : List D} (n : Nat), RpA g H vs ds → RpA g H (vs.eraseIdx n) (ds.eraseIdx n)
  | _, _, _, .nil => .nil
  | _, _, 0, .cons _ t => t
  | _, _, n + 1, .cons h t => .cons h (RpA.eraseIdx n t)
theorem RpA.replicate {v : V} {d : D} (r : Rp g H v d) : ∀ n, RpA g H (List.replicate n v) (List.replicate n d)
  | 0 => .nil
  | n + 1 => .cons r (RpA.replicate r n)
theorem RpA.mem {v : V} : ∀ {vs : List V} {ds : List D}, RpA g H vs ds → v ∈ vs → ∃ d ∈ ds, Rp g H v d
  | _, _, .cons h t, e => by
    rcases List.mem_cons.mp e with rfl | e
    · exact ⟨_, List.mem_cons_self, h⟩
    · obtain ⟨d, h1, h2⟩ := RpA.mem t e
      exact ⟨d, List.mem_cons_of_mem _ h1, h2⟩
end
/-! ### what a run leaves: all objects but the feed's -/
def Ext (fd : Fdx) (H H' : Hp) : Prop :=
  (∀ b o, ¬ fd.mv b → H b = some o → H' b = some o) ∧ fd.ok H'
section
variable {fd : Fdx} {H H1 H2 : Hp}
theorem Ext.trans (a : Ext fd H H1) (b : Ext fd H1 H2) : Ext fd H H2 := ⟨fun x o n e => b.1 x o n (a.1 x o n e), b.2⟩
theorem Ext.same (a : Ext fd H H1) (e : Same H1 H2) : Ext fd H H2 := ⟨fun x o n h => e _ _ (a.1 x o n h), a.2.same e⟩
theorem Ext.of_same (e : Same H H1) (f : fd.ok H) : Ext fd H H1 := ⟨fun x o _ h => e _ _ h, f.same e⟩
/-- what is untracked behind it was so ahead -/
theorem Ext.free (e : Ext fd H H1) {a : Addr} (h : H1 a = none) (n : ¬ fd.mv a) : H a = none := by
  cases q : H a with
  | none => rfl
  | some o => rw [e.1 a o n q] at h; cases h
theorem Ext.off {T : List Addr} (e : Ext fd H H1) (t : ∀ p, fd.mv p → p ∈ T) : Same (off H T) (off H1 T) := fun b o h => by
  by_cases q : b ∈ T
  · rw [off_in q] at h; cases h
  · rw [off_ne q] at h ⊢
    exact e.1 b o (fun z => q (t b z)) h
theorem Ext.at {a : Addr} {o : HO} {T : List Addr} (e : Ext fd H H1) (t : ∀ p, fd.mv p → p ∈ T) (n : a ∉ T) (h : H a = some o) : H1 a = some o := e.1 a o (fun z => n (t a z)) h
end
/-! ### objects of a frame's own, results of expressions, the frame's names -/
inductive O where
  | l (ds : List D) | i (C : Nat) (fs : List D)
def O.toD : O → D
  | .l ds => .lst ds
  | .i C fs => .ins C fs
def RpO (g : Cf) (T : List Addr) (H : Hp) (a : Addr) : O → Prop
  | .l ds => ∃ vs, H a = some (.lst vs) ∧ RpA g (off H T) vs ds
  | .i C fs => ∃ dx fv, H a = some (.ins (g.ad C) dx fv) ∧ FvOk g C fv ∧ RpA g (off H T) (fv.map Prod.snd) fs
/-- plain, a new object, one of the frame's own, something that leans on such -/
inductive X where
  | p (d : D) | c (o : O) | b (o : O) | t (d : D)
def X.toD : X → D
  | .p d => d
  | .c o => o.toD
  | .b o => o.toD
  | .t d => d
def X.tn : X → Bool
  | .p _ => false
  | .c _ => false
  | .b _ => true
  | .t _ => true
def RpX (g : Cf) (T S : List Addr) (H0 H : Hp) (v : V) : X → Prop
  | .p d => Rp g (off H (T ++ S)) v d
  | .c o => ∃ a, v = .ref a ∧ H0 a = none ∧ a ∉ T ++ S ∧ RpO g (a :: (T ++ S)) H a o
  | .b o => ∃ a, v = .ref a ∧ a ∈ S ∧ a ∉ T ∧ RpO g (T ++ S) H a o
  | .t d => Rp g (off H T) v d
inductive Sl where
  | no | v (d : D) | c (o : O)
def SlOk (g : Cf) (T S : List Addr) (H : Hp) (x : Option V) : Sl → Prop
  | .no => True
  | .v d => ∃ v, x = some v ∧ Rp g (off H (T ++ S)) v d
  | .c o => ∃ a, x = some (.ref a) ∧ a ∈ S ∧ RpO g (T ++ S) H a o
/-- the frame: T are others' addresses; He the heap at its entry; S the frame's own objects -/
structure Rl (g : Cf) (T : List Addr) (He : Hp) (S : List Addr) (H : Hp) (Γ : List Sl) (σ : St) : Prop where
  len : Γ.length = σ.length
  sl : ∀ (i : Nat) (s : Sl), Γ[i]? = some s → SlOk g T S H (σ[i]?.join) s
  ne : ∀ (i j : Nat) (o o' : O) (a : Addr), Γ[i]? = some (.c o) → Γ[j]? = some (.c o') → σ[i]? = some (some (.ref a)) → σ[j]? = some (some (.ref a)) → i = j
  tk : ∀ a ∈ S, Tkd H a
  nw : ∀ a ∈ S, He a = none
  ft : (∀ p, g.fd.mv p → p ∈ T) ∧ ∀ p l, g.fd.f = some (p, l) → He l ≠ none
  tt : ∀ a ∈ T, He a ≠ none
  ex : Ext g.fd He H
  s0 : ∀ a, g.self = some a → σ[0]? = some (some (.ref a))
section
variable {g : Cf} {T S : List Addr} {H0 He H H' : Hp} {v : V} {a : Addr} {o : O} {x : X} {Γ : List Sl} {σ : St}
theorem off_off {H : Hp} {S T : List Addr} (h : ∀ b ∈ S, b ∈ T) {v : V} {d : D} (r : Rp g (off H T) v d) : Rp g (off H S) v d := r.mono (off_sub h) d
theorem Rp.on {d : D} (r : Rp g (off H T) v d) : Rp g H v d := r.mono (off_same H T) d
theorem RpO.mono {T' : List Addr} (r : RpO g T H a o) (h : ∀ o', H a = some o' → H' a = some o') (e : Same (off H T) (off H' T')) : RpO g T' H' a o := by
  cases o with
  | l ds => obtain ⟨vs, h1, h2⟩ := r; exact ⟨vs, h _ h1, h2.mono e⟩
  | i C fs => obtain ⟨dx, fv, h1, hf, h2⟩ := r; exact ⟨dx, fv, h _ h1, hf, RpA.mono e _ h2⟩
theorem RpO.sub {T' : List Addr} (r : RpO g T' H a o) (h : ∀ b ∈ T, b ∈ T') : RpO g T H a o := by
  cases o with
  | l ds => obtain ⟨vs, h1, h2⟩ := r; exact ⟨vs, h1, h2.mono (off_sub h)⟩
  | i C fs => obtain ⟨dx, fv, h1, hf, h2⟩ := r; exact ⟨dx, fv, h1, hf, RpA.mono (off_sub h) _ h2⟩
theorem RpO.toD {T' : List Addr} (r : RpO g T' H a o) (h : ∀ b ∈ T, b ∈ T') (n : a ∉ T) : Rp g (off H T) (.ref a) o.toD := by
  cases o with
  | l ds => obtain ⟨vs, h1, h2⟩ := r; exact .lst (by rw [off_ne n]; exact h1) (h2.mono (off_sub h))
  | i C fs => obtain ⟨dx, fv, h1, hf, h2⟩ := r; exact .ins (by rw [off_ne n]; exact h1) hf (RpA.mono (off_sub h) _ h2)
/-- a result as data -/
theorem RpX.toD (r : RpX g T S H0 H v x) : Rp g (off H T) v x.toD := by
  cases x with
  | p d => exact off_off (fun b h => List.mem_append_left _ h) r
  | c o => obtain ⟨a, rfl, _, n, r⟩ := r; exact r.toD (fun b h => List.mem_cons_of_mem _ (List.mem_append_left _ h)) fun z => n (List.mem_append_left _ z)
  | b o => obtain ⟨a, rfl, _, n, r⟩ := r; exact r.toD (fun b h => List.mem_append_left _ h) n
  | t d => exact r
theorem RpX.toD' (r : RpX g T S H0 H v x) (h : x.tn = false) : Rp g (off H (T ++ S)) v x.toD := by
  cases x with
  | p d => exact r
  | c o => obtain ⟨a, rfl, _, n, r⟩ := r; exact r.toD (fun b h => List.mem_cons_of_mem _ h) n
  | b o => cases h
  | t d => cases h
theorem RpX.on (r : RpX g T S H0 H v x) : Rp g H v x.toD := r.toD.on
theorem RpO.tkd (r : RpO g T H a o) : Tkd H a := by
  cases o with
  | l ds => obtain ⟨vs, h1, _⟩ := r; exact ⟨_, h1, fun c q z => by cases z⟩
  | i C fs => obtain ⟨dx, fv, h1, _⟩ := r; exact ⟨_, h1, fun c q z => by cases z⟩
theorem RpO.noCode (r : RpO g T H a o) : ∀ c q, H a ≠ some (LamX.CodeO c q) := by
  cases o with
  | l ds => obtain ⟨vs, h1, _⟩ := r; exact G.noCode h1 fun f z => by cases z
  | i C fs => obtain ⟨dx, fv, h1, _⟩ := r; exact G.noCode h1 fun f z => by cases z
theorem RpX.mono (r : RpX g T S H0 H v x) (e : Ext g.fd H H') (t : ∀ p, g.fd.mv p → p ∈ T) : RpX g T S H0 H' v x := by
  have t' : ∀ p, g.fd.mv p → p ∈ T ++ S := fun p h => List.mem_append_left _ (t p h)
  cases x with
  | p d => exact Rp.mono (e.off t') d r
  | c o =>
    obtain ⟨a, rfl, n0, n, r⟩ := r
    exact ⟨a, rfl, n0, n, r.mono (fun o' h => e.at t' n h) (e.off fun p h => List.mem_cons_of_mem _ (t' p h))⟩
  | b o => obtain ⟨a, rfl, m, n, r⟩ := r; exact ⟨a, rfl, m, n, r.mono (fun o' h => e.at t n h) (e.off t')⟩
  | t d => exact Rp.mono (e.off t) d r
/-- from a later start -/
theorem RpX.early (r : RpX g T S H H' v x) (e : Ext g.fd H0 H) (t : ∀ p, g.fd.mv p → p ∈ T) : RpX g T S H0 H' v x := by
  cases x with
  | p d => exact r
  | b o => exact r
  | t d => exact r
  | c o =>
    obtain ⟨a, rfl, n0, n, r⟩ := r
    exact ⟨a, rfl, e.free n0 fun h => n (List.mem_append_left _ (t a h)), n, r⟩
theorem Rl.t (r : Rl g T He S H Γ σ) : ∀ p, g.fd.mv p → p ∈ T := r.ft.1
theorem Rl.nT (r : Rl g T He S H Γ σ) (h : a ∈ S) : a ∉ T := fun z => r.tt a z (r.nw a h)
theorem Rl.mono (r : Rl g T He S H Γ σ) (e : Ext g.fd H H') : Rl g T He S H' Γ σ where
  len := r.len
  sl := fun i s h => by
    have t' : ∀ p, g.fd.mv p → p ∈ T ++ S := fun p h => List.mem_append_left _ (r.t p h)
    have q := r.sl i s h
    cases s with
    | no => trivial
    | v d => obtain ⟨v, h1, h2⟩ := q; exact ⟨v, h1, Rp.mono (e.off t') d h2⟩
    | c o => obtain ⟨a, h1, h2, h3⟩ := q; exact ⟨a, h1, h2, h3.mono (fun o' h => e.at r.t (r.nT h2) h) (e.off t')⟩
  ne := r.ne
  tk := fun a h => by
    obtain ⟨u, q, n⟩ := r.tk a h
    exact ⟨u, e.at r.t (r.nT h) q, n⟩
  nw := r.nw
  ft := r.ft
  tt := r.tt
  ex := r.ex.trans e
  s0 := r.s0
theorem Rl.feed (r : Rl g T He S H Γ σ) {p l : Addr} (h : g.fd.f = some (p, l)) : Feed H p l := r.ex.2.fd p l h
theorem Rl.okd (r : Rl g T He S H Γ σ) : g.fd.ok H := r.ex.2
theorem Rl.tkT (r : Rl g T He S H Γ σ) (h : a ∈ T) : H a ≠ none := by
  cases q : He a with
  | none => exact absurd q (r.tt a h)
  | some o =>
    by_cases z : g.fd.mv a
    · exact r.okd.tk z
    · rw [r.ex.1 a o z q]; intro z; cases z
theorem Rl.tkTS (r : Rl g T He S H Γ σ) (h : a ∈ T ++ S) : H a ≠ none := (List.mem_append.mp h).elim r.tkT fun h => (r.tk a h).ne
theorem Rl.freeTS (r : Rl g T He S H Γ σ) (h : H a = none) : a ∉ T ++ S := fun z => r.tkTS z h
theorem Rl.same (r : Rl g T He S H Γ σ) (e : Same H H') : Ext g.fd H H' := Ext.of_same e r.okd
/-- a new object laid -/
theorem Rl.ext_new (r : Rl g T He S H Γ σ) {o : HO} (h : H a = none) : Ext g.fd H (upd H a o) := r.same (Same.newT h)
/-! slots -/
theorem s0_set {i : Nat} {v : Option V} (h0 : g.ok0 i) (h : ∀ a, g.self = some a → σ[0]? = some (some (.ref a))) : ∀ a, g.self = some a → (σ.set i v)[0]? = some (some (.ref a)) := fun a e => by
  rcases h0 with z | z
  · rw [List.getElem?_set_ne z]; exact h a e
  · rw [z] at e; cases e
theorem Rl.set_v {i : Nat} {d : D} (r : Rl g T He S H Γ σ) (h0 : g.ok0 i) (h : Rp g (off H (T ++ S)) v d) : Rl g T He S H (Γ.set i (.v d)) (σ.set i (some v)) where
  len := by rw [List.length_set, List.length_set]; exact r.len
  sl := fun j s e => by
    by_cases q : i = j
    · subst q
      have hi : i < Γ.length := by
        have := (List.getElem?_eq_some_iff.mp e).1
        simpa using this
      rw [List.getElem?_set_self hi] at e
      cases e
      rw [List.getElem?_set_self (by rw [← r.len]; exact hi)]
      exact ⟨v, rfl, h⟩
    · rw [List.getElem?_set_ne q] at e ⊢
      exact r.sl j s e
  ne := fun j k o o' a h1 h2 h3 h4 => by
    have nj : i ≠ j := fun q => by
      subst q
      have hi : i < Γ.length := by have := (List.getElem?_eq_some_iff.mp h1).1; simpa using this
      rw [List.getElem?_set_self hi] at h1; cases h1
    have nk : i ≠ k := fun q => by
      subst q
      have hi : i < Γ.length := by have := (List.getElem?_eq_some_iff.mp h2).1; simpa using this
      rw [List.getElem?_set_self hi] at h2; cases h2
    rw [List.getElem?_set_ne nj] at h1 h3
    rw [List.getElem?_set_ne nk] at h2 h4
    exact r.ne j k o o' a h1 h2 h3 h4
  tk := r.tk
  nw := r.nw
  ft := r.ft
  tt := r.tt
  ex := r.ex
  s0 := s0_set h0 r.s0
/-- a new object comes to a name -/
theorem off_free (h : H a = none) : Same (off H (T ++ S)) (off H (T ++ (a :: S))) := fun b o e => by
  by_cases q : b ∈ T ++ (a :: S)
  · have : b ∈ T ++ S := by
      rcases List.mem_append.mp q with z | z
      · exact List.mem_append_left _ z
      · rcases List.mem_cons.mp z with rfl | z
        · exact absurd (off_same H _ _ _ e) (by rw [h]; intro z; cases z)
        · exact List.mem_append_right _ z
    rw [off_in this] at e; cases e
  · rw [off_ne q]; exact off_same H _ _ _ e
theorem mem_mid {b : Addr} : b ∈ a :: (T ++ S) ↔ b ∈ T ++ (a :: S) := by
  simp only [List.mem_cons, List.mem_append]
  exact ⟨fun h => h.elim (fun e => .inr (.inl e)) fun h => h.elim .inl fun h => .inr (.inr h), fun h => h.elim (fun e => .inr (.inl e)) fun h => h.elim .inl fun h => .inr (.inr h)⟩
theorem Rl.set_c {i : Nat} {o : O} (r : Rl g T He S H0 Γ σ) (h0 : g.ok0 i) (e : Ext g.fd H0 H) (hn : H0 a = none) (ho : RpO g (a :: (T ++ S)) H a o) : Rl g T He (a :: S) H (Γ.set i (.c o)) (σ.set i (some (.ref a))) := by
  have t' : ∀ p, g.fd.mv p → p ∈ T ++ (a :: S) := fun p h => List.mem_append_left _ (r.t p h)
  have sm : Same (off H0 (T ++ S)) (off H (T ++ (a :: S))) := (off_free hn).trans (e.off t')
  have old : ∀ (j : Nat) (o' : O), Γ[j]? = some (.c o') → σ[j]? ≠ some (some (.ref a)) := fun j o' h1 h2 => by
    obtain ⟨b, h3, h4, _⟩ := r.sl j _ h1
    rw [h2] at h3
    cases h3
    exact (r.tk a h4).ne hn
  have len : ∀ {j : Nat} {s : Sl} {t : Sl}, (Γ.set j s)[j]? = some t → j < Γ.length := fun {j s t} h => by
    have := (List.getElem?_eq_some_iff.mp h).1
    simpa using this
  refine ⟨by rw [List.length_set, List.length_set]; exact r.len, fun j s q => ?_, fun j k o1 o2 b h1 h2 h3 h4 => ?_, fun b h => ?_, fun b h => ?_, r.ft, r.tt, r.ex.trans e, s0_set h0 r.s0⟩
  · by_cases z : i = j
    · subst z
      have hi := len q
      rw [List.getElem?_set_self hi] at q
      cases q
      rw [List.getElem?_set_self (by rw [← r.len]; exact hi)]
      exact ⟨a, rfl, List.mem_cons_self, ho.sub fun b hb => mem_mid.mpr hb⟩
    · rw [List.getElem?_set_ne z] at q ⊢
      have y := r.sl j s q
      cases s with
      | no => trivial
      | v d => obtain ⟨v, h1, h2⟩ := y; exact ⟨v, h1, h2.mono sm⟩
      | c o' => obtain ⟨b, h1, h2, h3⟩ := y; exact ⟨b, h1, List.mem_cons_of_mem _ h2, h3.mono (fun o' h => e.at r.t (r.nT h2) h) sm⟩
  · by_cases nj : i = j
    · subst nj
      by_cases nk : i = k
      · exact nk
      · rw [List.getElem?_set_self (by rw [← r.len]; exact len h1)] at h3
        cases h3
        rw [List.getElem?_set_ne nk] at h2 h4
        exact absurd h4 (old k o2 h2)
    · by_cases nk : i = k
      · subst nk
        rw [List.getElem?_set_self (by rw [← r.len]; exact len h2)] at h4
        cases h4
        rw [List.getElem?_set_ne nj] at h1 h3
        exact absurd h3 (old j o1 h1)
      · rw [List.getElem?_set_ne nj] at h1 h3
        rw [List.getElem?_set_ne nk] at h2 h4
        exact r.ne j k o1 o2 b h1 h2 h3 h4
  · rcases List.mem_cons.mp h with rfl | h
    · exact ho.tkd
    · obtain ⟨u, q, n⟩ := r.tk b h
      exact ⟨u, e.at r.t (r.nT h) q, n⟩
  · rcases List.mem_cons.mp h with rfl | h
    · exact r.ex.free hn fun h => r.okd.tk h hn
    · exact r.nw b h
/-- one of the frame's own objects is written anew -/
theorem Rl.put {i : Nat} {o o' : O} {u : HO} (r : Rl g T He S H Γ σ) (h1 : Γ[i]? = some (.c o)) (h2 : σ[i]? = some (some (.ref a))) (ho : RpO g (T ++ S) (upd H a u) a o') : Rl g T He S (upd H a u) (Γ.set i (.c o')) σ := by
  obtain ⟨b, h3, h4, h5⟩ := r.sl i _ h1
  rw [h2] at h3
  cases h3
  have hT := r.nT h4
  have mem : a ∈ T ++ S := List.mem_append_right _ h4
  have oe : off (upd H a u) (T ++ S) = off H (T ++ S) := off_upd mem
  have ext : Ext g.fd He (upd H a u) := by
    refine ⟨fun b ob n hb => ?_, r.okd.put (fun z => hT (r.t a z)) (fun p l hp z => r.ft.2 p l hp (by rw [z]; exact r.nw a h4)) h5.noCode⟩
    rw [upd_ne (ne_of_none hb (r.nw a h4))]
    exact r.ex.1 b ob n hb
  refine ⟨by rw [List.length_set]; exact r.len, fun j s q => ?_, fun j k o1 o2 b h6 h7 h8 h9 => ?_, fun b h => ?_, r.nw, r.ft, r.tt, ext, r.s0⟩
  · by_cases z : i = j
    · subst z
      have hi : i < Γ.length := by
        have := (List.getElem?_eq_some_iff.mp q).1
        simpa using this
      rw [List.getElem?_set_self hi] at q
      cases q
      rw [h2]
      exact ⟨a, rfl, h4, ho⟩
    · rw [List.getElem?_set_ne z] at q
      have y := r.sl j s q
      cases s with
      | no => trivial
      | v d => obtain ⟨v, y1, y2⟩ := y; exact ⟨v, y1, by rw [oe]; exact y2⟩
      | c o3 =>
        obtain ⟨b, y1, y2, y3⟩ := y
        have y1' : σ[j]? = some (some (.ref b)) := by
          cases w : σ[j]? with
          | none => rw [w] at y1; cases y1
          | some x => rw [w] at y1; exact congrArg some y1
        have nb : b ≠ a := fun e => z (r.ne i j o o3 a h1 q h2 (e ▸ y1'))
        exact ⟨b, y1, y2, y3.mono (fun o' h => by rw [upd_ne nb]; exact h) (by rw [oe]; exact Same.refl _)⟩
  · have down : ∀ {m : Nat} {o3 : O}, (Γ.set i (.c o'))[m]? = some (.c o3) → ∃ o4, Γ[m]? = some (.c o4) := fun {m o3} h => by
      by_cases z : i = m
      · subst z; exact ⟨o, h1⟩
      · rw [List.getElem?_set_ne z] at h; exact ⟨_, h⟩
    obtain ⟨o3, q1⟩ := down h6
    obtain ⟨o4, q2⟩ := down h7
    exact r.ne j k o3 o4 b q1 q2 h8 h9
  · by_cases z : b = a
    · rw [z]; exact ho.tkd
    · obtain ⟨u, q, n⟩ := r.tk b h
      exact ⟨u, by rw [upd_ne z]; exact q, n⟩
end
end G
namespace G
open PySem PySem.Spec L2
open PyProof.Rows hiding St
/-! ### readings of runs -/
abbrev Se (α : Type) := List Sl → M α
inductive RpXs (g : Cf) (T S : List Addr) (H0 H : Hp) : List V → List X → Prop
  | nil : RpXs g T S H0 H [] []
  | cons {v : V} {x : X} {vs : List V} {xs : List X} : RpX g T S H0 H v x → RpXs g T S H0 H vs xs → RpXs g T S H0 H (v :: vs) (x :: xs)
/-- the fields of an exception as they lie at d -/
def XdOk (g : Cf) (T : List Addr) (H : Hp) (d : Addr) (C : Nat) (fs : List D) : Prop := ∃ fv : List (Str × V), H d = some (.xd fv) ∧ (g.xn C).length = fs.length ∧ ∀ (i : Nat) (f : Str), (g.xn C)[i]? = some f → ∃ v e, fv.lookup f = some v ∧ fs[i]? = some e ∧ Rp g (off H T) v e
/-- a frame's wish W, of runs -/
def xp (g : Cf) (W : XK) (T : List Addr) (He : Hp) : XD := fun C fs => ∀ d H', Ext g.fd He H' → XdOk g T H' d C fs → W (.ref (g.ae C)) (some d) H'
/-- no wish -/
def XN : XK := fun _ _ _ => False
def rdE (g : Cf) (W : XK) (T : List Addr) (He : Hp) (f : Se X) : TE := fun σ H Q => ∃ Γ S, Rl g T He S H Γ σ ∧ (f Γ).wp (xp g W T He) fun x => ∀ v H', Ext g.fd H H' → RpX g T S H H' v x → Q v H'
def rdT (g : Cf) (W : XK) (T : List Addr) (He : Hp) (f : Se Bool) : TT := fun σ H Q => ∃ Γ S, Rl g T He S H Γ σ ∧ (f Γ).wp (xp g W T He) fun b => ∀ H', Ext g.fd H H' → Q b H'
def rdA (g : Cf) (W : XK) (T : List Addr) (He : Hp) (f : Se (List X)) : TA := fun σ H Q => ∃ Γ S, Rl g T He S H Γ σ ∧ (f Γ).wp (xp g W T He) fun xs => ∀ vs H', Ext g.fd H H' → RpXs g T S H H' vs xs → Q vs H'
abbrev EV (Z : Cx) (g : Cf) (W : XK) (T : List Addr) (He : Hp) (e : Expr) (f : Se X) : Prop := PE Z e (rdE g W T He f)
abbrev EB (Z : Cx) (g : Cf) (W : XK) (T : List Addr) (He : Hp) (e : Expr) (f : Se Bool) : Prop := PT Z e (rdT g W T He f)
abbrev EA (Z : Cx) (g : Cf) (W : XK) (T : List Addr) (He : Hp) (es : List Expr) (f : Se (List X)) : Prop := PA Z es (rdA g W T He f)
theorem pe_w {Z : Cx} {e : Expr} {t t' : TE} (h : PE Z e t) (k : ∀ σ H Q, t' σ H Q → t σ H Q) : PE Z e t' := ⟨fun pins s σ H Q I q => h.run pins s σ H Q I (k _ _ _ q)⟩
theorem pt_w {Z : Cx} {e : Expr} {t t' : TT} (h : PT Z e t) (k : ∀ σ H Q, t' σ H Q → t σ H Q) : PT Z e t' := ⟨fun pins s σ H Q I q => h.run pins s σ H Q I (k _ _ _ q)⟩
theorem pw_w {Z : Cx} {e : Expr} {t t' : TT} (h : PW Z e t) (k : ∀ σ H Q, t' σ H Q → t σ H Q) : PW Z e t' := ⟨fun wh pins s σ H Q I q => h.run wh pins s σ H Q I (k _ _ _ q)⟩
theorem pa_w {Z : Cx} {es : List Expr} {t t' : TA} (h : PA Z es t) (k : ∀ σ H Q, t' σ H Q → t σ H Q) : PA Z es t' := ⟨fun pos pins s σ H Q I q => h.run pos pins s σ H Q I (k _ _ _ q)⟩
section
variable {g : Cf} {W : XK} {T S : List Addr} {H0 He H H' : Hp} {v : V} {a : Addr} {o : O} {x : X} {Γ : List Sl} {σ : St}
theorem RpXs.mono : ∀ {vs : List V} {xs : List X}, RpXs g T S H0 H vs xs → Ext g.fd H H' → (∀ p, g.fd.mv p → p ∈ T) → RpXs g T S H0 H' vs xs
  | _, _, .nil, _, _ => .nil
  | _, _, .cons h t, e, f => .cons (h.mono e f) (RpXs.mono t e f)
theorem RpXs.early : ∀ {vs : List V} {xs : List X}, RpXs g T S H H' vs xs → Ext g.fd H0 H → (∀ p, g.fd.mv p → p ∈ T) → RpXs g T S H0 H' vs xs
  | _, _, .nil, _, _ => .nil
  | _, _, .cons h t, e, f => .cons (h.early e f) (RpXs.early t e f)
theorem rdE.use {f : Se X} {R : VK} (r : Rl g T He S H Γ σ) (w : (f Γ).wp (xp g W T He) fun x => ∀ v H', Ext g.fd H H' → Rl g T He S H' Γ σ → RpX g T S H H' v x → R v H') : rdE g W T He f σ H R :=
  ⟨Γ, S, r, M.wp_mono (fun x q v H' e rx => q v H' e (r.mono e) rx) w⟩
theorem rdT.use {f : Se Bool} {R : Bool → Hp → Prop} (r : Rl g T He S H Γ σ) (w : (f Γ).wp (xp g W T He) fun b => ∀ H', Ext g.fd H H' → Rl g T He S H' Γ σ → R b H') : rdT g W T He f σ H R :=
  ⟨Γ, S, r, M.wp_mono (fun x q H' e => q H' e (r.mono e)) w⟩
theorem rdA.use {f : Se (List X)} {R : List V → Hp → Prop} (r : Rl g T He S H Γ σ) (w : (f Γ).wp (xp g W T He) fun xs => ∀ vs H', Ext g.fd H H' → Rl g T He S H' Γ σ → RpXs g T S H H' vs xs → R vs H') : rdA g W T He f σ H R :=
  ⟨Γ, S, r, M.wp_mono (fun x q v H' e rx => q v H' e (r.mono e) rx) w⟩
end
/-! ### operations by values -/
/-- an argument: data, or an object whose items are data -/
inductive Rp1 (g : Cf) (T : List Addr) (H : Hp) : V → D → Prop
  | of {v : V} {d : D} : Rp g (off H T) v d → Rp1 g T H v d
  | l {a : Addr} {vs : List V} {ds : List D} : H a = some (.lst vs) → RpA g (off H T) vs ds → Rp1 g T H (.ref a) (.lst ds)
  | i {a dx : Addr} {C : Nat} {fv : List (Str × V)} {fs : List D} : H a = some (.ins (g.ad C) dx fv) → FvOk g C fv → RpA g (off H T) (fv.map Prod.snd) fs → Rp1 g T H (.ref a) (.ins C fs)
inductive Rp1s (g : Cf) (T : List Addr) (H : Hp) : List V → List D → Prop
  | nil : Rp1s g T H [] []
  | cons {v : V} {d : D} {vs : List V} {ds : List D} : Rp1 g T H v d → Rp1s g T H vs ds → Rp1s g T H (v :: vs) (d :: ds)
/-- a result: an atom, a new object, data -/
inductive R where
  | at (d : D) | nw (o : O) | dt (d : D)
inductive AtR : V → D → Prop
  | non : AtR .non .non
  | bl (b : Bool) : AtR (.bl b) (.bl b)
  | int (i : Int) : AtR (.int i) (.int i)
  | str (x : Str) : PyData.strOk x = true → AtR (.str x) (.str x)
theorem AtR.rp {g : Cf} {H : Hp} {v : V} {d : D} (h : AtR v d) : Rp g H v d := by
  cases h with
  | non => exact .non
  | bl b => exact .bl b
  | int i => exact .int i
  | str x h => exact .str x h
def D.flat : D → Bool
  | .non => true
  | .bl _ => true
  | .int _ => true
  | .str _ => true
  | _ => false
theorem Rp.flatAny {g : Cf} {H H' : Hp} {v : V} {d : D} (r : Rp g H v d) (h : d.flat = true) : Rp g H' v d := by
  cases r <;> first | (cases h; done) | constructor
  rename_i z; exact z
def RpR (g : Cf) (T : List Addr) (H0 H : Hp) (v : V) : R → Prop
  | .at d => AtR v d
  | .nw o => ∃ a, v = .ref a ∧ H0 a = none ∧ a ∉ T ∧ RpO g (a :: T) H a o
  | .dt d => Rp g (off H T) v d
def X.tt : X → Bool
  | .t _ => true
  | _ => false
def R.fin (tt : Bool) : R → X
  | .at d => .p d
  | .nw o => if tt then .t o.toD else .c o
  | .dt d => if tt && !d.flat then .t d else .p d
@[simp] theorem fin_at {tt : Bool} {d : D} : (R.at d).fin tt = .p d := rfl
@[simp] theorem fin_nw {o : O} : (R.nw o).fin false = .c o := rfl
@[simp] theorem fin_dt {d : D} : (R.dt d).fin false = .p d := rfl
@[simp] theorem fin_dtf {tt : Bool} {d : D} (h : d.flat = true) : (R.dt d).fin tt = .p d := by show (if (tt && !d.flat) = true then X.t d else X.p d) = _; rw [h]; simp
@[simp] theorem tt_p {d : D} : (X.p d).tt = false := rfl
@[simp] theorem tt_c {o : O} : (X.c o).tt = false := rfl
@[simp] theorem tt_b {o : O} : (X.b o).tt = false := rfl
@[simp] theorem tt_t {d : D} : (X.t d).tt = true := rfl
@[simp] theorem toD_p {d : D} : (X.p d).toD = d := rfl
@[simp] theorem toD_c {o : O} : (X.c o).toD = o.toD := rfl
@[simp] theorem toD_b {o : O} : (X.b o).toD = o.toD := rfl
@[simp] theorem toD_t {d : D} : (X.t d).toD = d := rfl
@[simp] theorem O_l {ds : List D} : (O.l ds).toD = .lst ds := rfl
@[simp] theorem O_i {C : Nat} {fs : List D} : (O.i C fs).toD = .ins C fs := rfl
structure FdOk (g : Cf) (T : List Addr) (H : Hp) : Prop where
  tk : ∀ a ∈ T, H a ≠ none
  fd : (∀ p, g.fd.mv p → p ∈ T) ∧ g.fd.ok H
section
variable {g : Cf} {W : XK} {T S : List Addr} {H0 He H H' : Hp} {v : V} {a : Addr} {o : O} {x : X} {Γ : List Sl} {σ : St}
theorem FdOk.same (f : FdOk g T H) (e : Same H H') : Ext g.fd H H' := Ext.of_same e f.fd.2
theorem FdOk.new (f : FdOk g T H) {u : HO} (h : H a = none) : Ext g.fd H (upd H a u) := f.same (Same.newT h)
theorem FdOk.refl (f : FdOk g T H) : Ext g.fd H H := f.same (Same.refl _)
theorem FdOk.nin (f : FdOk g T H) (h : H a = none) : a ∉ T := fun z => f.tk a z h
theorem Rl.fok (r : Rl g T He S H Γ σ) : FdOk g (T ++ S) H := ⟨fun _ h => r.tkTS h, fun p h => List.mem_append_left _ (r.t p h), r.okd⟩
theorem Rl.fokT (r : Rl g T He S H Γ σ) : FdOk g T H := ⟨fun _ h => r.tkT h, r.t, r.okd⟩
/-- a frame of T, or of T and S, as the results are tainted -/
def TS (T S : List Addr) (tt : Bool) : List Addr := if tt then T else T ++ S
theorem Rl.fokB (r : Rl g T He S H Γ σ) (tt : Bool) : FdOk g (TS T S tt) H := by
  cases tt
  · exact r.fok
  · exact r.fokT
theorem RpX.r1 {tt : Bool} (r : RpX g T S H0 H v x) (h : x.tt = true → tt = true) : Rp1 g (TS T S tt) H v x.toD := by
  have sub : ∀ b ∈ TS T S tt, b ∈ T ++ S := fun b hb => by
    cases tt
    · exact hb
    · exact List.mem_append_left _ hb
  cases x with
  | p d => exact .of (off_off sub r)
  | c o =>
    obtain ⟨a, rfl, _, n, r⟩ := r
    exact .of (r.toD (fun b h => List.mem_cons_of_mem _ (sub b h)) fun z => n (sub a z))
  | b o =>
    obtain ⟨a, rfl, _, n, r⟩ := r
    cases o with
    | l ds => obtain ⟨vs, h1, h2⟩ := r; exact .l h1 (h2.mono (off_sub sub))
    | i C fs => obtain ⟨dx, fv, h1, hf, h2⟩ := r; exact .i h1 hf (RpA.mono (off_sub sub) _ h2)
  | t d =>
    have := h rfl
    subst this
    exact .of r
theorem RpXs.r1 {tt : Bool} : ∀ {vs : List V} {xs : List X}, RpXs g T S H0 H vs xs → (xs.any X.tt = true → tt = true) → Rp1s g (TS T S tt) H vs (xs.map X.toD)
  | _, _, .nil, _ => .nil
  | _, _, .cons h t, e => .cons (h.r1 fun z => e (by rw [List.any_cons, z]; rfl)) (RpXs.r1 t fun z => e (by rw [List.any_cons, z, Bool.or_true]))
theorem RpR.fin {tt : Bool} {z : R} (r : RpR g (TS T S tt) H0 H v z) : RpX g T S H0 H v (z.fin tt) := by
  cases z with
  | «at» d => exact AtR.rp r
  | nw o =>
    obtain ⟨a, rfl, n0, n, r⟩ := r
    cases tt
    · exact ⟨a, rfl, n0, n, r⟩
    · exact r.toD (T := T) (fun b h => List.mem_cons_of_mem _ h) n
  | dt d =>
    cases tt
    · exact r
    · cases h : d.flat with
      | true => rw [fin_dtf h]; exact Rp.flatAny r h
      | false => show RpX g T S H0 H v (if (true && !d.flat) = true then X.t d else X.p d); rw [h]; exact r
end
def Pr2 (g : Cf) (r : R2) (sem : D → D → M R) : Prop := ∀ T H v1 v2 d1 d2 Q, FdOk g T H → Rp1 g T H v1 d1 → Rp1 g T H v2 d2 → ∀ {E : XD}, (sem d1 d2).wp E (fun z => ∀ v H', Ext g.fd H H' → RpR g T H H' v z → Q v H') → r v1 v2 H Q
def PrN (g : Cf) (r : List V → Hp → VK → Prop) (sem : List D → M R) : Prop := ∀ T H vs ds Q, FdOk g T H → Rp1s g T H vs ds → ∀ {E : XD}, (sem ds).wp E (fun z => ∀ v H', Ext g.fd H H' → RpR g T H H' v z → Q v H') → r vs H Q
def PrM (g : Cf) (r : V → List V → Hp → VK → Prop) (sem : D → List D → M R) : Prop := ∀ T H u vs d ds Q, FdOk g T H → Rp1 g T H u d → Rp1s g T H vs ds → ∀ {E : XD}, (sem d ds).wp E (fun z => ∀ v H', Ext g.fd H H' → RpR g T H H' v z → Q v H') → r u vs H Q
def s2 (sem : D → D → M R) (f1 f2 : Se X) : Se X := fun Γ => (f1 Γ).bind fun x => (f2 Γ).bind fun y => (sem x.toD y.toD).bind fun z => .ret (z.fin (x.tt || y.tt))
def sN (sem : List D → M R) (f : Se (List X)) : Se X := fun Γ => (f Γ).bind fun xs => (sem (xs.map X.toD)).bind fun z => .ret (z.fin (xs.any X.tt))
def sM (sem : D → List D → M R) (f1 : Se X) (f : Se (List X)) : Se X := fun Γ => (f1 Γ).bind fun x => (f Γ).bind fun xs => (sem x.toD (xs.map X.toD)).bind fun z => .ret (z.fin (x.tt || xs.any X.tt))
section
variable {Z : Cx} {g : Cf} {W : XK} {T : List Addr} {He : Hp} {a b c : Expr} {f1 f2 f3 : Se X} {fs : Se (List X)} {sem : D → D → M R} {semN : List D → M R} {r : R2} {pos : Pos}
theorem rd2 {S : List Addr} {σ : St} {H : Hp} {Γ : List Sl} {Q : VK} (hp : Pr2 g r sem) (rl : Rl g T He S H Γ σ) (w : (s2 sem f1 f2 Γ).wp (xp g W T He) fun x => ∀ v H', Ext g.fd H H' → RpX g T S H H' v x → Q v H') : tOp r (rdE g W T He f1) (rdE g W T He f2) σ H Q := by
  simp only [s2, M.wp_bind, M.wp_ret] at w
  refine rdE.use rl (M.wp_mono (fun x w v1 H1 e1 l1 x1 => ?_) w)
  refine rdE.use l1 (M.wp_mono (fun y w v2 H2 e2 l2 x2 => ?_) w)
  refine hp (TS T S (x.tt || y.tt)) H2 v1 v2 x.toD y.toD Q (l2.fokB _) ((x1.mono e2 l1.t).r1 fun h => by rw [h]; rfl) (x2.r1 fun h => by rw [h, Bool.or_true]) (M.wp_mono (fun z w v H' e h => ?_) w)
  exact w v H' ((e1.trans e2).trans e) (h.fin.early (e1.trans e2) l2.t)
theorem ev_bin {op : Operator} (ho : OpR Z (binaryOp op) r) (hp : Pr2 g r sem) (ha : EV Z g W T He a f1) (hb : EV Z g W T He b f2) : EV Z g W T He (.BinOp a op b pos) (s2 sem f1 f2) :=
  pe_w (pe_op ho ha hb) fun _ _ _ ⟨_, _, rl, w⟩ => rd2 hp rl w
theorem ev_cmp {op : CmpOp} (ho : OpR Z (compareOp op) r) (hp : Pr2 g r sem) (ha : EV Z g W T He a f1) (hb : EV Z g W T He b f2) (hm : behindInMarks op b = false) : EV Z g W T He (.Compare a [op] [b] pos) (s2 sem f1 f2) :=
  pe_w (pe_cmpR ho ha hb hm) fun _ _ _ ⟨_, _, rl, w⟩ => rd2 hp rl w
/-- a value as a test -/
def sB (f : Se X) : Se Bool := fun Γ => (f Γ).bind fun x => match x.toD with | .bl b => .ret b | _ => .fail
theorem sB_wp {S : List Addr} {H : Hp} {Γ : List Sl} {Q : Bool → Hp → Prop} {f : Se X} (w : (sB f Γ).wp (xp g W T He) fun b => ∀ H', Ext g.fd H H' → Q b H') : (f Γ).wp (xp g W T He) fun x => ∀ v H', Ext g.fd H H' → RpX g T S H H' v x → ∃ k, v = .bl k ∧ Q k H' := by
  simp only [sB, M.wp_bind] at w
  refine M.wp_mono (fun x w v H' e rx => ?_) w
  have q := rx.on
  cases h : x.toD <;> rw [h] at w q <;> first | exact w.elim | skip
  cases q
  exact ⟨_, rfl, w H' e⟩
theorem et_cmp {op : CmpOp} (ho : OpR Z (compareOp op) r) (hp : Pr2 g r sem) (ha : EV Z g W T He a f1) (hb : EV Z g W T He b f2) (hm : behindInMarks op b = false) : EB Z g W T He (.Compare a [op] [b] pos) (sB (s2 sem f1 f2)) :=
  pt_w (pt_cmpR ho ha hb hm) fun _ _ _ ⟨_, _, rl, w⟩ => rd2 hp rl (sB_wp w)
theorem et_val {e : Expr} (h : EV Z g W T He e f1) (he : ∀ whole, isTrue e Z.env whole = (do let v ← whole; standAt e.pos; holding [v] (truthy v)) := by intro _; rfl) : EB Z g W T He e (sB f1) :=
  pt_w (pt_val h he) fun _ _ _ ⟨Γ, S, rl, w⟩ => ⟨Γ, S, rl, sB_wp w⟩
/-! chains -/
def sCh (s1 s2 : D → D → M R) (f1 f2 f3 : Se X) : Se X := fun Γ => (f1 Γ).bind fun x => (f2 Γ).bind fun y => (s1 x.toD y.toD).bind fun z =>
  match z with
  | .at (.bl true) => (f3 Γ).bind fun x3 => (s2 y.toD x3.toD).bind fun z => .ret (z.fin (y.tt || x3.tt))
  | .at (.bl false) => .ret (.p (.bl false))
  | _ => .fail
theorem rdCh {r' : R2} {sem' : D → D → M R} {S : List Addr} {σ : St} {H : Hp} {Γ : List Sl} {Q : VK} (hp : Pr2 g r sem) (hp' : Pr2 g r' sem') (rl : Rl g T He S H Γ σ) (w : (sCh sem sem' f1 f2 f3 Γ).wp (xp g W T He) fun x => ∀ v H', Ext g.fd H H' → RpX g T S H H' v x → Q v H') :
    tChain r r' (rdE g W T He f1) (rdE g W T He f2) (rdE g W T He f3) σ H Q := by
  simp only [sCh, M.wp_bind, M.wp_ret] at w
  refine rdE.use rl (M.wp_mono (fun x w v1 H1 e1 l1 x1 => ?_) w)
  refine rdE.use l1 (M.wp_mono (fun y w v2 H2 e2 l2 x2 => ?_) w)
  refine hp (TS T S (x.tt || y.tt)) H2 v1 v2 x.toD y.toD _ (l2.fokB _) ((x1.mono e2 l1.t).r1 fun h => by rw [h]; rfl) (x2.r1 fun h => by rw [h, Bool.or_true]) (M.wp_mono (fun z w v H3 e3 h => ?_) w)
  have l3 := l2.mono e3
  cases z with
  | nw o => exact w.elim
  | dt d => exact w.elim
  | «at» d =>
    cases d with
    | bl k =>
      cases h
      cases k with
      | false =>
        refine ⟨false, rfl, ?_⟩
        rw [if_neg (by decide)]
        exact w _ H3 ((e1.trans e2).trans e3) (Rp.bl false)
      | true =>
        refine ⟨true, rfl, ?_⟩
        rw [if_pos rfl]
        simp only [M.wp_bind, M.wp_ret] at w
        refine rdE.use l3 (M.wp_mono (fun y3 w v3 H4 e4 l4 x3 => ?_) w)
        have e24 := e3.trans e4
        refine hp' (TS T S (y.tt || y3.tt)) H4 v2 v3 y.toD y3.toD Q (l4.fokB _) ((x2.mono e24 l1.t).r1 fun h => by rw [h]; rfl) (x3.r1 fun h => by rw [h, Bool.or_true]) (M.wp_mono (fun z w v H' e h => ?_) w)
        exact w v H' (((e1.trans e2).trans e24).trans e) (h.fin.early ((e1.trans e2).trans e24) l4.t)
    | _ => exact w.elim
theorem ev_chain {op op' : CmpOp} {r' : R2} {sem' : D → D → M R} (ho : OpR Z (compareOp op) r) (ho' : OpR Z (compareOp op') r') (hp : Pr2 g r sem) (hp' : Pr2 g r' sem') (ha : EV Z g W T He a f1) (hb : EV Z g W T He b f2) (hc : EV Z g W T He c f3)
    (hm : lastMarks [op, op'] [b, c] = false := by with_unfolding_all rfl) : EV Z g W T He (.Compare a [op, op'] [b, c] pos) (sCh sem sem' f1 f2 f3) :=
  pe_w (pe_chain ho ho' ha hb hc hm) fun _ _ _ ⟨_, _, rl, w⟩ => rdCh hp hp' rl w
theorem et_chain {op op' : CmpOp} {r' : R2} {sem' : D → D → M R} (ho : OpR Z (compareOp op) r) (ho' : OpR Z (compareOp op') r') (hp : Pr2 g r sem) (hp' : Pr2 g r' sem') (ha : EV Z g W T He a f1) (hb : EV Z g W T He b f2) (hc : EV Z g W T He c f3)
    (hm : lastMarks [op, op'] [b, c] = false := by with_unfolding_all rfl) : EB Z g W T He (.Compare a [op, op'] [b, c] pos) (sB (sCh sem sem' f1 f2 f3)) :=
  pt_w (pt_chain ho ho' ha hb hc hm) fun _ _ _ ⟨_, _, rl, w⟩ => rdCh hp hp' rl (sB_wp w)
/-! ### arguments, calls of built-ins -/
def sNil : Se (List X) := fun _ => .ret []
def sCons (f : Se X) (fs : Se (List X)) : Se (List X) := fun Γ => (f Γ).bind fun x => (fs Γ).bind fun xs => .ret (x :: xs)
theorem ea_nil : EA Z g W T He [] sNil := pa_w pa_nil fun _ H Q ⟨Γ, S, rl, w⟩ => w [] H rl.fok.refl .nil
theorem ea_cons {e : Expr} {es : List Expr} (he : EV Z g W T He e f1) (hr : EA Z g W T He es fs) (hs : starEach (e :: es) Z.env = (false, eval e Z.env) :: starEach es Z.env := by rfl) : EA Z g W T He (e :: es) (sCons f1 fs) :=
  pa_w (pa_cons he hr hs) fun σ H Q ⟨Γ, S, rl, w⟩ => by
    simp only [sCons, M.wp_bind, M.wp_ret] at w
    refine rdE.use rl (M.wp_mono (fun x w v1 H1 e1 l1 x1 => ?_) w)
    refine rdA.use l1 (M.wp_mono (fun xs w vs H2 e2 l2 xx => ?_) w)
    exact w (v1 :: vs) H2 (e1.trans e2) (.cons (x1.mono e2 l1.t) (xx.early e1 l1.t))
theorem rdN {rN : List V → Hp → VK → Prop} {S : List Addr} {σ : St} {H : Hp} {Γ : List Sl} {Q : VK} (hp : PrN g rN semN) (rl : Rl g T He S H Γ σ) (w : (sN semN fs Γ).wp (xp g W T He) fun x => ∀ v H', Ext g.fd H H' → RpX g T S H H' v x → Q v H') : rdA g W T He fs σ H fun vs H1 => rN vs H1 Q := by
  simp only [sN, M.wp_bind, M.wp_ret] at w
  refine rdA.use rl (M.wp_mono (fun xs w vs H1 e1 l1 xx => ?_) w)
  refine hp (TS T S (xs.any X.tt)) H1 vs _ Q (l1.fokB _) (xx.r1 fun h => h) (M.wp_mono (fun z w v H' e h => ?_) w)
  exact w v H' (e1.trans e) (h.fin.early e1 l1.t)
end
end G
namespace G
open PySem PySem.Spec L2
open PyProof.Rows hiding St
/-! ### names, constants -/
def sNm (i : Nat) : Se X := fun Γ => match Γ[i]? with | some (.v d) => .ret (.p d) | some (.c o) => .ret (.b o) | _ => .fail
def sK (d : D) : Se X := fun _ => .ret (.p d)
section
variable {Z : Cx} {g : Cf} {W : XK} {T : List Addr} {He : Hp} {a b c : Expr} {f1 f2 f3 : Se X} {fs : Se (List X)} {pos : Pos} {es rest : List Expr}
theorem join_some {σ : St} {i : Nat} {v : V} (h : σ[i]?.join = some v) : σ[i]? = some (some v) := by
  cases q : σ[i]? with
  | none => rw [q] at h; cases h
  | some x => rw [q] at h; exact congrArg some h
theorem ev_nm {i : Nat} {x : Str} (hN : Z.N[i]? = some x) (hv : Vis Z.env.scope x) (hd : (x == ("__debug__" : Str)) = false := by decide) (hcd : (x == ("__classdict__" : Str)) = false := by decide) : EV Z g W T He (.Name x pos) (sNm i) :=
  pe_w (pe_var hN hv hd hcd) fun σ H Q ⟨Γ, S, rl, w⟩ => by
    unfold sNm at w
    cases q : Γ[i]? with
    | none => rw [q] at w; exact w.elim
    | some s =>
      rw [q] at w
      have y := rl.sl i s q
      cases s with
      | no => exact w.elim
      | v d => obtain ⟨v, h1, h2⟩ := y; exact ⟨v, join_some h1, w v H rl.fok.refl h2⟩
      | c o => obtain ⟨a, h1, h2, h3⟩ := y; exact ⟨_, join_some h1, w _ H rl.fok.refl ⟨a, rfl, h2, rl.nT h2, h3⟩⟩
theorem ev_k {e : Expr} {v : V} {d : D} (h : PE Z e (tC v)) (r : AtR v d) : EV Z g W T He e (sK d) := pe_w h fun σ H Q ⟨Γ, S, rl, w⟩ => w v H rl.fok.refl (AtR.rp r)
theorem ev_int {i j : _} : EV Z g W T He (.Constant (.int i) j pos) (sK (.int i)) := ev_k pe_int (.int i)
theorem ev_bl {b j : _} : EV Z g W T He (.Constant (.bool b) j pos) (sK (.bl b)) := ev_k pe_bl (.bl b)
theorem ev_non {j : _} : EV Z g W T He (.Constant .none j pos) (sK .non) := ev_k pe_non .non
theorem ev_str {x : Str} {j : _} (h : PyData.strOk x = true := by decide +kernel) : EV Z g W T He (.Constant (.str x) j pos) (sK (.str x)) := ev_k pe_str (.str x h)
/-! ### and, or, not, if -/
def sAnd (f1 f2 : Se X) : Se X := fun Γ => (f1 Γ).bind fun x => match x.toD with | .bl true => f2 Γ | .bl false => .ret (.p (.bl false)) | _ => .fail
def sOr (f1 f2 : Se X) : Se X := fun Γ => (f1 Γ).bind fun x => match x.toD with | .bl true => .ret (.p (.bl true)) | .bl false => f2 Γ | _ => .fail
def sNot (f : Se X) : Se X := fun Γ => (f Γ).bind fun x => match x.toD with | .bl b => .ret (.p (.bl !b)) | _ => .fail
def tAndB (f1 f2 : Se Bool) : Se Bool := fun Γ => (f1 Γ).bind fun x => if x then f2 Γ else .ret false
def tOrB (f1 f2 : Se Bool) : Se Bool := fun Γ => (f1 Γ).bind fun x => if x then .ret true else f2 Γ
def tNotB (f : Se Bool) : Se Bool := fun Γ => (f Γ).bind fun x => .ret !x
def sIf (t : Se Bool) (f1 f2 : Se X) : Se X := fun Γ => (t Γ).bind fun x => if x then f1 Γ else f2 Γ
theorem RpX.ear {S : List Addr} {H H1 H' : Hp} {v : V} {x : X} {Γ : List Sl} {σ : St} (r : RpX g T S H1 H' v x) (e : Ext g.fd H H1) (l : Rl g T He S H1 Γ σ) : RpX g T S H H' v x := r.early e l.t
theorem late {S : List Addr} {H H1 : Hp} {Γ : List Sl} {σ : St} {Q : VK} {x : X} (e : Ext g.fd H H1) (l : Rl g T He S H1 Γ σ) (q : ∀ v H', Ext g.fd H H' → RpX g T S H H' v x → Q v H') : ∀ v H', Ext g.fd H1 H' → RpX g T S H1 H' v x → Q v H' :=
  fun v H' e' r => q v H' (e.trans e') (r.early e l.t)
theorem ev_one {op} (h : EV Z g W T He a f1) : EV Z g W T He (.BoolOp op [a] pos) f1 := pe_one h
theorem ev_and (ha : EV Z g W T He a f1) (hb : EV Z g W T He (.BoolOp .And (b :: rest) pos) f2) : EV Z g W T He (.BoolOp .And (a :: b :: rest) pos) (sAnd f1 f2) :=
  pe_w (pe_and ha hb) fun σ H Q ⟨Γ, S, rl, w⟩ => by
    simp only [sAnd, M.wp_bind] at w
    refine rdE.use rl (M.wp_mono (fun x w v1 H1 e1 l1 x1 => ?_) w)
    have q := x1.on
    cases h : x.toD <;> rw [h] at w q <;> first | exact w.elim | skip
    rename_i k
    cases q
    refine ⟨k, rfl, ?_⟩
    cases k with
    | true => rw [if_pos rfl]; exact ⟨Γ, S, l1, M.wp_mono (fun x q => late e1 l1 q) w⟩
    | false => rw [if_neg (by decide)]; exact w _ H1 e1 (Rp.bl false)
theorem ev_or (ha : EV Z g W T He a f1) (hb : EV Z g W T He (.BoolOp .Or (b :: rest) pos) f2) : EV Z g W T He (.BoolOp .Or (a :: b :: rest) pos) (sOr f1 f2) :=
  pe_w (pe_or ha hb) fun σ H Q ⟨Γ, S, rl, w⟩ => by
    simp only [sOr, M.wp_bind] at w
    refine rdE.use rl (M.wp_mono (fun x w v1 H1 e1 l1 x1 => ?_) w)
    have q := x1.on
    cases h : x.toD <;> rw [h] at w q <;> first | exact w.elim | skip
    rename_i k
    cases q
    refine ⟨k, rfl, ?_⟩
    cases k with
    | true => rw [if_pos rfl]; exact w _ H1 e1 (Rp.bl true)
    | false => rw [if_neg (by decide)]; exact ⟨Γ, S, l1, M.wp_mono (fun x q => late e1 l1 q) w⟩
theorem ev_not (ha : EV Z g W T He a f1) : EV Z g W T He (.UnaryOp .Not a pos) (sNot f1) :=
  pe_w (pe_not ha) fun σ H Q ⟨Γ, S, rl, w⟩ => by
    simp only [sNot, M.wp_bind] at w
    refine rdE.use rl (M.wp_mono (fun x w v1 H1 e1 l1 x1 => ?_) w)
    have q := x1.on
    cases h : x.toD <;> rw [h] at w q <;> first | exact w.elim | skip
    rename_i k
    cases q
    exact ⟨k, rfl, w _ H1 e1 (Rp.bl _)⟩
variable {t1 t2 : Se Bool}
abbrev EW (Z : Cx) (g : Cf) (W : XK) (T : List Addr) (He : Hp) (e : Expr) (f : Se Bool) : Prop := PW Z e (rdT g W T He f)
theorem ew_and1 (h : EB Z g W T He a t1) : EW Z g W T He (.BoolOp .And [a] pos) t1 := pw_and1 h
theorem ew_or1 (h : EB Z g W T He a t1) : EW Z g W T He (.BoolOp .Or [a] pos) t1 := pw_or1 h
theorem ew_and (ha : EB Z g W T He a t1) (hb : EW Z g W T He (.BoolOp .And (b :: rest) pos) t2) : EW Z g W T He (.BoolOp .And (a :: b :: rest) pos) (tAndB t1 t2) :=
  pw_w (pw_and ha hb) fun σ H Q ⟨Γ, S, rl, w⟩ => by
    simp only [tAndB, M.wp_bind] at w
    refine rdT.use rl (M.wp_mono (fun x w H1 e1 l1 => ?_) w)
    cases x with
    | true => rw [if_pos rfl] at w ⊢; exact ⟨Γ, S, l1, M.wp_mono (fun x q H' e => q H' (e1.trans e)) w⟩
    | false => rw [if_neg (by decide)] at w ⊢; exact w H1 e1
theorem ew_or (ha : EB Z g W T He a t1) (hb : EW Z g W T He (.BoolOp .Or (b :: rest) pos) t2) : EW Z g W T He (.BoolOp .Or (a :: b :: rest) pos) (tOrB t1 t2) :=
  pw_w (pw_or ha hb) fun σ H Q ⟨Γ, S, rl, w⟩ => by
    simp only [tOrB, M.wp_bind] at w
    refine rdT.use rl (M.wp_mono (fun x w H1 e1 l1 => ?_) w)
    cases x with
    | false => rw [if_neg (by decide)] at w ⊢; exact ⟨Γ, S, l1, M.wp_mono (fun x q H' e => q H' (e1.trans e)) w⟩
    | true => rw [if_pos rfl] at w ⊢; exact w H1 e1
theorem et_w (h : EW Z g W T He a t1) : EB Z g W T He a t1 := h.pt
theorem et_not (h : EB Z g W T He a t1) : EB Z g W T He (.UnaryOp .Not a pos) (tNotB t1) :=
  pt_w (pt_not h) fun σ H Q ⟨Γ, S, rl, w⟩ => by
    simp only [tNotB, M.wp_bind, M.wp_ret] at w
    exact rdT.use rl (M.wp_mono (fun x w H1 e1 l1 => w H1 e1) w)
theorem ev_if (hc : EB Z g W T He c t1) (ha : EV Z g W T He a f1) (hb : EV Z g W T He b f2) : EV Z g W T He (.IfExp c a b pos) (sIf t1 f1 f2) :=
  pe_w (pe_ifExp hc ha hb) fun σ H Q ⟨Γ, S, rl, w⟩ => by
    simp only [sIf, M.wp_bind] at w
    refine rdT.use rl (M.wp_mono (fun x w H1 e1 l1 => ?_) w)
    cases x with
    | true => rw [if_pos rfl] at w ⊢; exact ⟨Γ, S, l1, M.wp_mono (fun x q => late e1 l1 q) w⟩
    | false => rw [if_neg (by decide)] at w ⊢; exact ⟨Γ, S, l1, M.wp_mono (fun x q => late e1 l1 q) w⟩
/-! ### displays -/
def sLst (fs : Se (List X)) : Se X := fun Γ => (fs Γ).bind fun xs => if xs.length ≤ 100000 then .ret (if xs.any X.tn then .t (.lst (xs.map X.toD)) else .c (.l (xs.map X.toD))) else .fail
def sTup (fs : Se (List X)) : Se X := fun Γ => (fs Γ).bind fun xs => if xs.length ≤ 100000 then .ret (if xs.any X.tn then .t (.tup (xs.map X.toD)) else .p (.tup (xs.map X.toD))) else .fail
theorem RpXs.toD {S : List Addr} {H0 H : Hp} : ∀ {vs : List V} {xs : List X}, RpXs g T S H0 H vs xs → RpA g (off H T) vs (xs.map X.toD)
  | _, _, .nil => .nil
  | _, _, .cons h t => .cons h.toD t.toD
theorem RpXs.toD' {S : List Addr} {H0 H : Hp} : ∀ {vs : List V} {xs : List X}, RpXs g T S H0 H vs xs → xs.any X.tn = false → RpA g (off H (T ++ S)) vs (xs.map X.toD)
  | _, _, .nil, _ => .nil
  | _, _, .cons h t, e => by
    rw [List.any_cons, Bool.or_eq_false_iff] at e
    exact .cons (h.toD' e.1) (t.toD' e.2)
theorem RpXs.length {S : List Addr} {H0 H : Hp} : ∀ {vs : List V} {xs : List X}, RpXs g T S H0 H vs xs → vs.length = xs.length
  | _, _, .nil => rfl
  | _, _, .cons _ t => congrArg Nat.succ t.length
theorem big {n : Nat} (h : n ≤ 100000) : n ≤ sizeLine := Nat.le_trans h (by decide)
theorem same_new_off {H : Hp} {p : Addr} {o : HO} {U : List Addr} (h : H p = none) : Same (off H U) (off (upd H p o) U) := (Same.newT h).offT U
theorem RpA.new {H : Hp} {p : Addr} {o : HO} {U : List Addr} {vs : List V} {ds : List D} (r : RpA g (off H U) vs ds) (h : H p = none) : RpA g (off (upd H p o) U) vs ds := RpA.mono (same_new_off h) _ r
/-- a new list whose items stood before -/
theorem new_lst {H : Hp} {p : Addr} {U : List Addr} {vs : List V} {ds : List D} (f : FdOk g U H) (h : H p = none) (r : RpA g (off H U) vs ds) : RpR g U H (upd H p (.lst vs)) (.ref p) (.nw (.l ds)) :=
  ⟨p, rfl, h, f.nin h, vs, upd_same, RpA.mono ((off_free (T := []) h).trans (same_new_off h)) _ r⟩
theorem new_tup {H : Hp} {p : Addr} {U : List Addr} {vs : List V} {ds : List D} (f : FdOk g U H) (h : H p = none) (r : RpA g (off H U) vs ds) : Rp g (off (upd H p (.tup vs)) U) (.ref p) (.tup ds) :=
  .tup (SqT.of (by rw [off_ne (f.nin h)]; exact upd_same)) (r.new h)
theorem ev_lst (h : EA Z g W T He es fs) : EV Z g W T He (.List es pos) (sLst fs) :=
  pe_w (pe_lst h) fun σ H Q ⟨Γ, S, rl, w⟩ => by
    simp only [sLst, M.wp_bind] at w
    refine rdA.use rl (M.wp_mono (fun xs w vs H1 e1 l1 xx => ?_) w)
    split at w
    · rename_i hz
      refine ⟨big (by rw [xx.length]; exact hz), fun p hp => w (.ref p) _ (e1.trans (l1.ext_new hp)) ?_⟩
      split
      · exact .lst (by rw [off_ne (l1.fokT.nin hp)]; exact upd_same) (xx.toD.new hp)
      · rename_i ht
        obtain ⟨a, e, _, n, r⟩ := new_lst l1.fok hp (xx.toD' (by simpa using ht))
        cases e
        exact ⟨p, rfl, e1.free hp fun h => n (List.mem_append_left _ (l1.t p h)), n, r⟩
    · exact w.elim
theorem ev_tup {k : _} (h : EA Z g W T He es fs) : EV Z g W T He (.Tuple es k pos) (sTup fs) :=
  pe_w (pe_tup h) fun σ H Q ⟨Γ, S, rl, w⟩ => by
    simp only [sTup, M.wp_bind] at w
    refine rdA.use rl (M.wp_mono (fun xs w vs H1 e1 l1 xx => ?_) w)
    split at w
    · rename_i hz
      refine ⟨big (by rw [xx.length]; exact hz), fun p hp => w (.ref p) _ (e1.trans (l1.ext_new hp)) ?_⟩
      split
      · exact new_tup l1.fokT hp xx.toD
      · rename_i ht
        exact new_tup l1.fok hp (xx.toD' (by simpa using ht))
    · exact w.elim
/-! ### arguments read -/
section
variable {H : Hp} {v : V}
theorem Rp1.int {i : Int} (r : Rp1 g T H v (.int i)) : v = .int i := by cases r with | of r => cases r; rfl
theorem Rp1.bl {i : Bool} (r : Rp1 g T H v (.bl i)) : v = .bl i := by cases r with | of r => cases r; rfl
theorem Rp1.non (r : Rp1 g T H v .non) : v = .non := by cases r with | of r => cases r; rfl
theorem Rp1.str {i : Str} (r : Rp1 g T H v (.str i)) : v = .str i ∧ PyData.strOk i = true := by cases r with | of r => cases r with | str _ h => exact ⟨rfl, h⟩
theorem Rp1.lst {ds : List D} (r : Rp1 g T H v (.lst ds)) : ∃ a vs, v = .ref a ∧ H a = some (.lst vs) ∧ RpA g (off H T) vs ds := by
  cases r with
  | of r => cases r with | lst h1 h2 => exact ⟨_, _, rfl, off_same _ _ _ _ h1, h2⟩
  | l h1 h2 => exact ⟨_, _, rfl, h1, h2⟩
theorem Rp1.tup {ds : List D} (r : Rp1 g T H v (.tup ds)) : ∃ a vs, v = .ref a ∧ SqT g.K H a vs ∧ RpA g (off H T) vs ds ∧ Rp g (off H T) v (.tup ds) := by
  cases r with
  | of r => cases r with | tup h1 h2 => exact ⟨_, _, rfl, Same.seqTT (off_same _ _) h1, h2, .tup h1 h2⟩
theorem Rp1.ins {C : Nat} {fs : List D} (r : Rp1 g T H v (.ins C fs)) : ∃ a dx fv, v = .ref a ∧ H a = some (.ins (g.ad C) dx fv) ∧ FvOk g C fv ∧ RpA g (off H T) (fv.map Prod.snd) fs := by
  cases r with
  | of r => cases r with | ins h1 hf h2 => exact ⟨_, _, _, rfl, off_same _ _ _ _ h1, hf, h2⟩
  | i h1 hf h2 => exact ⟨_, _, _, rfl, h1, hf, h2⟩
end
end
end G
namespace G
open PySem PySem.Spec L2
open PyProof.Rows hiding St
theorem OpR.or {X : Cx} {f : Value → Value → Sem Value} {r r' : R2} (h : OpR X f r) (h' : OpR X f r') : OpR X f (fun x y H Q => r x y H Q ∨ r' x y H Q) := by
  intro pins s σ H x y u v Q I rx ry q
  rcases q with q | q
  · exact h pins s σ H x y u v Q I rx ry q
  · exact h' pins s σ H x y u v Q I rx ry q
theorem CallR.or' {X : Cx} {f : Value} {r r' : List V → Hp → VK → Prop} (h : CallR X f r) (h' : CallR X f r') : CallR X f (fun xs H Q => r xs H Q ∨ r' xs H Q) := by
  intro pins s σ H xs us Q I rx q
  rcases q with q | q
  · exact h pins s σ H xs us Q I rx q
  · exact h' pins s σ H xs us Q I rx q
/-! ### data as the library's data -/
mutual
def D.py : D → Option PyData
  | .non => some .none
  | .bl b => some (.bool b)
  | .int i => some (.int i)
  | .str x => some (.str x)
  | .lst ds => (D.pys ds).map .list
  | .tup ds => (D.pys ds).map .tuple
  | .ins _ _ => none
  | .feed => none
  | .fn _ => none
  | .dk _ _ => none
  | .dn _ _ => none
def D.pys : List D → Option (List PyData)
  | [] => some []
  | d :: ds => match D.py d, D.pys ds with
    | some x, some xs => some (x :: xs)
    | _, _ => none
end
section
variable {g : Cf} {H : Hp}
mutual
theorem Rp.dp : ∀ (d : D) {v : V} {pd : PyData}, Rp g H v d → d.py = some pd → Dp g.K H v pd ∧ pd.canLay0 = true
  | .non, _, _, h, e => by cases h; simp only [D.py, Option.some.injEq] at e; subst e; exact ⟨.non, by simp only [PyData.canLay0]⟩
  | .bl b, _, _, h, e => by cases h; simp only [D.py, Option.some.injEq] at e; subst e; exact ⟨.bl b, by simp only [PyData.canLay0]⟩
  | .int i, _, _, h, e => by cases h; simp only [D.py, Option.some.injEq] at e; subst e; exact ⟨.int i, by simp only [PyData.canLay0]⟩
  | .str x, _, _, h, e => by
    cases h with
    | str _ hx => simp only [D.py, Option.some.injEq] at e; subst e; exact ⟨.str x, by simpa only [PyData.canLay0] using hx⟩
  | .lst ds, _, _, h, e => by
    cases h with
    | lst h1 h2 =>
      simp only [D.py, Option.map_eq_some_iff] at e
      obtain ⟨pds, e1, rfl⟩ := e
      obtain ⟨q1, q2⟩ := RpA.dp ds h2 e1
      exact ⟨.lst (SqL.of h1) q1, by simpa only [PyData.canLay0] using q2⟩
  | .tup ds, _, _, h, e => by
    cases h with
    | tup h1 h2 =>
      simp only [D.py, Option.map_eq_some_iff] at e
      obtain ⟨pds, e1, rfl⟩ := e
      obtain ⟨q1, q2⟩ := RpA.dp ds h2 e1
      exact ⟨.tup h1 q1, by simpa only [PyData.canLay0] using q2⟩
  | .ins _ _, _, _, _, e => by simp only [D.py] at e; cases e
  | .feed, _, _, _, e => by simp only [D.py] at e; cases e
  | .fn _, _, _, _, e => by simp only [D.py] at e; cases e
  | .dk _ _, _, _, _, e => by simp only [D.py] at e; cases e
  | .dn _ _, _, _, _, e => by simp only [D.py] at e; cases e
theorem RpA.dp : ∀ (ds : List D) {vs : List V} {pds : List PyData}, RpA g H vs ds → D.pys ds = some pds → DpAll g.K H vs pds ∧ PyData.canLayAll0 pds = true
  | [], _, _, h, e => by cases h; simp only [D.pys, Option.some.injEq] at e; subst e; exact ⟨.nil, by simp only [PyData.canLayAll0]⟩
  | d :: ds, _, _, h, e => by
    cases h with
    | cons h1 h2 =>
      simp only [D.pys] at e
      cases e1 : d.py with
      | none => rw [e1] at e; cases e
      | some x =>
        cases e2 : D.pys ds with
        | none => rw [e1, e2] at e; cases e
        | some xs =>
          rw [e1, e2] at e
          simp only [Option.some.injEq] at e
          subst e
          obtain ⟨q1, q2⟩ := Rp.dp d h1 e1
          obtain ⟨q3, q4⟩ := RpA.dp ds h2 e2
          exact ⟨.cons q1 q3, by simp only [PyData.canLayAll0, q2, q4, Bool.and_self]⟩
end
theorem Rp1.on {T : List Addr} {v : V} {d : D} (r : Rp1 g T H v d) : Rp g H v d := by
  cases r with
  | of r => exact r.on
  | l h1 h2 => exact .lst h1 (RpA.mono (off_same _ _) _ h2)
  | i h1 hf h2 => exact .ins h1 hf (RpA.mono (off_same _ _) _ h2)
end
/-! ### operators -/
def lim (n : Nat) (m : M R) : M R := if n ≤ 100000 then m else .fail
theorem lim_wp {n : Nat} {m : M R} {E : XD} {Q : R → Prop} (h : (lim n m).wp E Q) : n ≤ 100000 ∧ m.wp E Q := by
  unfold lim at h
  split at h
  · exact ⟨by assumption, h⟩
  · exact h.elim
@[simp] theorem lim_ok {n : Nat} {m : M R} (h : n ≤ 100000) : lim n m = m := if_pos h
theorem strOk_app {a b : Str} (ha : PyData.strOk a = true) (hb : PyData.strOk b = true) : PyData.strOk (a ++ b) = true := by
  unfold PyData.strOk at *
  show (a.cps ++ b.cps).all _ = true
  rw [Array.all_append, ha, hb]; rfl
def addD : D → D → M R
  | .int i, .int j => .ret (.at (.int (i + j)))
  | .str a, .str b => lim (a.length + b.length) (.ret (.at (.str (a ++ b))))
  | .lst a, .lst b => lim (a.length + b.length) (.ret (.nw (.l (a ++ b))))
  | .tup a, .tup b => lim (a.length + b.length) (.ret (.dt (.tup (a ++ b))))
  | _, _ => .fail
section
variable {Z : Cx} {g : Cf} {W : XK}
def rAdd (K : PySem.W.Frag) : R2 := fun x y H Q => rI0 (fun i j => .int (i + j)) x y H Q ∨ (∃ i j, x = .str i ∧ y = .str j ∧ i.length + j.length ≤ sizeLine ∧ Q (.str (i ++ j)) H) ∨ rCat x y H Q ∨ rCatA K x y H Q
theorem op_Add : OpR Z (binaryOp .Add) (rAdd Z.K) := OpR.or op_add (OpR.or op_add_str (OpR.or op_cat op_catA))
theorem pr_add : Pr2 g (rAdd g.K) addD := fun T H v1 v2 d1 d2 Q f r1 r2 _ w => by
  cases d1 <;> cases d2 <;> first | exact w.elim | skip
  · exact .inl ⟨_, _, r1.int, r2.int, w _ H f.refl (.int _)⟩
  · obtain ⟨h, w⟩ := lim_wp w
    obtain ⟨e1, o1⟩ := r1.str
    obtain ⟨e2, o2⟩ := r2.str
    exact .inr (.inl ⟨_, _, e1, e2, big h, w _ H f.refl (.str _ (strOk_app o1 o2))⟩)
  · obtain ⟨h, w⟩ := lim_wp w
    obtain ⟨a, vs, rfl, h1, q1⟩ := r1.lst
    obtain ⟨b, us, rfl, h2, q2⟩ := r2.lst
    exact .inr (.inr (.inl ⟨_, _, _, _, rfl, rfl, h1, h2, big (by rw [q1.length, q2.length]; exact h), fun p hp => w _ _ (f.new hp) (new_lst f hp (q1.append q2))⟩))
  · obtain ⟨h, w⟩ := lim_wp w
    obtain ⟨a, vs, rfl, h1, q1, z1⟩ := r1.tup
    obtain ⟨b, us, rfl, h2, q2, z2⟩ := r2.tup
    have l1 := q1.length
    have l2 := q2.length
    refine .inr (.inr (.inr ⟨_, _, _, _, rfl, rfl, h1, h2, big (by rw [l1, l2]; exact h), fun e => ?_, fun _ e => ?_, fun _ _ p hp => w _ _ (f.new hp) (new_tup f hp (q1.append q2))⟩))
    · subst e
      cases q1
      exact w _ H f.refl z2
    · subst e
      cases q2
      rw [List.append_nil] at w
      exact w _ H f.refl z1
def subD : D → D → M R
  | .int i, .int j => .ret (.at (.int (i - j)))
  | _, _ => .fail
theorem pr_sub : Pr2 g (rI0 fun i j => .int (i - j)) subD := fun T H v1 v2 d1 d2 Q f r1 r2 _ w => by
  cases d1 <;> cases d2 <;> first | exact w.elim | skip
  exact ⟨_, _, r1.int, r2.int, w _ H f.refl (.int _)⟩
/-! ### order of ints -/
def ltD : D → D → M R
  | .int i, .int j => .ret (.at (.bl (decide (i < j))))
  | _, _ => .fail
def leD : D → D → M R
  | .int i, .int j => .ret (.at (.bl (decide (i ≤ j))))
  | _, _ => .fail
def gtD : D → D → M R
  | .int i, .int j => .ret (.at (.bl (decide (j < i))))
  | _, _ => .fail
def geD : D → D → M R
  | .int i, .int j => .ret (.at (.bl (decide (j ≤ i))))
  | _, _ => .fail
theorem pr_lt : Pr2 g (rI0 fun i j => .bl (decide (i < j))) ltD := fun T H v1 v2 d1 d2 Q f r1 r2 _ w => by
  cases d1 <;> cases d2 <;> first | exact w.elim | exact ⟨_, _, r1.int, r2.int, w _ H f.refl (.bl _)⟩
theorem pr_le : Pr2 g (rI0 fun i j => .bl (decide (i ≤ j))) leD := fun T H v1 v2 d1 d2 Q f r1 r2 _ w => by
  cases d1 <;> cases d2 <;> first | exact w.elim | exact ⟨_, _, r1.int, r2.int, w _ H f.refl (.bl _)⟩
theorem pr_gt : Pr2 g (rI0 fun i j => .bl (decide (j < i))) gtD := fun T H v1 v2 d1 d2 Q f r1 r2 _ w => by
  cases d1 <;> cases d2 <;> first | exact w.elim | exact ⟨_, _, r1.int, r2.int, w _ H f.refl (.bl _)⟩
theorem pr_ge : Pr2 g (rI0 fun i j => .bl (decide (j ≤ i))) geD := fun T H v1 v2 d1 d2 Q f r1 r2 _ w => by
  cases d1 <;> cases d2 <;> first | exact w.elim | exact ⟨_, _, r1.int, r2.int, w _ H f.refl (.bl _)⟩
/-! ### == of data, is, in -/
def eqPy (neg : Bool) (d1 d2 : D) : M R :=
  match d1.py, d2.py with
  | some x, some y => if x.depth ≤ 60 ∧ y.depth ≤ 60 then .ret (.at (.bl (neg != PyData.eqv x y))) else .fail
  | _, _ => .fail
theorem eqPy_use {neg : Bool} {T : List Addr} {H : Hp} {v1 v2 : V} {d1 d2 : D} {Q : VK} (f : FdOk g T H) (r1 : Rp1 g T H v1 d1) (r2 : Rp1 g T H v2 d2) {E : XD} (w : (eqPy neg d1 d2).wp E (fun z => ∀ v H', Ext g.fd H H' → RpR g T H H' v z → Q v H')) :
    ∃ d e, Dp g.K H v1 d ∧ Dp g.K H v2 e ∧ SeqAt.shaped d = true ∧ SeqAt.shaped e = true ∧ Q (.bl (neg != PyData.eqv d e)) H := by
  unfold eqPy at w
  cases e1 : d1.py with
  | none => rw [e1] at w; exact w.elim
  | some x =>
    cases e2 : d2.py with
    | none => rw [e1, e2] at w; exact w.elim
    | some y =>
      rw [e1, e2] at w
      simp only at w
      split at w
      · rename_i hd
        obtain ⟨p1, c1⟩ := Rp.dp _ r1.on e1
        obtain ⟨p2, c2⟩ := Rp.dp _ r2.on e2
        exact ⟨x, y, p1, p2, by unfold SeqAt.shaped; rw [c1, decide_eq_true (by omega)]; rfl, by unfold SeqAt.shaped; rw [c2, decide_eq_true (by omega)]; rfl, w _ H f.refl (.bl _)⟩
      · exact w.elim
theorem pr_eq : Pr2 g (rEqD g.K) (eqPy false) := fun T H v1 v2 d1 d2 Q f r1 r2 _ w => by
  obtain ⟨d, e, h1, h2, h3, h4, q⟩ := eqPy_use f r1 r2 w
  exact ⟨d, e, h1, h2, h3, h4, by simpa using q⟩
theorem pr_ne : Pr2 g (rNeD g.K) (eqPy true) := fun T H v1 v2 d1 d2 Q f r1 r2 _ w => by
  obtain ⟨d, e, h1, h2, h3, h4, q⟩ := eqPy_use f r1 r2 w
  exact ⟨d, e, h1, h2, h3, h4, by simpa using q⟩
def D.isN : D → Bool
  | .non => true
  | _ => false
def isND (neg : Bool) : D → D → M R
  | d, .non => .ret (.at (.bl (neg != d.isN)))
  | _, _ => .fail
theorem Rp.isN {H : Hp} {v : V} {d : D} (r : Rp g H v d) : decide (v = .non) = d.isN := by cases r <;> simp [D.isN]
theorem pr_isN : Pr2 g (fun x y H Q => y = .non ∧ Q (.bl (decide (x = .non))) H) (isND false) := fun T H v1 v2 d1 d2 Q f r1 r2 _ w => by
  cases d2 <;> first | exact w.elim | skip
  refine ⟨r2.non, ?_⟩
  rw [r1.on.isN]
  simpa using w _ H f.refl (.bl _)
theorem pr_notN : Pr2 g (fun x y H Q => y = .non ∧ Q (.bl (!decide (x = .non))) H) (isND true) := fun T H v1 v2 d1 d2 Q f r1 r2 _ w => by
  cases d2 <;> first | exact w.elim | skip
  refine ⟨r2.non, ?_⟩
  rw [r1.on.isN]
  simpa using w _ H f.refl (.bl _)
def isBD (neg : Bool) : D → D → M R
  | .bl a, .bl b => .ret (.at (.bl (neg != decide (a = b))))
  | _, _ => .fail
theorem pr_isB : Pr2 g rIsB (isBD false) := fun T H v1 v2 d1 d2 Q f r1 r2 _ w => by
  cases d1 <;> cases d2 <;> first | exact w.elim | skip
  exact ⟨_, _, r1.bl, r2.bl, by simpa using w _ H f.refl (.bl _)⟩
theorem pr_notB : Pr2 g rNotB (isBD true) := fun T H v1 v2 d1 d2 Q f r1 r2 _ w => by
  cases d1 <;> cases d2 <;> first | exact w.elim | skip
  exact ⟨_, _, r1.bl, r2.bl, by simpa using w _ H f.refl (.bl _)⟩
def D.eqf : D → D → Bool
  | .non, .non => true
  | .bl a, .bl b => a == b
  | .bl a, .int b => (if a then 1 else 0) == b
  | .int a, .bl b => a == (if b then 1 else 0)
  | .int a, .int b => a == b
  | .str a, .str b => a == b
  | _, _ => false
theorem Rp.flat {H : Hp} {v : V} {d : D} (r : Rp g H v d) (h : d.flat = true) : flatV v = true := by cases r <;> first | rfl | cases h
theorem Rp.eqf {H : Hp} {v u : V} {d e : D} (r : Rp g H v d) (s : Rp g H u e) (h : d.flat = true) (h' : e.flat = true) : eqV v u = d.eqf e := by
  cases r <;> first | cases h; done | (cases s <;> first | rfl | (cases h'; done))
def strIn (a b : Str) : Bool := !(Builtin.Str.occurrences b a 0 b.length 1).isEmpty
/-- items that are no scalars: by the library's data -/
def inPy (neg : Bool) (d : D) (ds : List D) : M R := match d.py, D.pys ds with
  | some x, some xs => if x.depth ≤ 50 ∧ PyData.depthAll xs ≤ 50 then .ret (.at (.bl (neg != xs.any fun z => PyData.eqv z x))) else .fail
  | _, _ => .fail
def inD (neg : Bool) (d e : D) : M R :=
  match e with
  | .lst ds => if d.flat && ds.all D.flat then .ret (.at (.bl (neg != ds.any fun y => y.eqf d))) else inPy neg d ds
  | .tup ds => if d.flat && ds.all D.flat then .ret (.at (.bl (neg != ds.any fun y => y.eqf d))) else .fail
  | .str b => match d with
    | .str a => .ret (.at (.bl (neg != strIn a b)))
    | _ => .fail
  | _ => .fail
def rInA (K : PySem.W.Frag) (neg : Bool) : R2 := fun x y H Q => rIn K neg x y H Q ∨ (∃ i j, x = .str i ∧ y = .str j ∧ Q (.bl (neg != strIn i j)) H) ∨ ∃ d ds, Dp K H x d ∧ Dp K H y (.list ds) ∧ SeqAt.shaped d = true ∧ SeqAt.shaped (.list ds) = true ∧ Q (.bl (neg != ds.any fun z => PyData.eqv z d)) H
theorem op_In (hu : Z.A.units + 65 < cLine) : OpR Z (compareOp .In) (rInA Z.K false) := OpR.or op_in_seq fun pins s σ H x y u v Q I rx ry h => by
  rcases h with ⟨i, j, e1, e2, q⟩ | ⟨d, ds, h1, h2, h3, h4, q⟩
  · exact op_in_str pins s σ H x y u v Q I rx ry ⟨i, j, e1, e2, by simpa [strIn] using q⟩
  · exact op_inD hu pins s σ H x y u v Q I rx ry ⟨d, ds, h1, h2, h3, h4, by simpa using q⟩
theorem op_NotIn (hu : Z.A.units + 65 < cLine) : OpR Z (compareOp .NotIn) (rInA Z.K true) := OpR.or op_notIn_seq fun pins s σ H x y u v Q I rx ry h => by
  rcases h with ⟨i, j, e1, e2, q⟩ | ⟨d, ds, h1, h2, h3, h4, q⟩
  · exact op_notin_str pins s σ H x y u v Q I rx ry ⟨i, j, e1, e2, by simpa [strIn] using q⟩
  · exact op_notInD hu pins s σ H x y u v Q I rx ry ⟨d, ds, h1, h2, h3, h4, by simpa using q⟩
theorem RpA.flat {H : Hp} : ∀ {vs : List V} {ds : List D}, RpA g H vs ds → ds.all D.flat = true → vs.all flatV = true
  | _, _, .nil, _ => rfl
  | _, _, .cons h t, e => by
    rw [List.all_cons, Bool.and_eq_true] at e ⊢
    exact ⟨h.flat e.1, t.flat e.2⟩
theorem RpA.inV {H : Hp} {v : V} {d : D} (r : Rp g H v d) (hd : d.flat = true) : ∀ {vs : List V} {ds : List D}, RpA g H vs ds → ds.all D.flat = true → inV v vs = ds.any fun y => y.eqf d
  | _, _, .nil, _ => rfl
  | _, _, .cons h t, e => by
    rw [List.all_cons, Bool.and_eq_true] at e
    have ih := RpA.inV r hd t e.2
    unfold L2.inV at ih ⊢
    rw [List.any_cons, List.any_cons, ih, h.eqf r e.1 hd]
theorem neg_if {neg b : Bool} : (if neg then !b else b) = (neg != b) := by cases neg <;> cases b <;> rfl
theorem pr_in {neg : Bool} : Pr2 g (rInA g.K neg) (inD neg) := fun T H v1 v2 d1 d2 Q f r1 r2 _ w => by
  cases d2 <;> first | exact w.elim | skip
  · cases d1 <;> first | exact w.elim | skip
    exact .inr (.inl ⟨_, _, r1.str.1, r2.str.1, w _ H f.refl (.bl _)⟩)
  · unfold inD at w
    simp only at w
    split at w
    · rename_i hf
      rw [Bool.and_eq_true] at hf
      obtain ⟨a, vs, rfl, h1, q1⟩ := r2.lst
      have q1' := RpA.mono (off_same H T) _ q1
      refine .inl ⟨a, vs, rfl, .inl (SqL.of h1), r1.on.flat hf.1, q1.flat hf.2, ?_⟩
      rw [q1'.inV r1.on hf.1 hf.2, neg_if]
      exact w _ H f.refl (.bl _)
    · rename_i ds _
      unfold inPy at w
      cases e1 : d1.py with
      | none => rw [e1] at w; exact w.elim
      | some x =>
        cases e2 : D.pys ds with
        | none => rw [e1, e2] at w; exact w.elim
        | some xs =>
          rw [e1, e2] at w
          simp only at w
          split at w
          · rename_i hd
            obtain ⟨p1, c1⟩ := Rp.dp _ r1.on e1
            obtain ⟨p2, c2⟩ := Rp.dp (pd := .list xs) (.lst ds) r2.on (by simp only [D.py, e2, Option.map_some])
            have hd2 : (PyData.list xs).depth ≤ 60 := by unfold PyData.depth; omega
            exact .inr (.inr ⟨x, xs, p1, p2, by unfold SeqAt.shaped; rw [c1, decide_eq_true (by omega)]; rfl, by unfold SeqAt.shaped; rw [c2, decide_eq_true (by omega)]; rfl, w _ H f.refl (.bl _)⟩)
          · exact w.elim
  · unfold inD at w
    simp only at w
    split at w
    · rename_i hf
      rw [Bool.and_eq_true] at hf
      obtain ⟨a, vs, rfl, h1, q1, _⟩ := r2.tup
      have q1' := RpA.mono (off_same H T) _ q1
      refine .inl ⟨a, vs, rfl, .inr h1, r1.on.flat hf.1, q1.flat hf.2, ?_⟩
      rw [q1'.inV r1.on hf.1 hf.2, neg_if]
      exact w _ H f.refl (.bl _)
    · exact w.elim
/-! ### subscripts, slices -/
def sgn (c : Nat) : Str := ⟨#[c]⟩
def ixD : D → D → M R
  | .lst ds, .int i => .of ((atI ds i).map .dt)
  | .tup ds, .int i => .of ((atI ds i).map .dt)
  | .str z, .int i => lim z.length (.of ((atI z.cps.toList i).map fun c => .at (.str (sgn c))))
  | _, _ => .fail
theorem RpA.atI {H : Hp} {vs : List V} {ds : List D} {i : Int} {d : D} (r : RpA g H vs ds) (h : atI ds i = some d) : ∃ v, L2.atI vs i = some v ∧ Rp g H v d := by
  unfold L2.atI at h ⊢
  rw [r.length]
  cases q : ixN ds.length i with
  | none => rw [q] at h; cases h
  | some j => rw [q] at h; exact r.get h
theorem strOk_sgn {z : Str} {c : Nat} (h : PyData.strOk z = true) (hc : c ∈ z.cps.toList) : PyData.strOk (sgn c) = true := by
  unfold PyData.strOk at h ⊢
  rw [Array.all_eq_true_iff_forall_mem] at h
  have := h c (by simpa using hc)
  simpa [sgn] using this
theorem atI_mem {α : Type} {xs : List α} {i : Int} {x : α} (h : atI xs i = some x) : x ∈ xs := by
  unfold L2.atI at h
  cases q : ixN xs.length i with
  | none => rw [q] at h; cases h
  | some j => rw [q] at h; exact List.mem_of_getElem? h
theorem pr_ix : Pr2 g (rIx g.K) ixD := fun T H v1 v2 d1 d2 Q f r1 r2 _ w => by
  cases d1 <;> cases d2 <;> first | exact w.elim | skip
  · rename_i z i
    obtain ⟨hz, w⟩ := lim_wp w
    obtain ⟨rfl, ok⟩ := r1.str
    cases e : atI z.cps.toList i with
    | none => rw [e] at w; exact w.elim
    | some c =>
      rw [e] at w
      exact .inr (.inr ⟨z, i, c, rfl, r2.int, big hz, e, w _ H f.refl (.str _ (strOk_sgn ok (atI_mem e)))⟩)
  · rename_i ds i
    obtain ⟨a, vs, rfl, h1, q1⟩ := r1.lst
    unfold ixD at w
    simp only at w
    cases e : atI ds i with
    | none => rw [e] at w; exact w.elim
    | some d =>
      rw [e] at w
      obtain ⟨v, h2, h3⟩ := q1.atI e
      exact .inl ⟨a, vs, i, v, rfl, r2.int, SqL.of h1, h2, w _ H f.refl h3⟩
  · rename_i ds i
    obtain ⟨a, vs, rfl, h1, q1, _⟩ := r1.tup
    unfold ixD at w
    simp only at w
    cases e : atI ds i with
    | none => rw [e] at w; exact w.elim
    | some d =>
      rw [e] at w
      obtain ⟨v, h2, h3⟩ := q1.atI e
      exact .inr (.inl ⟨a, vs, i, v, rfl, r2.int, h1, h2, w _ H f.refl h3⟩)
end
section
variable {Z : Cx} {g : Cf} {W : XK} {T : List Addr} {He : Hp} {a b c : Expr} {f1 f2 f3 : Se X} {fs : Se (List X)} {pos p2 : Pos}
theorem ev_ix (hK : Z.K = g.K) (ha : EV Z g W T He a f1) (hb : EV Z g W T He b f2) (hs : PlainIx b := by exact fun _ _ => rfl) : EV Z g W T He (.Subscript a b pos) (s2 ixD f1 f2) :=
  pe_w (pe_ix (hK ▸ ix_seq) ha hb hs) fun _ _ _ ⟨_, _, rl, w⟩ => rd2 pr_ix rl w
def cutD {α : Type} (xs : List α) (lo hi : Option Int) : List α := (xs.drop (HT.sIx xs.length 0 lo)).take (HT.sIx xs.length xs.length hi - HT.sIx xs.length 0 lo)
def slD (d : D) (lo hi : Option Int) : M R :=
  match d with
  | .lst ds => .ret (.nw (.l (cutD ds lo hi)))
  | .tup ds => .ret (.dt (.tup (cutD ds lo hi)))
  | .str z => lim z.length (.ret (.at (.str (cutS z lo hi))))
  | _ => .fail
def sPo (f : Option (Se X)) : Se (Option Int) := match f with
  | none => fun _ => .ret none
  | some f => fun Γ => (f Γ).bind fun x => match x.toD with | .int i => .ret (some i) | _ => .fail
def sSl (f : Se X) (lo hi : Option (Se X)) : Se X := fun Γ => (f Γ).bind fun x => (sPo lo Γ).bind fun l => (sPo hi Γ).bind fun h => (slD x.toD l h).bind fun z => .ret (z.fin x.tt)
def rdO (g : Cf) (W : XK) (T : List Addr) (He : Hp) (f : Se (Option Int)) : TO := fun σ H Q => ∃ Γ S, Rl g T He S H Γ σ ∧ (f Γ).wp (xp g W T He) fun x => ∀ H', Ext g.fd H H' → Q x H'
abbrev EO (Z : Cx) (g : Cf) (W : XK) (T : List Addr) (He : Hp) (e : Option Expr) (f : Option (Se X)) : Prop := PO Z e (rdO g W T He (sPo f))
theorem po_w {e : Option Expr} {t t' : TO} (h : PO Z e t) (k : ∀ σ H Q, t' σ H Q → t σ H Q) : PO Z e t' := ⟨fun pins s σ H Q I q => h.run pins s σ H Q I (k _ _ _ q)⟩
theorem eo_none : EO Z g W T He none none := po_w po_none fun σ H Q ⟨Γ, S, rl, w⟩ => w H rl.fok.refl
theorem eo_some (h : EV Z g W T He a f1) : EO Z g W T He (some a) (some f1) := po_w (po_some h) fun σ H Q ⟨Γ, S, rl, w⟩ => by
  simp only [sPo, M.wp_bind] at w
  refine rdE.use rl (M.wp_mono (fun x w v1 H1 e1 l1 x1 => ?_) w)
  have q := x1.on
  cases h : x.toD <;> rw [h] at w q <;> first | exact w.elim | skip
  cases q
  exact ⟨_, rfl, w H1 e1⟩
theorem RpA.cut {H : Hp} {vs : List V} {ds : List D} (r : RpA g H vs ds) (lo hi : Option Int) : RpA g H (cutV vs lo hi) (cutD ds lo hi) := by
  unfold cutV cutD
  rw [r.length]
  exact (r.drop _).take _
theorem strOk_cut {z : Str} {lo hi : Option Int} (h : PyData.strOk z = true) : PyData.strOk (cutS z lo hi) = true := by
  unfold PyData.strOk at h ⊢
  rw [Array.all_eq_true_iff_forall_mem] at h ⊢
  intro c hc
  refine h c ?_
  unfold cutS at hc
  simp only [List.mem_toArray] at hc
  have := List.mem_of_mem_drop (List.mem_of_mem_take hc)
  simpa using this
def rSlAny (K : PySem.W.Frag) : V → Option Int → Option Int → Hp → VK → Prop := fun x lo hi H Q => rSlL K x lo hi H Q ∨ rSlA K x lo hi H Q ∨ rSlS x lo hi H Q
theorem cutD_all {α : Type} {xs : List α} {lo hi : Option Int} (h : HT.sIx xs.length 0 lo = 0 ∧ HT.sIx xs.length xs.length hi = xs.length) : cutD xs lo hi = xs := by
  unfold cutD
  rw [h.1, h.2]
  simp
theorem pr_sl {T : List Addr} {H : Hp} {v : V} {d : D} {Q : VK} {lo hi : Option Int} (f : FdOk g T H) (r1 : Rp1 g T H v d) {E : XD} (w : (slD d lo hi).wp E (fun z => ∀ v H', Ext g.fd H H' → RpR g T H H' v z → Q v H')) : rSlAny g.K v lo hi H Q := by
  cases d <;> first | exact w.elim | skip
  · obtain ⟨hz, w⟩ := lim_wp w
    obtain ⟨rfl, ok⟩ := r1.str
    exact .inr (.inr ⟨_, rfl, big hz, w _ H f.refl (.str _ (strOk_cut ok))⟩)
  · obtain ⟨a, vs, rfl, h1, q1⟩ := r1.lst
    exact .inl ⟨a, vs, rfl, SqL.of h1, fun p hp => w _ _ (f.new hp) (new_lst f hp (q1.cut lo hi))⟩
  · obtain ⟨a, vs, rfl, h1, q1, z1⟩ := r1.tup
    refine .inr (.inl ⟨a, vs, rfl, h1, fun e => ?_, fun _ p hp => w _ _ (f.new hp) (new_tup f hp (q1.cut lo hi))⟩)
    rw [q1.length] at e
    unfold slD at w
    simp only [cutD_all e] at w
    exact w _ H f.refl z1
theorem sl_Any (hK : Z.K = g.K) : SlR Z (rSlAny g.K) := hK ▸ SlR.or sl_list (SlR.or sl_tupA sl_str)
theorem ev_sl {lo hi : Option Expr} {l h : Option (Se X)} (hK : Z.K = g.K) (ha : EV Z g W T He a f1) (hl : EO Z g W T He lo l) (hh : EO Z g W T He hi h) : EV Z g W T He (.Subscript a (.Slice lo hi none p2) pos) (sSl f1 l h) :=
  pe_w (pe_slice (sl_Any hK) ha hl hh) fun σ H Q ⟨Γ, S, rl, w⟩ => by
    simp only [sSl, M.wp_bind, M.wp_ret] at w
    refine rdE.use rl (M.wp_mono (fun x w v1 H1 e1 l1 x1 => ?_) w)
    refine ⟨Γ, S, l1, M.wp_mono (fun lv w H2 e2 => ?_) w⟩
    have l2 := l1.mono e2
    refine ⟨Γ, S, l2, M.wp_mono (fun hv w H3 e3 => ?_) w⟩
    have l3 := l2.mono e3
    have e := (e1.trans e2).trans e3
    refine pr_sl (l3.fokB x.tt) ((x1.mono (e2.trans e3) l1.t).r1 fun h => h) (M.wp_mono (fun z w v H' e' h => ?_) w)
    exact w v H' (e.trans e') (h.fin.early e l3.t)
end
end G
namespace G
open PySem PySem.Spec L2
open PyProof.Rows hiding St
/-! ### attributes -/
theorem lookup_ix {f : Str} {v : V} : ∀ {fv : List (Str × V)} {i : Nat}, (fv.map Prod.fst).Nodup → fv[i]? = some (f, v) → fv.lookup f = some v
  | [], _, _, e => by simp at e
  | (n, u) :: fv, 0, _, e => by
    simp only [List.getElem?_cons_zero, Option.some.injEq, Prod.mk.injEq] at e
    obtain ⟨rfl, rfl⟩ := e
    simp
  | (n, u) :: fv, i + 1, h, e => by
    simp only [List.map_cons, List.nodup_cons] at h
    simp only [List.getElem?_cons_succ] at e
    have hm : f ∈ fv.map Prod.fst := List.mem_map.mpr ⟨_, List.mem_of_getElem? e, rfl⟩
    have hne : (f == n) = false := by
      rw [beq_eq_false_iff_ne]
      intro q
      rw [q] at hm
      exact h.1 hm
    rw [List.lookup_cons, hne]
    exact lookup_ix h.2 e
structure FlOk (g : Cf) (f : Str) (ix : Nat → Option Nat) : Prop where
  ok : ∀ C i, ix C = some i → Cls g.K (g.ad C) ∧ NoAttr g.K (g.ad C) f ∧ (g.fl C)[i]? = some f ∧ (g.fl C).Nodup
theorem FvOk.lookup {g : Cf} {C : Nat} {fv : List (Str × V)} {i : Nat} {f : Str} {v : V} (h : FvOk g C fv) (hi : (g.fl C)[i]? = some f) (nd : (g.fl C).Nodup) (hv : (fv.map Prod.snd)[i]? = some v) : fv.lookup f = some v := by
  rw [List.getElem?_map, Option.map_eq_some_iff] at hv
  obtain ⟨⟨n, u⟩, h1, rfl⟩ := hv
  have hn : n = f := by
    have e : (fv.map Prod.fst)[i]? = some n := by rw [List.getElem?_map, h1]; rfl
    unfold FvOk at h
    rw [h, List.getElem?_take] at e
    split at e
    · rw [hi] at e; cases e; rfl
    · cases e
  subst hn
  refine lookup_ix ?_ h1
  unfold FvOk at h
  rw [h]
  exact nd.sublist (List.take_sublist _ _)
def flD (ix : Nat → Option Nat) : D → M R
  | .ins C fs => match ix C with
    | some i => .of (fs[i]?.map .dt)
    | none => .fail
  | _ => .fail
def sFl (ix : Nat → Option Nat) (f : Se X) : Se X := fun Γ => (f Γ).bind fun x => (flD ix x.toD).bind fun z => .ret (z.fin x.tt)
section
variable {Z : Cx} {g : Cf} {W : XK} {T : List Addr} {He : Hp} {a b c : Expr} {f1 f2 f3 : Se X} {fs : Se (List X)} {pos p2 : Pos}
theorem ev_fl {f : Str} {ix : Nat → Option Nat} (hK : Z.K = g.K) (ok : FlOk g f ix) (ha : EV Z g W T He a f1) (hb : attributeBase a f Z.env (eval a Z.env) = eval a Z.env := by rfl) : EV Z g W T He (.Attribute a f pos) (sFl ix f1) :=
  pe_w (pe_fld ha hb) fun σ H Q ⟨Γ, S, rl, w⟩ => by
    simp only [sFl, M.wp_bind, M.wp_ret] at w
    refine rdE.use rl (M.wp_mono (fun x w v1 H1 e1 l1 x1 => ?_) w)
    have r := x1.r1 (tt := x.tt) fun h => h
    cases h : x.toD <;> rw [h] at w r <;> first | exact w.elim | skip
    rename_i C fs
    unfold flD at w
    simp only at w
    cases hi : ix C with
    | none => rw [hi] at w; exact w.elim
    | some i =>
      rw [hi] at w
      simp only at w
      cases hd : fs[i]? with
      | none => rw [hd] at w; exact w.elim
      | some d =>
        rw [hd] at w
        obtain ⟨ad, dx, fv, rfl, h1, hf, h2⟩ := r.ins
        obtain ⟨v, h3, h4⟩ := h2.get hd
        obtain ⟨o1, o2, o3, o4⟩ := ok.ok C i hi
        refine ⟨ad, _, dx, fv, v, rfl, h1, hK ▸ o1, hK ▸ o2, hf.lookup o3 o4 h3, ?_⟩
        have q := (show RpR g (TS T S x.tt) H1 H1 v (.dt d) from h4).fin
        exact w v H1 e1 (q.early e1 l1.t)
/-! ### built-ins called -/
theorem ev_cB {id : String} {x : Str} {e : Expr} {es : List Expr} {p : Pos} {r : List V → Hp → VK → Prop} {sem : List D → M R} (hc : CallR Z (.builtin id) r) (hp : PrN g r sem) (hg : Gl Z x) (hm : Z.mg x = none) (hv : bootBuiltins x = some (.builtin id)) (ha : EA Z g W T He (e :: es) fs)
    (hn : x ≠ "__name__" := by decide) (hdb : (x == ("__debug__" : Str)) = false := by decide) (he : starEach (e :: es) Z.env = (false, eval e Z.env) :: starEach es Z.env := by rfl) (hpl : (backTo pos (starEach es Z.env)).any (·.1) = false := by rfl) :
    EV Z g W T He (.Call (.Name x p) (e :: es) [] pos) (sN sem fs) :=
  pe_w (pe_callB hc hg hm hv ha hn hdb he hpl) fun _ _ _ ⟨_, _, rl, w⟩ => rdN hp rl w
theorem ev_cT {t : String} {x : Str} {e : Expr} {es : List Expr} {p : Pos} {r : List V → Hp → VK → Prop} {sem : List D → M R} (hc : CallR Z (.type t) r) (hp : PrN g r sem) (hg : Gl Z x) (hm : Z.mg x = none) (hv : bootBuiltins x = some (.type t)) (ha : EA Z g W T He (e :: es) fs)
    (hn : x ≠ "__name__" := by decide) (hdb : (x == ("__debug__" : Str)) = false := by decide) (he : starEach (e :: es) Z.env = (false, eval e Z.env) :: starEach es Z.env := by rfl) (hpl : (backTo pos (starEach es Z.env)).any (·.1) = false := by rfl) :
    EV Z g W T He (.Call (.Name x p) (e :: es) [] pos) (sN sem fs) :=
  pe_w (pe_callTy hc hg hm hv ha hn hdb he hpl) fun _ _ _ ⟨_, _, rl, w⟩ => rdN hp rl w
theorem Rp1s.one {T : List Addr} {H : Hp} {vs : List V} {d : D} (r : Rp1s g T H vs [d]) : ∃ v, vs = [v] ∧ Rp1 g T H v d := by
  cases r with
  | cons h t => cases t; exact ⟨_, rfl, h⟩
def lenD : List D → M R
  | [.str z] => lim z.length (.ret (.at (.int z.length)))
  | [.lst ds] => .ret (.at (.int ds.length))
  | [.tup ds] => .ret (.at (.int ds.length))
  | _ => .fail
theorem pr_len : PrN g (fun xs H Q => ∃ x n, xs = [x] ∧ LenV g.K x H n ∧ Q (.int n) H) lenD := fun T H vs ds Q f r _ w => by
  match ds, r, w with
  | [.str z], r, w =>
    obtain ⟨v, rfl, r1⟩ := r.one
    obtain ⟨hz, w⟩ := lim_wp w
    exact ⟨v, z.length, rfl, by rw [r1.str.1]; exact ⟨big hz, rfl⟩, w _ H f.refl (.int _)⟩
  | [.lst ds], r, w =>
    obtain ⟨v, rfl, r1⟩ := r.one
    obtain ⟨a, vs, rfl, h1, h2⟩ := r1.lst
    exact ⟨_, _, rfl, .inl ⟨vs, SqL.of h1, rfl⟩, w _ H f.refl (by rw [h2.length]; exact .int _)⟩
  | [.tup ds], r, w =>
    obtain ⟨v, rfl, r1⟩ := r.one
    obtain ⟨a, vs, rfl, h1, h2, _⟩ := r1.tup
    exact ⟨_, _, rfl, .inr ⟨vs, h1, rfl⟩, w _ H f.refl (by rw [h2.length]; exact .int _)⟩
def D.bools : List D → Option (List Bool)
  | [] => some []
  | .bl b :: ds => (D.bools ds).map (b :: ·)
  | _ => none
theorem RpA.bools {H : Hp} : ∀ {vs : List V} {ds : List D} {bs : List Bool}, RpA g H vs ds → D.bools ds = some bs → vs = bs.map V.bl
  | _, _, bs, .nil, e => by cases e; rfl
  | _, _, bs, .cons h t, e => by
    cases h <;> first | (cases e; done) | skip
    simp only [D.bools, Option.map_eq_some_iff] at e
    obtain ⟨cs, e, rfl⟩ := e
    rw [RpA.bools t e]; rfl
def allD : List D → M R
  | [.lst ds] => .of ((D.bools ds).map fun bs => .at (.bl (bs.all id)))
  | _ => .fail
def anyD : List D → M R
  | [.lst ds] => .of ((D.bools ds).map fun bs => .at (.bl (bs.any id)))
  | _ => .fail
theorem pr_all : PrN g (rAll g.K) allD := fun T H vs ds Q f r _ w => by
  match ds, r, w with
  | [.lst ds], r, w =>
    obtain ⟨v, rfl, r1⟩ := r.one
    obtain ⟨a, vs, rfl, h1, h2⟩ := r1.lst
    unfold allD at w
    cases e : D.bools ds with
    | none => simp only [e] at w; exact w.elim
    | some bs =>
      simp only [e] at w
      rw [h2.bools e] at h1
      exact ⟨a, bs, rfl, SqL.of h1, w _ H f.refl (.bl _)⟩
theorem pr_any : PrN g (rAny g.K) anyD := fun T H vs ds Q f r _ w => by
  match ds, r, w with
  | [.lst ds], r, w =>
    obtain ⟨v, rfl, r1⟩ := r.one
    obtain ⟨a, vs, rfl, h1, h2⟩ := r1.lst
    unfold anyD at w
    cases e : D.bools ds with
    | none => simp only [e] at w; exact w.elim
    | some bs =>
      simp only [e] at w
      rw [h2.bools e] at h1
      exact ⟨a, bs, rfl, SqL.of h1, w _ H f.refl (.bl _)⟩
def listD : List D → M R
  | [.lst ds] => .ret (.nw (.l ds))
  | [.tup ds] => .ret (.nw (.l ds))
  | _ => .fail
theorem pr_list : PrN g (fun xs H Q => ∃ p ys, xs = [.ref p] ∧ (SqL g.K H p ys ∨ SqT g.K H p ys) ∧ ∀ l, H l = none → Q (.ref l) (upd H l (.lst ys))) listD := fun T H vs ds Q f r _ w => by
  match ds, r, w with
  | [.lst ds], r, w =>
    obtain ⟨v, rfl, r1⟩ := r.one
    obtain ⟨a, vs, rfl, h1, h2⟩ := r1.lst
    exact ⟨a, vs, rfl, .inl (SqL.of h1), fun p hp => w _ _ (f.new hp) (new_lst f hp h2)⟩
  | [.tup ds], r, w =>
    obtain ⟨v, rfl, r1⟩ := r.one
    obtain ⟨a, vs, rfl, h1, h2, _⟩ := r1.tup
    exact ⟨a, vs, rfl, .inr h1, fun p hp => w _ _ (f.new hp) (new_lst f hp h2)⟩
def tupleD : List D → M R
  | [.lst ds] => .ret (.dt (.tup ds))
  | [.tup ds] => .ret (.dt (.tup ds))
  | _ => .fail
theorem pr_tuple : PrN g (fun xs H Q => ∃ p ys, xs = [.ref p] ∧ ((SqL g.K H p ys ∧ ∀ l, H l = none → Q (.ref l) (upd H l (.tup ys))) ∨ (SqT g.K H p ys ∧ Q (.ref p) H))) tupleD := fun T H vs ds Q f r _ w => by
  match ds, r, w with
  | [.lst ds], r, w =>
    obtain ⟨v, rfl, r1⟩ := r.one
    obtain ⟨a, vs, rfl, h1, h2⟩ := r1.lst
    exact ⟨a, vs, rfl, .inl ⟨SqL.of h1, fun p hp => w _ _ (f.new hp) (new_tup f hp h2)⟩⟩
  | [.tup ds], r, w =>
    obtain ⟨v, rfl, r1⟩ := r.one
    obtain ⟨a, vs, rfl, h1, h2, h3⟩ := r1.tup
    exact ⟨a, vs, rfl, .inr ⟨h1, w _ H f.refl h3⟩⟩
/-! sorted texts -/
def D.strs : List D → Option (List Str)
  | [] => some []
  | .str b :: ds => (D.strs ds).map (b :: ·)
  | _ => none
theorem RpA.strs {H : Hp} : ∀ {vs : List V} {ds : List D} {bs : List Str}, RpA g H vs ds → D.strs ds = some bs → vs = bs.map V.str ∧ ∀ b ∈ bs, PyData.strOk b = true
  | _, _, bs, .nil, e => by cases e; exact ⟨rfl, fun b h => by cases h⟩
  | _, _, bs, .cons h t, e => by
    cases h <;> first | (cases e; done) | skip
    rename_i x hx
    simp only [D.strs, Option.map_eq_some_iff] at e
    obtain ⟨cs, e, rfl⟩ := e
    obtain ⟨q1, q2⟩ := RpA.strs t e
    refine ⟨by rw [q1]; rfl, fun b hb => ?_⟩
    rcases List.mem_cons.mp hb with rfl | hb
    · exact hx
    · exact q2 b hb
theorem RpA.ofStrs {H : Hp} : ∀ {bs : List Str}, (∀ b ∈ bs, PyData.strOk b = true) → RpA g H (bs.map V.str) (bs.map D.str)
  | [], _ => .nil
  | b :: bs, h => .cons (.str b (h b List.mem_cons_self)) (RpA.ofStrs fun c hc => h c (List.mem_cons_of_mem _ hc))
def leS (a b : Str) : Bool := !ltCps b.cps.toList a.cps.toList
def insS (a : Str) : List Str → List Str
  | [] => [a]
  | b :: bs => if leS a b then a :: b :: bs else b :: insS a bs
def sortS : List Str → List Str
  | [] => []
  | a :: as => insS a (sortS as)
theorem ltCps_tr : ∀ {a b c : List Nat}, ltCps b a = false → ltCps c b = false → ltCps c a = false
  | [], b, [], _, _ => by unfold ltCps; rfl
  | [], [], c :: cs, _, h => by simp [ltCps] at h ⊢
  | [], b :: bs, c :: cs, _, _ => by simp [ltCps]
  | a :: as, [], c, h, _ => by simp [ltCps] at h
  | a :: as, b :: bs, [], _, h => by simp [ltCps] at h
  | a :: as, b :: bs, c :: cs, h1, h2 => by
    simp only [ltCps, Bool.or_eq_false_iff, Bool.and_eq_false_iff, decide_eq_false_iff_not, beq_eq_false_iff_ne] at h1 h2 ⊢
    refine ⟨by omega, ?_⟩
    by_cases q : c = a
    · right
      rcases h1.2 with z | z
      · omega
      · rcases h2.2 with y | y
        · omega
        · exact ltCps_tr z y
    · exact .inl q
theorem ltCps_anti : ∀ {a b : List Nat}, ltCps b a = false → ltCps a b = false → a = b
  | [], [], _, _ => rfl
  | [], b :: bs, _, h => by simp [ltCps] at h
  | a :: as, [], h, _ => by simp [ltCps] at h
  | a :: as, b :: bs, h1, h2 => by
    simp only [ltCps, Bool.or_eq_false_iff, Bool.and_eq_false_iff, decide_eq_false_iff_not, beq_eq_false_iff_ne] at h1 h2
    have e : a = b := by omega
    subst e
    rw [ltCps_anti (h1.2.resolve_left fun z => z rfl) (h2.2.resolve_left fun z => z rfl)]
theorem ltCps_total : ∀ (a b : List Nat), ltCps b a = false ∨ ltCps a b = false
  | [], [] => .inl rfl
  | [], b :: bs => .inl rfl
  | a :: as, [] => .inr rfl
  | a :: as, b :: bs => by
    simp only [ltCps, Bool.or_eq_false_iff, Bool.and_eq_false_iff, decide_eq_false_iff_not, beq_eq_false_iff_ne]
    rcases ltCps_total as bs with h | h
    · by_cases q : b < a
      · exact .inr ⟨by omega, .inl (by omega)⟩
      · exact .inl ⟨q, .inr h⟩
    · by_cases q : a < b
      · exact .inl ⟨by omega, .inl (by omega)⟩
      · exact .inr ⟨q, .inr h⟩
theorem leS_iff {a b : Str} : leS a b = true ↔ ltCps b.cps.toList a.cps.toList = false := by unfold leS; simp
theorem leS_tr {a b c : Str} (h1 : leS a b = true) (h2 : leS b c = true) : leS a c = true := leS_iff.mpr (ltCps_tr (leS_iff.mp h1) (leS_iff.mp h2))
theorem leS_anti {a b : Str} (h1 : leS a b = true) (h2 : leS b a = true) : a = b := by
  have := ltCps_anti (leS_iff.mp h1) (leS_iff.mp h2)
  cases a; cases b
  congr
  exact Array.toList_inj.mp this
theorem leS_total (a b : Str) : (leS a b || leS b a) = true := by
  rw [Bool.or_eq_true, leS_iff, leS_iff]
  exact ltCps_total _ _
theorem rising_pw : ∀ {p : Str} {xs : List Str}, risingS p xs = true → (p :: xs).Pairwise fun a b => leS a b = true
  | p, [], _ => by simp
  | p, x :: xs, h => by
    unfold risingS at h
    rw [Bool.and_eq_true] at h
    have ih := rising_pw h.2
    refine List.pairwise_cons.mpr ⟨fun b hb => ?_, ih⟩
    have hx : leS p x = true := h.1
    rcases List.mem_cons.mp hb with rfl | hb
    · exact hx
    · exact leS_tr hx ((List.pairwise_cons.mp ih).1 b hb)
theorem sorted_pw {xs : List Str} (h : sortedS xs = true) : xs.Pairwise fun a b => leS a b = true := by
  cases xs with
  | nil => exact .nil
  | cons x xs => exact rising_pw h
theorem insS_perm (a : Str) : ∀ xs : List Str, (insS a xs).Perm (a :: xs)
  | [] => .refl _
  | b :: bs => by
    unfold insS
    split
    · exact .refl _
    · exact ((insS_perm a bs).cons b).trans (List.Perm.swap a b bs)
theorem insS_pw (a : Str) : ∀ xs : List Str, xs.Pairwise (fun a b => leS a b = true) → (insS a xs).Pairwise fun a b => leS a b = true
  | [], _ => by unfold insS; simp
  | b :: bs, h => by
    unfold insS
    split
    · rename_i h1
      refine List.pairwise_cons.mpr ⟨fun c hc => ?_, h⟩
      rcases List.mem_cons.mp hc with rfl | hc
      · exact h1
      · exact leS_tr h1 ((List.pairwise_cons.mp h).1 c hc)
    · rename_i h1
      have hba : leS b a = true := by
        have := leS_total a b
        rw [Bool.or_eq_true] at this
        exact this.resolve_left h1
      refine List.pairwise_cons.mpr ⟨fun c hc => ?_, insS_pw a bs (List.pairwise_cons.mp h).2⟩
      rcases List.mem_cons.mp ((insS_perm a bs).mem_iff.mp hc) with rfl | hc
      · exact hba
      · exact (List.pairwise_cons.mp h).1 c hc
theorem sortS_perm : ∀ xs : List Str, (sortS xs).Perm xs
  | [] => .refl _
  | a :: as => (insS_perm a _).trans ((sortS_perm as).cons a)
theorem sortS_pw : ∀ xs : List Str, (sortS xs).Pairwise fun a b => leS a b = true
  | [] => .nil
  | a :: as => insS_pw a _ (sortS_pw as)
/-- what is sorted is the one -/
theorem sortS_eq {xs ys : List Str} (hp : ys.Perm xs) (h : ys.Pairwise fun a b => leS a b = true) : ys = sortS xs :=
  List.Perm.eq_of_pairwise (fun a b _ _ h1 h2 => leS_anti h1 h2) h (sortS_pw xs) (hp.trans (sortS_perm xs).symm)
def sortedD : List D → M R
  | [.lst ds] => match D.strs ds with
    | some ss => if ss.length < 64 then .ret (.nw (.l ((sortS ss).map .str))) else .fail
    | none => .fail
  | _ => .fail
theorem pr_sorted : PrN g (rSortedS g.K) sortedD := fun T H vs ds Q f r _ w => by
  match ds, r, w with
  | [.lst ds], r, w =>
    obtain ⟨v, rfl, r1⟩ := r.one
    obtain ⟨a, vs, rfl, h1, h2⟩ := r1.lst
    unfold sortedD at w
    cases e : D.strs ds with
    | none => simp only [e] at w; exact w.elim
    | some ss =>
      simp only [e] at w
      split at w
      · rename_i hz
        obtain ⟨q1, q2⟩ := h2.strs e
        rw [q1] at h1
        refine ⟨a, ss, rfl, SqL.of h1, hz, fun ys p hp hs hn => ?_⟩
        have ey := sortS_eq hp (sorted_pw hs)
        subst ey
        exact w _ _ (f.new hn) (new_lst f hn (RpA.ofStrs fun b hb => q2 b ((sortS_perm ss).mem_iff.mp hb)))
      · exact w.elim
/-! numbers and texts -/
def strD : List D → M R
  | [.int i] => if i.natAbs.log2 < 1920 then .ret (.at (.str (toString i))) else .fail
  | [.str z] => .ret (.at (.str z))
  | _ => .fail
theorem strOk_ofString (z : String) : PyData.strOk (Str.ofString z) = true := by
  unfold PyData.strOk
  rw [Str.ofString_eq_toList, Array.all_eq_true_iff_forall_mem]
  intro c hc
  simp only [List.mem_toArray, List.mem_map] at hc
  obtain ⟨ch, _, rfl⟩ := hc
  have h := ch.valid
  apply decide_eq_true
  show ch.val.toNat < 1114112
  rcases h with h | h
  · exact Nat.lt_trans h (by decide)
  · exact h.2
def rStr : List V → Hp → VK → Prop := fun xs H Q => (∃ i, xs = [.int i] ∧ i.natAbs.log2 < 1920 ∧ Q (.str (toString i)) H) ∨ ∃ a, xs = [.str a] ∧ Q (.str a) H
theorem call_str : CallR Z (.type "str") rStr := CallR.or' call_str_int SkE.call_str_str
theorem pr_str : PrN g rStr strD := fun T H vs ds Q f r _ w => by
  match ds, r, w with
  | [.int i], r, w =>
    obtain ⟨v, rfl, r1⟩ := r.one
    unfold strD at w
    simp only at w
    split at w
    · rename_i hz
      exact .inl ⟨i, by rw [r1.int], hz, w _ H f.refl (.str _ (strOk_ofString _))⟩
    · exact w.elim
  | [.str z], r, w =>
    obtain ⟨v, rfl, r1⟩ := r.one
    exact .inr ⟨z, by rw [r1.str.1], w _ H f.refl (.str _ r1.str.2)⟩
def b2I (b : Bool) : Int := if b then 1 else 0
def intD : List D → M R
  | [.str a] => match PySem.intText? a with
    | some n => if a.length ≤ 640 then .ret (.at (.int n)) else .fail
    | none => .fail
  | [.int i] => .ret (.at (.int i))
  | [.bl b] => .ret (.at (.int (b2I b)))
  | _ => .fail
def rInt : List V → Hp → VK → Prop := fun xs H Q => (∃ a n, xs = [.str a] ∧ PySem.intText? a = some n ∧ a.length ≤ 640 ∧ Q (.int n) H) ∨ (∃ i, xs = [.int i] ∧ Q (.int i) H) ∨ ∃ k, xs = [.bl k] ∧ Q (.int (if k then 1 else 0)) H
theorem call_int : CallR Z (.type "int") rInt := CallR.or' call_int_str call_int1
theorem pr_int : PrN g rInt intD := fun T H vs ds Q f r _ w => by
  match ds, r, w with
  | [.str a], r, w =>
    obtain ⟨v, rfl, r1⟩ := r.one
    unfold intD at w
    cases e : PySem.intText? a with
    | none => simp only [e] at w; exact w.elim
    | some n =>
      simp only [e] at w
      split at w
      · rename_i hz
        exact .inl ⟨a, n, by rw [r1.str.1], e, hz, w _ H f.refl (.int _)⟩
      · exact w.elim
  | [.int i], r, w =>
    obtain ⟨v, rfl, r1⟩ := r.one
    exact .inr (.inl ⟨i, by rw [r1.int], w _ H f.refl (.int _)⟩)
  | [.bl b], r, w =>
    obtain ⟨v, rfl, r1⟩ := r.one
    exact .inr (.inr ⟨b, by rw [r1.bl], w _ H f.refl (.int _)⟩)
def D.ints : List D → Option (List Int)
  | [] => some []
  | .int b :: ds => (D.ints ds).map (b :: ·)
  | _ => none
theorem RpA.ints {H : Hp} : ∀ {vs : List V} {ds : List D} {bs : List Int}, RpA g H vs ds → D.ints ds = some bs → vs = bs.map V.int
  | _, _, bs, .nil, e => by cases e; rfl
  | _, _, bs, .cons h t, e => by
    cases h <;> first | (cases e; done) | skip
    simp only [D.ints, Option.map_eq_some_iff] at e
    obtain ⟨cs, e, rfl⟩ := e
    rw [RpA.ints t e]; rfl
def maxI : List Int → Int
  | [] => 0
  | n :: ns => ns.foldl max n
def minI : List Int → Int
  | [] => 0
  | n :: ns => ns.foldl min n
theorem foldl_max : ∀ (ns : List Int) (n : Int), (ns.foldl max n = n ∨ ns.foldl max n ∈ ns) ∧ n ≤ ns.foldl max n ∧ ∀ y ∈ ns, y ≤ ns.foldl max n
  | [], n => ⟨.inl rfl, Int.le_refl _, fun y h => by cases h⟩
  | m :: ns, n => by
    obtain ⟨h1, h2, h3⟩ := foldl_max ns (max n m)
    simp only [List.foldl_cons]
    refine ⟨?_, by omega, fun y hy => ?_⟩
    · rcases h1 with h1 | h1
      · rw [h1]
        by_cases q : n ≤ m
        · right; rw [Int.max_eq_right q]; exact List.mem_cons_self
        · left; exact Int.max_eq_left (by omega)
      · exact .inr (List.mem_cons_of_mem _ h1)
    · rcases List.mem_cons.mp hy with rfl | hy
      · omega
      · exact h3 y hy
theorem foldl_min : ∀ (ns : List Int) (n : Int), (ns.foldl min n = n ∨ ns.foldl min n ∈ ns) ∧ ns.foldl min n ≤ n ∧ ∀ y ∈ ns, ns.foldl min n ≤ y
  | [], n => ⟨.inl rfl, Int.le_refl _, fun y h => by cases h⟩
  | m :: ns, n => by
    obtain ⟨h1, h2, h3⟩ := foldl_min ns (min n m)
    simp only [List.foldl_cons]
    refine ⟨?_, by omega, fun y hy => ?_⟩
    · rcases h1 with h1 | h1
      · rw [h1]
        by_cases q : m ≤ n
        · right; rw [Int.min_eq_right q]; exact List.mem_cons_self
        · left; exact Int.min_eq_left (by omega)
      · exact .inr (List.mem_cons_of_mem _ h1)
    · rcases List.mem_cons.mp hy with rfl | hy
      · omega
      · exact h3 y hy
def maxD : List D → M R
  | [.lst ds] => match D.ints ds with
    | some (n :: ns) => .ret (.at (.int (maxI (n :: ns))))
    | _ => .fail
  | _ => .fail
def minD : List D → M R
  | [.lst ds] => match D.ints ds with
    | some (n :: ns) => .ret (.at (.int (minI (n :: ns))))
    | _ => .fail
  | _ => .fail
def sumD : List D → M R
  | [.lst ds] => match D.ints ds with
    | some ns => .ret (.at (.int ns.sum))
    | _ => .fail
  | _ => .fail
theorem pr_max : PrN g (rMax g.K) maxD := fun T H vs ds Q f r _ w => by
  match ds, r, w with
  | [.lst ds], r, w =>
    obtain ⟨v, rfl, r1⟩ := r.one
    obtain ⟨a, vs, rfl, h1, h2⟩ := r1.lst
    unfold maxD at w
    cases e : D.ints ds with
    | none => simp only [e] at w; exact w.elim
    | some ns =>
      cases ns with
      | nil => simp only [e] at w; exact w.elim
      | cons n ns =>
        simp only [e] at w
        rw [h2.ints e] at h1
        refine ⟨a, n :: ns, rfl, SqL.of h1, Nat.succ_pos _, fun m hm hle => ?_⟩
        obtain ⟨q1, q2, q3⟩ := foldl_max ns n
        have em : m = maxI (n :: ns) := by
          show m = ns.foldl max n
          have h4 : ns.foldl max n ∈ n :: ns := q1.elim (fun z => by rw [z]; exact List.mem_cons_self) fun z => List.mem_cons_of_mem _ z
          have h5 := hle _ h4
          rcases List.mem_cons.mp hm with rfl | hm
          · omega
          · have := q3 m hm; omega
        subst em
        exact w _ H f.refl (.int _)
theorem pr_min : PrN g (fun vs H Q => ∃ (a : Addr) (ns : List Int), vs = [V.ref a] ∧ SqL g.K H a (ns.map V.int) ∧ 0 < ns.length ∧ ∀ m, m ∈ ns → (∀ y, y ∈ ns → m ≤ y) → Q (.int m) H) minD := fun T H vs ds Q f r _ w => by
  match ds, r, w with
  | [.lst ds], r, w =>
    obtain ⟨v, rfl, r1⟩ := r.one
    obtain ⟨a, vs, rfl, h1, h2⟩ := r1.lst
    unfold minD at w
    cases e : D.ints ds with
    | none => simp only [e] at w; exact w.elim
    | some ns =>
      cases ns with
      | nil => simp only [e] at w; exact w.elim
      | cons n ns =>
        simp only [e] at w
        rw [h2.ints e] at h1
        refine ⟨a, n :: ns, rfl, SqL.of h1, Nat.succ_pos _, fun m hm hle => ?_⟩
        obtain ⟨q1, q2, q3⟩ := foldl_min ns n
        have em : m = minI (n :: ns) := by
          show m = ns.foldl min n
          have h4 : ns.foldl min n ∈ n :: ns := q1.elim (fun z => by rw [z]; exact List.mem_cons_self) fun z => List.mem_cons_of_mem _ z
          have h5 := hle _ h4
          rcases List.mem_cons.mp hm with rfl | hm
          · omega
          · have := q3 m hm; omega
        subst em
        exact w _ H f.refl (.int _)
theorem pr_sum : PrN g (rSum g.K) sumD := fun T H vs ds Q f r _ w => by
  match ds, r, w with
  | [.lst ds], r, w =>
    obtain ⟨v, rfl, r1⟩ := r.one
    obtain ⟨a, vs, rfl, h1, h2⟩ := r1.lst
    unfold sumD at w
    cases e : D.ints ds with
    | none => simp only [e] at w; exact w.elim
    | some ns =>
      simp only [e] at w
      rw [h2.ints e] at h1
      exact ⟨a, ns, rfl, SqL.of h1, w _ H f.refl (.int _)⟩
/-! join, f-strings -/
def joinD : D → D → M R
  | .str a, .lst ds => match D.strs ds with
    | some ys => if (ys.map (·.length)).sum + ys.length * a.length ≤ 16777216 then .ret (.at (.str (Str.join a ys))) else .fail
    | none => .fail
  | .str a, .tup ds => match D.strs ds with
    | some ys => if (ys.map (·.length)).sum + ys.length * a.length ≤ 16777216 then .ret (.at (.str (Str.join a ys))) else .fail
    | none => .fail
  | _, _ => .fail
end
end G
namespace G
open PySem PySem.Spec L2
open PyProof.Rows hiding St
section
variable {Z : Cx} {g : Cf} {W : XK} {T : List Addr} {He : Hp} {a b c : Expr} {f1 f2 f3 : Se X} {fs : Se (List X)} {pos p2 : Pos}
/-! ### texts' methods -/
theorem strOk_join {a : Str} (ha : PyData.strOk a = true) : ∀ {ys : List Str}, (∀ y ∈ ys, PyData.strOk y = true) → PyData.strOk (Str.join a ys) = true
  | [], _ => (by decide +kernel : PyData.strOk Str.empty = true)
  | [x], h => h x List.mem_cons_self
  | x :: y :: r, h => by
    have ih := strOk_join ha (ys := y :: r) fun z hz => h z (List.mem_cons_of_mem _ hz)
    show PyData.strOk ((x ++ a) ++ Str.join a (y :: r)) = true
    exact strOk_app (strOk_app (h x List.mem_cons_self) ha) ih
def rJoinV (K : PySem.W.Frag) : R2 := fun x y H Q => ∃ a p, ∃ ys : List Str, x = .str a ∧ y = .ref p ∧ (SqL K H p (ys.map V.str) ∨ SqT K H p (ys.map V.str)) ∧ (ys.map (·.length)).sum + ys.length * a.length ≤ 16777216 ∧ Q (.str (Str.join a ys)) H
theorem pr_join : Pr2 g (rJoinV g.K) joinD := fun T H v1 v2 d1 d2 Q f r1 r2 _ w => by
  cases d1 <;> cases d2 <;> first | exact w.elim | skip
  · rename_i z ds
    obtain ⟨a, vs, rfl, h1, h2⟩ := r2.lst
    unfold joinD at w
    cases e : D.strs ds with
    | none => simp only [e] at w; exact w.elim
    | some ys =>
      simp only [e] at w
      split at w
      · rename_i hz
        obtain ⟨q1, q2⟩ := h2.strs e
        rw [q1] at h1
        exact ⟨z, a, ys, r1.str.1, rfl, .inl (SqL.of h1), hz, w _ H f.refl (.str _ (strOk_join r1.str.2 q2))⟩
      · exact w.elim
  · rename_i z ds
    obtain ⟨a, vs, rfl, h1, h2, _⟩ := r2.tup
    unfold joinD at w
    cases e : D.strs ds with
    | none => simp only [e] at w; exact w.elim
    | some ys =>
      simp only [e] at w
      split at w
      · rename_i hz
        obtain ⟨q1, q2⟩ := h2.strs e
        rw [q1] at h1
        exact ⟨z, a, ys, r1.str.1, rfl, .inr h1, hz, w _ H f.refl (.str _ (strOk_join r1.str.2 q2))⟩
      · exact w.elim
/-- o.m(e), o a text: s2 with a check that o is one -/
def sTm (sem : D → D → M R) (f1 f2 : Se X) : Se X := fun Γ => (f1 Γ).bind fun x => match x.toD with
  | .str z => (f2 Γ).bind fun y => (sem (.str z) y.toD).bind fun z => .ret (z.fin y.tt)
  | _ => .fail
theorem rdTm {r : V → List V → Hp → VK → Prop} {r2 : R2} {sem : D → D → M R} {S : List Addr} {σ : St} {H : Hp} {Γ : List Sl} {Q : VK} (hr : ∀ x y H Q, r2 x y H Q → r x [y] H Q) (hp : Pr2 g r2 sem) (rl : Rl g T He S H Γ σ)
    (w : (sTm sem f1 f2 Γ).wp (xp g W T He) fun x => ∀ v H', Ext g.fd H H' → RpX g T S H H' v x → Q v H') : tM1 r (rdE g W T He f1) (rdE g W T He f2) σ H Q := by
  simp only [sTm, M.wp_bind] at w
  refine rdE.use rl (M.wp_mono (fun x w v1 H1 e1 l1 x1 => ?_) w)
  have q := x1.on
  cases h : x.toD <;> rw [h] at w q <;> first | exact w.elim | skip
  rename_i z
  cases q with
  | str _ ok =>
    refine ⟨⟨z, rfl⟩, ?_⟩
    simp only [M.wp_bind, M.wp_ret] at w
    refine rdE.use l1 (M.wp_mono (fun y w v2 H2 e2 l2 x2 => ?_) w)
    refine hr _ _ _ _ (hp (TS T S y.tt) H2 _ v2 (.str z) y.toD Q (l2.fokB _) (.of (.str z ok)) (x2.r1 fun h => h) (M.wp_mono (fun z w v H' e h => ?_) w))
    exact w v H' ((e1.trans e2).trans e) (h.fin.early (e1.trans e2) l2.t)
theorem ev_join {o e : Expr} {apos : Pos} (hK : Z.K = g.K) (ho : EV Z g W T He o f1) (he : EV Z g W T He e f2) (hs : starEach [e] Z.env = [(false, eval e Z.env)] := by rfl) (hbase : attributeBase o "join" Z.env (eval o Z.env) = eval o Z.env := by rfl) (hline : (apos.endLine == pos.line) = true := by rfl) :
    EV Z g W T He (.Call (.Attribute o "join" apos) [e] [] pos) (sTm joinD f1 f2) :=
  pe_w (pe_join ho he hs hbase hline) fun _ _ _ ⟨_, _, rl, w⟩ => rdTm (r2 := rJoinV g.K) (fun x y H Q ⟨a, p, ys, h1, h2, h3, h4, h5⟩ => ⟨a, p, ys, h1, by rw [h2], hK ▸ h3, h4, by rw [show Txt.join a ys = Str.join a ys from TL.join_eq a ys]; exact h5⟩) pr_join rl w
/-! ### f-strings -/
def fmtD : D → M Str
  | .str z => if z.length ≤ 100000 then .ret z else .fail
  | .int i => if i.natAbs.log2 < 1920 then .ret (toString i) else .fail
  | _ => .fail
abbrev SeF := Str → Se Str
def fNil : SeF := fun acc _ => .ret acc
def fStr (x : Str) (f : SeF) : SeF := fun acc Γ => if (acc ++ x).length ≤ 100000 then f (acc ++ x) Γ else .fail
def fVal (f1 : Se X) (f : SeF) : SeF := fun acc Γ => (f1 Γ).bind fun x => (fmtD x.toD).bind fun z => if (acc ++ z).length ≤ 100000 then f (acc ++ z) Γ else .fail
def FJ (Z : Cx) (g : Cf) (W : XK) (T : List Addr) (He : Hp) (es : List Expr) (f : SeF) : Prop := ∃ ts, PJ Z es ts ∧ ∀ (acc : Str) (σ : St) (H : Hp) (S : List Addr) (Γ : List Sl) (Q : Str → Hp → Prop), Rl g T He S H Γ σ → PyData.strOk acc = true →
    ((f acc Γ).wp (xp g W T He) fun z => ∀ H', Ext g.fd H H' → PyData.strOk z = true → Q z H') → tJs ts acc σ H Q
def sFs (f : SeF) : Se X := fun Γ => (f Str.empty Γ).bind fun z => .ret (.p (.str z))
theorem fj_nil : FJ Z g W T He [] fNil := ⟨[], .nil, fun acc σ H S Γ Q rl ok w => w H rl.fok.refl ok⟩
theorem fj_str {x : Str} {j : _} {es : List Expr} {f : SeF} (h : FJ Z g W T He es f) (hx : PyData.strOk x = true := by decide +kernel) : FJ Z g W T He (.Constant (.str x) j pos :: es) (fStr x f) := by
  obtain ⟨ts, h1, h2⟩ := h
  refine ⟨tC (.str x) :: ts, .cons pe_str h1, fun acc σ H S Γ Q rl ok w => ?_⟩
  unfold fStr at w
  split at w
  · rename_i hz
    exact ⟨x, rfl, big hz, h2 _ σ H S Γ Q rl (strOk_app ok hx) w⟩
  · exact w.elim
theorem fj_val {e : Expr} {es : List Expr} {f : SeF} (he : EV Z g W T He e f1) (h : FJ Z g W T He es f) : FJ Z g W T He (.FormattedValue e (-1) none pos :: es) (fVal f1 f) := by
  obtain ⟨ts, h1, h2⟩ := h
  refine ⟨_ :: ts, .cons (pe_fmt he) h1, fun acc σ H S Γ Q rl ok w => ?_⟩
  simp only [fVal, M.wp_bind] at w
  refine rdE.use rl (M.wp_mono (fun x w v1 H1 e1 l1 x1 => ?_) w)
  have q := x1.on
  cases hd : x.toD <;> rw [hd] at w q <;> first | exact w.elim | skip
  · rename_i i
    cases q
    unfold fmtD at w
    simp only at w
    split at w
    · rename_i hi
      refine .inr ⟨i, rfl, hi, ?_⟩
      simp only [M.wp_ret] at w
      split at w
      · rename_i hz
        exact ⟨_, rfl, big hz, h2 _ σ H1 S Γ Q l1 (strOk_app ok (strOk_ofString _)) (M.wp_mono (fun z q H' e' => q H' (e1.trans e')) w)⟩
      · exact w.elim
    · exact w.elim
  · rename_i z
    cases q with
    | str _ okz =>
      unfold fmtD at w
      simp only at w
      split at w
      · rename_i hi
        refine .inl ⟨z, rfl, big hi, ?_⟩
        simp only [M.wp_ret] at w
        split at w
        · rename_i hz
          exact ⟨_, rfl, big hz, h2 _ σ H1 S Γ Q l1 (strOk_app ok okz) (M.wp_mono (fun z q H' e' => q H' (e1.trans e')) w)⟩
        · exact w.elim
      · exact w.elim
theorem ev_fs {v1 v2 : Expr} {rest : List Expr} {f : SeF} (h : FJ Z g W T He (v1 :: v2 :: rest) f) : EV Z g W T He (.JoinedStr (v1 :: v2 :: rest) pos) (sFs f) := by
  obtain ⟨ts, h1, h2⟩ := h
  refine pe_w (pe_joined h1) fun σ H Q ⟨Γ, S, rl, w⟩ => ?_
  simp only [sFs, M.wp_bind, M.wp_ret] at w
  exact h2 Str.empty σ H S Γ (fun out H1 => Q (.str out) H1) rl (by decide +kernel) (M.wp_mono (fun z q H' e ok => q _ H' e (Rp.str z ok)) w)
/-! ### isinstance -/
def D.tyv (g : Cf) : D → Value
  | .non => .type "NoneType"
  | .bl _ => .type "bool"
  | .int _ => .type "int"
  | .str _ => .type "str"
  | .lst _ => .type "list"
  | .tup _ => .type "tuple"
  | .ins C _ => .ref (g.ad C)
  | .feed => .none
  | .fn _ => .none
  | .dk _ _ => .none
  | .dn _ _ => .none
structure TyF (g : Cf) (P : Nat → Bool) : Prop where
  ty : ∀ C, P C = true → ∀ {H : Hp} {a dx : Addr} {fs : List (Str × V)}, H a = some (.ins (g.ad C) dx fs) → TyOf g.K H (.ref a) (.ref (g.ad C))
theorem Rp.tyx {P : Nat → Bool} (tf : TyF g P) {H : Hp} {v : V} {d : D} (r : Rp g H v d) (h : ∀ C fs, d = .ins C fs → P C = true) (hf : d ≠ .feed) (hj : ∀ j, d ≠ .fn j) (hk : (∀ ks ds, d ≠ .dk ks ds) ∧ ∀ ks ds, d ≠ .dn ks ds) : TyX g.K H v (d.tyv g) := by
  cases r with
  | non => exact .base .non
  | bl b => exact .base (.bl b)
  | int i => exact .base (.int i)
  | str x _ => exact .base (.str x)
  | lst h1 _ => exact .base (.lst h1)
  | tup hs _ =>
    rcases hs with (h | ⟨o, h⟩) | ⟨o, its, n, h, hc, _⟩
    · exact .base (.tup h)
    · exact .fTuple h
    · exact .kTuple h hc
  | ins h1 _ _ => exact .base (tf.ty _ (h _ _ rfl) h1)
  | feed => exact absurd rfl hf
  | fn => exact absurd rfl (hj _)
  | dk => exact absurd rfl (hk.1 _ _)
  | dn => exact absurd rfl (hk.2 _ _)
/-- what isinstance against one class says of data -/
structure IsK (g : Cf) (u : Value) (p : D → Option Bool) : Prop where
  ok : ∀ d b, p d = some b → PySem.W.kitOne g.K (d.tyv g) u = some b
  nf : p .feed = none
  nj : ∀ j, p (.fn j) = none
  nk : (∀ ks ds, p (.dk ks ds) = none) ∧ ∀ ks ds, p (.dn ks ds) = none
def sIsi (p : D → Option Bool) (f : Se X) : Se X := fun Γ => (f Γ).bind fun x => match p x.toD with | some b => .ret (.p (.bl b)) | none => .fail
theorem ev_isi {P : Nat → Bool} {e ce : Expr} {px : Pos} {cv : V} {u : Value} {p : D → Option Bool} (hK : Z.K = g.K) (tf : TyF g P) (hP : ∀ C fs, (p (.ins C fs)).isSome = true → P C = true) (ik : IsK g u p) (cl : ClsV cv u) (hg : Gl Z "isinstance") (hm : Z.mg "isinstance" = none)
    (he : EV Z g W T He e f1) (hce : PE Z ce (tC cv)) (hs : starEach (e :: [ce]) Z.env = (false, eval e Z.env) :: starEach [ce] Z.env := by rfl) (hs2 : starEach [ce] Z.env = (false, eval ce Z.env) :: starEach [] Z.env := by rfl) (hpl : (backTo pos (starEach [ce] Z.env)).any (·.1) = false := by rfl) :
    EV Z g W T He (.Call (.Name "isinstance" px) [e, ce] [] pos) (sIsi p f1) :=
  pe_w (pe_callB call_isi hg hm (by decide +kernel) (pa_cons he (pa_cons hce pa_nil hs2) hs) (by decide) (by decide) hs hpl) fun σ H Q ⟨Γ, S, rl, w⟩ => by
    simp only [sIsi, M.wp_bind] at w
    refine rdE.use rl (M.wp_mono (fun x w v1 H1 e1 l1 x1 => ?_) w)
    cases hb : p x.toD with
    | none => rw [hb] at w; exact w.elim
    | some b =>
      rw [hb] at w
      exact ⟨v1, cv, _, u, b, rfl, cl, hK ▸ x1.on.tyx tf (fun C fs e => hP C fs (by rw [← e, hb]; rfl)) (fun e => by rw [e, ik.nf] at hb; cases hb) (fun j e => by rw [e, ik.nj] at hb; cases hb) ⟨fun ks ds e => (by rw [e, ik.nk.1] at hb; cases hb), fun ks ds e => (by rw [e, ik.nk.2] at hb; cases hb)⟩, hK ▸ ik.ok _ _ hb, w _ H1 e1 (Rp.bl b)⟩
/-- .. against a written pair of classes -/
theorem ev_isi2 {P : Nat → Bool} {e c1 c2 : Expr} {kk : _} {px tp : Pos} {cv1 cv2 : V} {u1 u2 : Value} {p1 p2 : D → Option Bool} (hK : Z.K = g.K) (tf : TyF g P) (hP : ∀ C fs, (p1 (.ins C fs)).isSome = true → P C = true) (ik1 : IsK g u1 p1) (ik2 : IsK g u2 p2) (cl1 : ClsV cv1 u1) (cl2 : ClsV cv2 u2) (hg : Gl Z "isinstance") (hm : Z.mg "isinstance" = none)
    (he : EV Z g W T He e f1) (h1 : PE Z c1 (tC cv1)) (h2 : PE Z c2 (tC cv2)) (hs : starEach (e :: [.Tuple [c1, c2] kk tp]) Z.env = (false, eval e Z.env) :: starEach [.Tuple [c1, c2] kk tp] Z.env := by rfl)
    (hs2 : starEach [.Tuple [c1, c2] kk tp] Z.env = (false, eval (.Tuple [c1, c2] kk tp) Z.env) :: starEach [] Z.env := by rfl) (hs3 : starEach [c1, c2] Z.env = (false, eval c1 Z.env) :: starEach [c2] Z.env := by rfl) (hs4 : starEach [c2] Z.env = (false, eval c2 Z.env) :: starEach [] Z.env := by rfl) (hpl : (backTo pos (starEach [.Tuple [c1, c2] kk tp] Z.env)).any (·.1) = false := by rfl) :
    EV Z g W T He (.Call (.Name "isinstance" px) [e, .Tuple [c1, c2] kk tp] [] pos) (sIsi (fun d => match p1 d, p2 d with | some a, some b => some (a || b) | _, _ => none) f1) :=
  pe_w (pe_callB call_isiT hg hm (by decide +kernel) (pa_cons he (pa_cons (pe_tup (pa_cons h1 (pa_cons h2 pa_nil hs4) hs3)) pa_nil hs2) hs) (by decide) (by decide) hs hpl) fun σ H Q ⟨Γ, S, rl, w⟩ => by
    simp only [sIsi, M.wp_bind] at w
    refine rdE.use rl (M.wp_mono (fun x w v1 H1 e1 l1 x1 => ?_) w)
    cases hb : p1 x.toD with
    | none => rw [hb] at w; exact w.elim
    | some b =>
      cases hb2 : p2 x.toD with
      | none => rw [hb, hb2] at w; exact w.elim
      | some b2 =>
        rw [hb, hb2] at w
        refine ⟨by show 2 ≤ sizeLine; decide, fun q hq => ?_⟩
        have r := (x1.mono (l1.ext_new (o := .tup [cv1, cv2]) hq) l1.t).on
        refine ⟨v1, q, _, _, [u1, u2], b || b2, rfl, upd_same, .cons cl1 (.cons cl2 .nil), hK ▸ r.tyx tf (fun C fs e => hP C fs (by rw [← e, hb]; rfl)) (fun e => by rw [e, ik1.nf] at hb; cases hb) (fun j e => by rw [e, ik1.nj] at hb; cases hb) ⟨fun ks ds e => (by rw [e, ik1.nk.1] at hb; cases hb), fun ks ds e => (by rw [e, ik1.nk.2] at hb; cases hb)⟩, ?_, w _ _ (e1.trans (l1.ext_new hq)) (Rp.bl _)⟩
        rw [hK]
        refine kitAny_cons (ik1.ok _ _ hb) (fun e => ?_) (fun e => by rw [e]; rfl)
        rw [e]
        refine kitAny_cons (ik2.ok _ _ hb2) (fun e2 => ?_) (fun e2 => by rw [e2]; rfl)
        rw [e2]; exact kitAny_nil
/-- a class's constant -/
theorem ev_cval {C : Addr} {x : Str} {v : V} {d : D} {p : Pos} {f : Str} (hg : Gl Z x) (hx : Z.mg x = some (.ref C)) (hc : ∃ mc w, ClX.CRead Z.K C mc ∧ ClX.CVal Z.K C mc f v w) (r : AtR v d) (hdb : (x == ("__debug__" : Str)) = false := by decide)
    (hb : attributeBase (.Name x p) f Z.env (eval (.Name x p) Z.env) = eval (.Name x p) Z.env := by rfl) : EV Z g W T He (.Attribute (.Name x p) f pos) (sK d) := by
  obtain ⟨mc, w, h1, h2⟩ := hc
  exact pe_w (ClX.pe_cval (pe_glob (v := .ref C) hg hx rfl hdb) hb) fun σ H Q ⟨Γ, S, rl, q⟩ => ⟨C, mc, v, w, rfl, h1, h2, q v H rl.fok.refl (AtR.rp r)⟩
end
end G
namespace G
open PySem PySem.Spec L2
open PyProof.Rows hiding St
/-! ### what is walked -/
/-- in the heaps that ok names, J yields what stands for ds, one after another -/
structure ItOk (g : Cf) (ok : Hp → List Addr → Prop) (J : It) (ds : List D) : Prop where
  go : ∀ H U, ok H U → ∀ i d, ds[i]? = some d → J.go i H ∧ ∀ x H', J.yld i H x H' → Same H H' ∧ Rp g (off H' U) x d
  stop : ∀ H U, ok H U → J.stop ds.length H
section
variable {Z : Cx} {g : Cf} {W : XK} {T : List Addr} {He : Hp} {a b c : Expr} {f1 f2 f3 : Se X} {fs : Se (List X)} {pos p2 : Pos} {tg : Expr}
theorem it_lst {ok : Hp → List Addr → Prop} {ad : Addr} {vs : List V} {ds : List D} (h : ∀ H U, ok H U → SqL g.K H ad vs ∧ RpA g (off H U) vs ds) : ItOk g ok (Itl g.K ad) ds where
  go := fun H U q i d hd => by
    obtain ⟨h1, h2⟩ := h H U q
    obtain ⟨v, h3, h4⟩ := h2.get hd
    refine ⟨⟨vs, v, h1, h3⟩, fun x H' y => ?_⟩
    obtain ⟨rfl, y⟩ := y
    have := y vs h1
    rw [h3] at this; cases this
    exact ⟨Same.refl _, h4⟩
  stop := fun H U q => by
    obtain ⟨h1, h2⟩ := h H U q
    exact ⟨vs, h1, by rw [h2.length]; exact Nat.le_refl _⟩
theorem it_tup {ok : Hp → List Addr → Prop} {ad : Addr} {vs : List V} {ds : List D} (h : ∀ H U, ok H U → SqT g.K H ad vs ∧ RpA g (off H U) vs ds) : ItOk g ok (Itt g.K ad) ds where
  go := fun H U q i d hd => by
    obtain ⟨h1, h2⟩ := h H U q
    obtain ⟨v, h3, h4⟩ := h2.get hd
    refine ⟨⟨vs, v, h1, h3⟩, fun x H' y => ?_⟩
    obtain ⟨rfl, y⟩ := y
    have := y vs h1
    rw [h3] at this; cases this
    exact ⟨Same.refl _, h4⟩
  stop := fun H U q => by
    obtain ⟨h1, h2⟩ := h H U q
    exact ⟨vs, h1, by rw [h2.length]; exact Nat.le_refl _⟩
def enumL (i : Nat) : List D → List D
  | [] => []
  | d :: ds => .tup [.int i, d] :: enumL (i + 1) ds
theorem enumL_length : ∀ (ds : List D) (i : Nat), (enumL i ds).length = ds.length
  | [], _ => rfl
  | _ :: ds, i => congrArg Nat.succ (enumL_length ds (i + 1))
theorem enumL_get : ∀ {ds : List D} {k i : Nat} {d : D}, (enumL k ds)[i]? = some d → ∃ e, ds[i]? = some e ∧ d = .tup [.int ((k + i : Nat) : Int), e]
  | [], _, _, _, h => by simp [enumL] at h
  | e :: ds, k, 0, d, h => by
    simp only [enumL, List.getElem?_cons_zero, Option.some.injEq] at h
    exact ⟨e, rfl, h.symm⟩
  | e :: ds, k, i + 1, d, h => by
    simp only [enumL, List.getElem?_cons_succ] at h ⊢
    obtain ⟨e', h1, h2⟩ := enumL_get h
    exact ⟨e', h1, by rw [h2]; congr 4; omega⟩
theorem pair_new {H : Hp} {U : List Addr} {q : Addr} {i : Int} {v : V} {e : D} (hn : H q = none) (hu : ∀ b ∈ U, H b ≠ none) (r : Rp g (off H U) v e) : Rp g (off (upd H q (.tup [.int i, v])) U) (.ref q) (.tup [.int i, e]) :=
  .tup (SqT.of (by rw [off_ne fun z => hu q z hn]; exact upd_same)) (RpA.new (.cons (.int i) (.cons r .nil)) hn)
theorem it_enl {ok : Hp → List Addr → Prop} {ad : Addr} {vs : List V} {ds : List D} (h : ∀ H U, ok H U → SqL g.K H ad vs ∧ RpA g (off H U) vs ds ∧ ∀ b ∈ U, H b ≠ none) : ItOk g ok (Ite g.K ad) (enumL 0 ds) where
  go := fun H U q i d hd => by
    obtain ⟨h1, h2, hu⟩ := h H U q
    obtain ⟨e, h3, rfl⟩ := enumL_get hd
    obtain ⟨v, h4, h5⟩ := h2.get h3
    refine ⟨⟨vs, v, h1, h4⟩, fun x H' y => ?_⟩
    obtain ⟨p, x', rfl, hn, rfl, y⟩ := y
    have := y vs h1
    rw [h4] at this; cases this
    rw [Nat.zero_add]
    exact ⟨Same.newT hn, pair_new hn hu h5⟩
  stop := fun H U q => by
    obtain ⟨h1, h2, _⟩ := h H U q
    exact ⟨vs, h1, by rw [h2.length, enumL_length]; exact Nat.le_refl _⟩
theorem it_ent {ok : Hp → List Addr → Prop} {ad : Addr} {vs : List V} {ds : List D} (h : ∀ H U, ok H U → SqT g.K H ad vs ∧ RpA g (off H U) vs ds ∧ ∀ b ∈ U, H b ≠ none) : ItOk g ok (IteT g.K ad) (enumL 0 ds) where
  go := fun H U q i d hd => by
    obtain ⟨h1, h2, hu⟩ := h H U q
    obtain ⟨e, h3, rfl⟩ := enumL_get hd
    obtain ⟨v, h4, h5⟩ := h2.get h3
    refine ⟨⟨vs, v, h1, h4⟩, fun x H' y => ?_⟩
    obtain ⟨p, x', rfl, hn, rfl, y⟩ := y
    have := y vs h1
    rw [h4] at this; cases this
    rw [Nat.zero_add]
    exact ⟨Same.newT hn, pair_new hn hu h5⟩
  stop := fun H U q => by
    obtain ⟨h1, h2, _⟩ := h H U q
    exact ⟨vs, h1, by rw [h2.length, enumL_length]; exact Nat.le_refl _⟩
def rangeL (lo : Int) (n : Nat) : List D := (List.range n).map fun i => .int (lo + (i : Nat))
theorem it_rng {ok : Hp → List Addr → Prop} {lo : Int} {n : Nat} : ItOk g ok (Itr lo n) (rangeL lo n) where
  go := fun H U q i d hd => by
    unfold rangeL at hd
    rw [List.getElem?_map, Option.map_eq_some_iff] at hd
    obtain ⟨j, h1, rfl⟩ := hd
    obtain ⟨h2, h3⟩ := List.getElem?_eq_some_iff.mp h1
    simp at h2 h3
    subst h3
    exact ⟨h2, fun x H' y => by obtain ⟨rfl, rfl⟩ := y; exact ⟨Same.refl _, .int _⟩⟩
  stop := fun H U q => by
    unfold rangeL
    rw [List.length_map, List.length_range]
    exact Nat.le_refl n
def signL (z : Str) : List D := z.cps.toList.map fun c => .str (sgn c)
theorem it_str {ok : Hp → List Addr → Prop} {z : Str} (hz : PyData.strOk z = true) : ItOk g ok (Its z) (signL z) where
  go := fun H U q i d hd => by
    unfold signL at hd
    rw [List.getElem?_map, Option.map_eq_some_iff] at hd
    obtain ⟨c, h1, rfl⟩ := hd
    have h2 : z.cps[i]? = some c := by simpa using h1
    refine ⟨(Array.getElem?_eq_some_iff.mp h2).1, fun x H' y => ?_⟩
    obtain ⟨rfl, c', h3, rfl⟩ := y
    rw [h2] at h3; cases h3
    exact ⟨Same.refl _, .str _ (strOk_sgn hz (List.mem_of_getElem? h1))⟩
  stop := fun H U q => by
    unfold signL
    rw [List.length_map, Array.length_toList]
    exact Nat.le_refl z.cps.size
/-- a list or a tuple, by values -/
def iSq (K : PySem.W.Frag) (tl : TE) : TI := fun σ H R => tl σ H fun x H1 => ∃ a, x = .ref a ∧ (((∃ xs, SqL K H1 a xs) ∧ R (Itl K a) H1) ∨ ((∃ xs, SqT K H1 a xs) ∧ R (Itt K a) H1))
theorem pi_sq {l : Expr} {tl : TE} (hl : PE Z l tl) : PI Z tg l (iSq Z.K tl) := by
  refine ⟨fun pins s σ H R I h => ?_⟩
  refine thn (hl.run pins s σ H _ I h) fun v s1 ⟨x, H1, I1, r1, q1⟩ => ?_
  obtain ⟨a, e, ⟨⟨xs, hq⟩, q⟩ | ⟨⟨xs, hq⟩, q⟩⟩ := q1
  · subst e
    cases r1
    obtain ⟨its, rv, p, hz⟩ := I1.list hq
    refine wpAny_pyIter_list p.isList ?_
    refine ⟨s1.heap.objs.size, [s1.heap.objs.size], _, _, H1, rfl, I1.kept (t' := s1.toks) fun b o e => Heap.get?_push_of_some _ e, turn_list a _, ⟨_, Heap.get?_push_size _ rfl, rfl, rfl⟩, fun b hb => ?_, q⟩
    have e : b = s1.heap.objs.size := by simpa using hb
    subst e
    exact I1.fpOk (Nat.le_refl _) (I1.hok.fresh (Nat.le_refl _))
  · subst e
    cases r1
    obtain ⟨its, rv, p, hz⟩ := I1.tuple hq
    refine wpAny_pyIter_tuple (show s1.heap.IsTuple a its.toArray from p) ?_
    refine ⟨s1.heap.objs.size, [s1.heap.objs.size], _, _, H1, rfl, I1.kept (t' := s1.toks) fun b o e => Heap.get?_push_of_some _ e, turn_tuple a _, ⟨_, Heap.get?_push_size _ rfl, rfl, rfl⟩, fun b hb => ?_, q⟩
    have e : b = s1.heap.objs.size := by simpa using hb
    subst e
    exact I1.fpOk (Nat.le_refl _) (I1.hok.fresh (Nat.le_refl _))
theorem pi_w {l : Expr} {t t' : TI} (h : PI Z tg l t) (k : ∀ σ H R, t' σ H R → t σ H R) : PI Z tg l t' := ⟨fun pins s σ H R I q => h.run pins s σ H R I (k _ _ _ q)⟩
/-- the walk's heaps: in a comprehension nothing of the frame's own is written -/
def okC (g : Cf) (T S : List Addr) (H0 : Hp) : Hp → List Addr → Prop := fun H U => Ext g.fd H0 H ∧ Same (off H0 (T ++ S)) (off H U) ∧ ∀ b ∈ U, H b ≠ none
/-- in a loop the frame's own objects may change and grow -/
def okF (U0 : List Addr) (H0 : Hp) : Hp → List Addr → Prop := fun H U => Same (off H0 U0) (off H U) ∧ ∀ b ∈ U, H b ≠ none
/-- the items of a walk, and whether they hang on an own object -/
def rdI (g : Cf) (W : XK) (T : List Addr) (He : Hp) (f : Se (Bool × List D)) : TI := fun σ H R => ∃ Γ S, Rl g T He S H Γ σ ∧ (f Γ).wp (xp g W T He) fun p => ∀ J H', Ext g.fd H H' → ItOk g (okC g T S H') J p.2 → (p.1 = false → ItOk g (okF (T ++ S) H') J p.2) → R J H'
abbrev EI (Z : Cx) (g : Cf) (W : XK) (T : List Addr) (He : Hp) (tg e : Expr) (f : Se (Bool × List D)) : Prop := PI Z tg e (rdI g W T He f)
def itSq (x : X) : M (Bool × List D) := match x with
  | .p (.lst ds) => .ret (false, ds)
  | .p (.tup ds) => .ret (false, ds)
  | .c (.l ds) => .ret (false, ds)
  | .b (.l ds) => .ret (true, ds)
  | _ => .fail
def sSq (f : Se X) : Se (Bool × List D) := fun Γ => (f Γ).bind itSq
/-- what stands at a place that is not the frame's own stays -/
theorem okF_seqL {U0 U : List Addr} {H0 H : Hp} {ad : Addr} {vs : List V} {ds : List D} (q : okF U0 H0 H U) (h1 : off H0 U0 ad = some (.lst vs)) (h2 : RpA g (off H0 U0) vs ds) : SqL g.K H ad vs ∧ RpA g (off H U) vs ds :=
  ⟨SqL.of (off_same _ _ _ _ (q.1 _ _ h1)), RpA.mono q.1 _ h2⟩
theorem okF_seqT {U0 U : List Addr} {H0 H : Hp} {ad : Addr} {vs : List V} {ds : List D} (q : okF U0 H0 H U) (h1 : SqT g.K (off H0 U0) ad vs) (h2 : RpA g (off H0 U0) vs ds) : SqT g.K H ad vs ∧ RpA g (off H U) vs ds :=
  ⟨Same.seqTT (q.1.trans (off_same _ _)) h1, RpA.mono q.1 _ h2⟩
theorem okC_F {S : List Addr} {H0 H : Hp} {U : List Addr} (q : okC g T S H0 H U) : okF (T ++ S) H0 H U := q.2
theorem ei_sq {l : Expr} (hK : Z.K = g.K) (hl : EV Z g W T He l f1) : EI Z g W T He tg l (sSq f1) :=
  pi_w (hK ▸ pi_sq hl) fun σ H R ⟨Γ, S, rl, w⟩ => by
    simp only [sSq, M.wp_bind] at w
    refine rdE.use rl (M.wp_mono (fun x w v1 H1 e1 l1 x1 => ?_) w)
    unfold itSq at w
    split at w <;> first | exact w.elim | skip
    · cases x1 with
      | lst h1 h2 => exact ⟨_, rfl, .inl ⟨⟨_, SqL.of (off_same _ _ _ _ h1)⟩, w _ H1 e1 (it_lst fun H U q => okF_seqL (okC_F q) h1 h2) fun _ => it_lst fun H U q => okF_seqL q h1 h2⟩⟩
    · cases x1 with
      | tup h1 h2 => exact ⟨_, rfl, .inr ⟨⟨_, Same.seqTT (off_same _ _) h1⟩, w _ H1 e1 (it_tup fun H U q => okF_seqT (okC_F q) h1 h2) fun _ => it_tup fun H U q => okF_seqT q h1 h2⟩⟩
    · obtain ⟨ad, rfl, _, n, vs, h1, h2⟩ := x1
      have h1' : off H1 (T ++ S) ad = some (.lst vs) := by rw [off_ne n]; exact h1
      have h2' := RpA.mono (off_sub (H := H1) fun b hb => List.mem_cons_of_mem ad hb) _ h2
      exact ⟨_, rfl, .inl ⟨⟨_, SqL.of h1⟩, w _ H1 e1 (it_lst fun H U q => okF_seqL (okC_F q) h1' h2') fun _ => it_lst fun H U q => okF_seqL q h1' h2'⟩⟩
    · obtain ⟨ad, rfl, _, n, vs, h1, h2⟩ := x1
      exact ⟨_, rfl, .inl ⟨⟨_, SqL.of h1⟩, w _ H1 e1 (it_lst fun H U q => ⟨SqL.of (q.1.at l1.t n h1), RpA.mono q.2.1 _ h2⟩) fun z => (by cases z)⟩⟩
def sSg (f : Se X) : Se (Bool × List D) := fun Γ => (f Γ).bind fun x => match x.toD with | .str z => if z.length ≤ 100000 then .ret (false, signL z) else .fail | _ => .fail
theorem ei_str {l : Expr} (hl : EV Z g W T He l f1) : EI Z g W T He tg l (sSg f1) :=
  pi_w (pi_str hl) fun σ H R ⟨Γ, S, rl, w⟩ => by
    simp only [sSg, M.wp_bind] at w
    refine rdE.use rl (M.wp_mono (fun x w v1 H1 e1 l1 x1 => ?_) w)
    have q := x1.on
    cases hd : x.toD <;> rw [hd] at w q <;> first | exact w.elim | skip
    rename_i z
    simp only at w
    split at w
    · cases q with
      | str _ ok => exact ⟨z, rfl, w _ H1 e1 (it_str ok) fun _ => it_str ok⟩
    · exact w.elim
def sRg1 (f : Se (List X)) : Se (Bool × List D) := fun Γ => (f Γ).bind fun xs => match xs.map X.toD with
  | [.int j] => if -(2 ^ 62) ≤ j ∧ j < 2 ^ 62 then .ret (false, rangeL 0 j.toNat) else .fail
  | _ => .fail
def sRg2 (f : Se (List X)) : Se (Bool × List D) := fun Γ => (f Γ).bind fun xs => match xs.map X.toD with
  | [.int i, .int j] => if -(2 ^ 62) ≤ i ∧ i < 2 ^ 62 ∧ -(2 ^ 62) ≤ j ∧ j < 2 ^ 62 then .ret (false, rangeL i (j - i).toNat) else .fail
  | _ => .fail
theorem RpXs.on {S : List Addr} {H0 H : Hp} {vs : List V} {xs : List X} (r : RpXs g T S H0 H vs xs) : RpA g H vs (xs.map X.toD) := RpA.mono (off_same _ _) _ r.toD
theorem ei_rg1 {e : Expr} {p : Pos} (hg : Gl Z "range") (hm : Z.mg "range" = none) (ha : EA Z g W T He [e] fs) (hs : starEach [e] Z.env = [(false, eval e Z.env)] := by rfl) : EI Z g W T He tg (.Call (.Name "range" p) [e] [] pos) (sRg1 fs) :=
  pi_w (pi_range1 hg hm ha hs) fun σ H R ⟨Γ, S, rl, w⟩ => by
    simp only [sRg1, M.wp_bind] at w
    refine rdA.use rl (M.wp_mono (fun xs w vs H1 e1 l1 xx => ?_) w)
    have q := xx.on
    split at w <;> first | exact w.elim | skip
    rename_i j e
    rw [e] at q
    split at w
    · rename_i hj
      cases q with
      | cons h t => cases h; cases t; exact ⟨j, rfl, hj.1, hj.2, w _ H1 e1 it_rng fun _ => it_rng⟩
    · exact w.elim
theorem ei_rg2 {e e' : Expr} {p : Pos} (hg : Gl Z "range") (hm : Z.mg "range" = none) (ha : EA Z g W T He [e, e'] fs) (hs : starEach [e, e'] Z.env = [(false, eval e Z.env), (false, eval e' Z.env)] := by rfl) (hs2 : starEach [e'] Z.env = [(false, eval e' Z.env)] := by rfl) :
    EI Z g W T He tg (.Call (.Name "range" p) [e, e'] [] pos) (sRg2 fs) :=
  pi_w (pi_range2 hg hm ha hs hs2) fun σ H R ⟨Γ, S, rl, w⟩ => by
    simp only [sRg2, M.wp_bind] at w
    refine rdA.use rl (M.wp_mono (fun xs w vs H1 e1 l1 xx => ?_) w)
    have q := xx.on
    split at w <;> first | exact w.elim | skip
    rename_i i j e
    rw [e] at q
    split at w
    · rename_i hj
      cases q with
      | cons h t =>
        cases h
        cases t with
        | cons h t => cases h; cases t; exact ⟨i, j, rfl, hj, w _ H1 e1 it_rng fun _ => it_rng⟩
    · exact w.elim
/-! enumerate -/
def iEnS (K : PySem.W.Frag) (ta : TA) : TI := fun σ H R => ta σ H fun vs H1 => ∃ a xs, vs = [.ref a] ∧ ((SqL K H1 a xs ∧ R (Ite K a) H1) ∨ (SqT K H1 a xs ∧ R (IteT K a) H1))
theorem pi_enS {e : Expr} {ta : TA} {p tpos : Pos} {elts : List Expr} {kk : Nat} (hg : Gl Z "enumerate") (hm : Z.mg "enumerate" = none) (ha : PA Z [e] ta) (hs : starEach [e] Z.env = [(false, eval e Z.env)] := by rfl) :
    PI Z (.Tuple elts kk tpos) (.Call (.Name "enumerate" p) [e] [] pos) (iEnS Z.K ta) := by
  refine ⟨fun pins s σ H R I h => ?_⟩
  refine Call_ (ld_blt I hg hm boot_enumerate (PyProof.Rows.callWith_type1 (thn (ha.run pos pins s σ H _ I h) fun us s1 ⟨vs, H1, I1, r1, q1⟩ => ?_) hs rfl))
  obtain ⟨a, xs, ex, ⟨hq, q⟩ | ⟨hq, q⟩⟩ := q1
  · subst ex
    cases r1 with
    | cons r rr =>
      cases rr
      cases r
      obtain ⟨its, rv, p', hz⟩ := I1.list hq
      refine call_enumerate_list p'.isList fun h' he hit hsz hk => wpAny_pyIter_enum he ?_
      have I2 : Inv Z pins σ H1 { s1 with heap := h' } := I1.kept (t' := s1.toks) hk
      refine ⟨s1.heap.objs.size + 1, [s1.heap.objs.size + 1, s1.heap.objs.size], _, _, H1, rfl, I2, turn_enum a (s1.heap.objs.size + 1) s1.heap.objs.size, ⟨⟨.none, he⟩, hit, Nat.succ_ne_self _⟩, fun b hb => ?_, q⟩
      have e' : b = s1.heap.objs.size + 1 ∨ b = s1.heap.objs.size := by simpa using hb
      have hle : s1.heap.objs.size ≤ b := by
        rcases e' with z | z
        · rw [z]; exact Nat.le_add_right _ _
        · rw [z]; exact Nat.le_refl _
      exact I1.fpOk hle (I1.hok.fresh hle)
  · subst ex
    cases r1 with
    | cons r rr =>
      cases rr
      cases r
      obtain ⟨its, rv, p', hz⟩ := I1.tuple hq
      have pT : s1.heap.IsTuple a its.toArray := p'
      have hla : a < s1.heap.objs.size := by obtain ⟨_, q, _⟩ := pT; exact Heap.lt_size q
      refine enum_begins1 (begins_tuple a its.toArray) pT fun h' he hit hsz hk => wpAny_pyIter_enum he ?_
      have I2 : Inv Z pins σ H1 { s1 with heap := h' } := I1.kept (t' := s1.toks) hk
      refine ⟨s1.heap.objs.size + 1, [s1.heap.objs.size + 1, s1.heap.objs.size], _, _, H1, rfl, I2, turn_enumT a (s1.heap.objs.size + 1) s1.heap.objs.size (Nat.ne_of_lt hla) (Nat.ne_of_lt (Nat.lt_succ_of_lt hla)), ⟨⟨.none, he⟩, ⟨_, hit, rfl, rfl⟩, Nat.succ_ne_self _⟩, fun b hb => ?_, q⟩
      have e' : b = s1.heap.objs.size + 1 ∨ b = s1.heap.objs.size := by simpa using hb
      have hle : s1.heap.objs.size ≤ b := by
        rcases e' with z | z
        · rw [z]; exact Nat.le_add_right _ _
        · rw [z]; exact Nat.le_refl _
      exact I1.fpOk hle (I1.hok.fresh hle)
def sEn (f : Se X) : Se (Bool × List D) := fun Γ => (f Γ).bind fun x => (itSq x).bind fun p => .ret (p.1, enumL 0 p.2)
theorem ei_en {e : Expr} {p tpos : Pos} {elts : List Expr} {kk : Nat} (hK : Z.K = g.K) (hg : Gl Z "enumerate") (hm : Z.mg "enumerate" = none) (he : EV Z g W T He e f1) (hs : starEach [e] Z.env = [(false, eval e Z.env)] := by rfl) :
    EI Z g W T He (.Tuple elts kk tpos) (.Call (.Name "enumerate" p) [e] [] pos) (sEn f1) :=
  pi_w (hK ▸ pi_enS hg hm (pa_cons he pa_nil hs) hs) fun σ H R ⟨Γ, S, rl, w⟩ => by
    simp only [sEn, M.wp_bind, M.wp_ret] at w
    refine rdE.use rl (M.wp_mono (fun x w v1 H1 e1 l1 x1 => ?_) w)
    unfold itSq at w
    split at w <;> first | exact w.elim | skip
    · cases x1 with
      | lst h1 h2 => exact ⟨_, _, rfl, .inl ⟨SqL.of (off_same _ _ _ _ h1), w _ H1 e1 (it_enl fun H U q => let ⟨z1, z2⟩ := okF_seqL (okC_F q) h1 h2; ⟨z1, z2, q.2.2⟩) fun _ => it_enl fun H U q => let ⟨z1, z2⟩ := okF_seqL q h1 h2; ⟨z1, z2, q.2⟩⟩⟩
    · cases x1 with
      | tup h1 h2 => exact ⟨_, _, rfl, .inr ⟨Same.seqTT (off_same _ _) h1, w _ H1 e1 (it_ent fun H U q => let ⟨z1, z2⟩ := okF_seqT (okC_F q) h1 h2; ⟨z1, z2, q.2.2⟩) fun _ => it_ent fun H U q => let ⟨z1, z2⟩ := okF_seqT q h1 h2; ⟨z1, z2, q.2⟩⟩⟩
    · obtain ⟨ad, rfl, _, n, vs, h1, h2⟩ := x1
      have h1' : off H1 (T ++ S) ad = some (.lst vs) := by rw [off_ne n]; exact h1
      have h2' := RpA.mono (off_sub (H := H1) fun b hb => List.mem_cons_of_mem ad hb) _ h2
      exact ⟨_, _, rfl, .inl ⟨SqL.of h1, w _ H1 e1 (it_enl fun H U q => let ⟨z1, z2⟩ := okF_seqL (okC_F q) h1' h2'; ⟨z1, z2, q.2.2⟩) fun _ => it_enl fun H U q => let ⟨z1, z2⟩ := okF_seqL q h1' h2'; ⟨z1, z2, q.2⟩⟩⟩
    · obtain ⟨ad, rfl, _, n, vs, h1, h2⟩ := x1
      exact ⟨_, _, rfl, .inl ⟨SqL.of h1, w _ H1 e1 (it_enl fun H U q => ⟨SqL.of (q.1.at l1.t n h1), RpA.mono q.2.1 _ h2, q.2.2⟩) fun z => (by cases z)⟩⟩
/-! ### targets -/
inductive Tg where
  | n (i : Nat) | t (is : List Nat)
def Tg.asg : Tg → D → Option (List (Nat × D))
  | .n i, d => some [(i, d)]
  | .t is, .tup ds => if is.length = ds.length then some (is.zip ds) else none
  | _, _ => none
def setG (Γ : List Sl) : List (Nat × D) → List Sl
  | [] => Γ
  | (i, d) :: as => setG (Γ.set i (.v d)) as
def setS (σ : St) : List (Nat × V) → St
  | [] => σ
  | (i, v) :: ws => setS (σ.set i (some v)) ws
theorem Rl.setAll {S : List Addr} {H : Hp} : ∀ {as : List (Nat × D)} {ws : List (Nat × V)} {Γ : List Sl} {σ : St}, Rl g T He S H Γ σ → (∀ i ∈ as.map Prod.fst, g.ok0 i) → ws.map Prod.fst = as.map Prod.fst → RpA g (off H (T ++ S)) (ws.map Prod.snd) (as.map Prod.snd) → Rl g T He S H (setG Γ as) (setS σ ws)
  | [], [], _, _, r, _, _, _ => r
  | [], _ :: _, _, _, _, _, e, _ => by cases e
  | _ :: _, [], _, _, _, _, e, _ => by cases e
  | (i, d) :: as, (j, v) :: ws, Γ, σ, r, z, e, q => by
    simp only [List.map_cons, List.cons.injEq] at e
    obtain ⟨rfl, e⟩ := e
    cases q with
    | cons h t =>
      show Rl g T He S H (setG (Γ.set _ (.v d)) as) (setS (σ.set _ (some v)) ws)
      exact Rl.setAll (r.set_v (z _ List.mem_cons_self) h) (fun i hi => z i (List.mem_cons_of_mem _ hi)) e t
def rdG (g : Cf) (T : List Addr) (He : Hp) (tgt : Tg) : TG := fun v σ H Q => ∃ Γ S d as, Rl g T He S H Γ σ ∧ Rp g (off H (T ++ S)) v d ∧ tgt.asg d = some as ∧ ∀ ws : List (Nat × V), ws.map Prod.fst = as.map Prod.fst → Rl g T He S H (setG Γ as) (setS σ ws) → Q (setS σ ws) H
abbrev EG (Z : Cx) (g : Cf) (T : List Addr) (He : Hp) (e : Expr) (t : Tg) : Prop := PG Z e (rdG g T He t)
theorem pg_w {l : Expr} {t t' : TG} (h : PG Z l t) (k : ∀ v σ H R, t' v σ H R → t v σ H R) : PG Z l t' := ⟨fun pins s σ H v u Q I r q => h.run pins s σ H v u Q I r (k _ _ _ _ q)⟩
theorem eg_n {i : Nat} {x : Str} (h0 : g.ok0 i) (hN : Z.N.Nodup) (hi : Z.N[i]? = some x) (hx : Loc Z.env.scope x) (hf : Z.fn x = true ∨ Z.env.scope.names.lookup x = some .local := by first | exact .inl rfl | exact .inr rfl | assumption) : EG Z g T He (.Name x pos) (.n i) :=
  pg_w (pg_name hN hi hx hf) fun v σ H Q ⟨Γ, S, d, as, rl, r, e, q⟩ => by
    simp only [Tg.asg, Option.some.injEq] at e
    subst e
    exact q [(i, v)] rfl (rl.setAll (ws := [(i, v)]) (fun j hj => by simp only [List.map_cons, List.map_nil, List.mem_singleton] at hj; rw [hj]; exact h0) rfl (.cons r .nil))
def gNames (is : List Nat) : TGs := fun vs σ H Q => vs.length = is.length ∧ Q (setS σ (is.zip vs)) H
theorem egs_nil : PGs Z [] (gNames []) := ⟨fun pins s σ H vs us Q I r h => pgs_nil.run pins s σ H vs us Q I r (by
  obtain ⟨h1, h2⟩ := h
  cases vs with
  | nil => exact ⟨rfl, h2⟩
  | cons _ _ => cases h1)⟩
theorem egs_cons {i : Nat} {is : List Nat} {x : Str} {es : List Expr} (hN : Z.N.Nodup) (hi : Z.N[i]? = some x) (hx : Loc Z.env.scope x) (h : PGs Z es (gNames is)) (hf : Z.fn x = true ∨ Z.env.scope.names.lookup x = some .local := by first | exact .inl rfl | exact .inr rfl | assumption)
    (hs : (assignEach (.Name x pos :: es) Z.env).map (·.2) = assign (.Name x pos) Z.env :: (assignEach es Z.env).map (·.2) := by rfl) : PGs Z (.Name x pos :: es) (gNames (i :: is)) :=
  ⟨fun pins s σ H vs us Q I r q => (pgs_cons (pg_name hN hi hx hf) h hs).run pins s σ H vs us Q I r (by
    obtain ⟨h1, h2⟩ := q
    cases vs with
    | nil => cases h1
    | cons v vs => exact ⟨v, vs, rfl, by simpa using h1, h2⟩)⟩
theorem eg_t {es : List Expr} {k : Nat} {is : List Nat} (h0 : ∀ i ∈ is, g.ok0 i) (hK : Z.K = g.K) (hc : Z.calm = true) (h : PGs Z es (gNames is)) (hn : (assignEach es Z.env).length = is.length := by rfl) (hst : (assignEach es Z.env).findIdx? (·.1) = none := by rfl) : EG Z g T He (.Tuple es k pos) (.t is) :=
  pg_w (pg_tup hc h hn hst) fun v σ H Q ⟨Γ, S, d, as, rl, r, e, q⟩ => by
    cases d <;> first | (simp only [Tg.asg] at e; cases e; done) | skip
    rename_i ds
    simp only [Tg.asg] at e
    split at e
    · rename_i hl
      cases e
      cases r with
      | @tup a vs _ h1 h2 =>
        have l := h2.length
        refine ⟨a, vs, rfl, hK ▸ Same.seqTT (off_same _ _) h1, by omega, by omega, ?_⟩
        have e1 : (is.zip vs).map Prod.fst = is := by rw [List.map_fst_zip]; omega
        have e2 : (is.zip ds).map Prod.fst = is := by rw [List.map_fst_zip]; omega
        have e3 : (is.zip vs).map Prod.snd = vs := by rw [List.map_snd_zip]; omega
        have e4 : (is.zip ds).map Prod.snd = ds := by rw [List.map_snd_zip]; omega
        exact q (is.zip vs) (e1.trans e2.symm) (rl.setAll (by rw [e2]; exact h0) (e1.trans e2.symm) (by rw [e3, e4]; exact h2))
    · cases e
/-! ### comprehensions -/
def wipeG (Γ : List Sl) : List Nat → List Sl
  | [] => Γ
  | v :: vs => (wipeG Γ vs).set v .no
theorem Rl.forget {S : List Addr} {H : Hp} {Γ : List Sl} {σ : St} {i : Nat} (r : Rl g T He S H Γ σ) (h0 : g.ok0 i) : Rl g T He S H (Γ.set i .no) (σ.set i none) where
  len := by rw [List.length_set, List.length_set]; exact r.len
  sl := fun j s e => by
    by_cases q : i = j
    · subst q
      have hi : i < Γ.length := by
        have := (List.getElem?_eq_some_iff.mp e).1
        simpa using this
      rw [List.getElem?_set_self hi] at e
      cases e
      trivial
    · rw [List.getElem?_set_ne q] at e ⊢
      exact r.sl j s e
  ne := fun j k o o' a h1 h2 h3 h4 => by
    have nj : i ≠ j := fun q => by
      subst q
      have hi : i < Γ.length := by have := (List.getElem?_eq_some_iff.mp h1).1; simpa using this
      rw [List.getElem?_set_self hi] at h1; cases h1
    have nk : i ≠ k := fun q => by
      subst q
      have hi : i < Γ.length := by have := (List.getElem?_eq_some_iff.mp h2).1; simpa using this
      rw [List.getElem?_set_self hi] at h2; cases h2
    rw [List.getElem?_set_ne nj] at h1 h3
    rw [List.getElem?_set_ne nk] at h2 h4
    exact r.ne j k o o' a h1 h2 h3 h4
  tk := r.tk
  nw := r.nw
  ft := r.ft
  tt := r.tt
  ex := r.ex
  s0 := s0_set h0 r.s0
theorem Rl.wipe {S : List Addr} {H : Hp} {Γ : List Sl} {σ : St} (r : Rl g T He S H Γ σ) : ∀ vs : List Nat, (∀ i ∈ vs, g.ok0 i) → Rl g T He S H (wipeG Γ vs) (L2.wipe σ vs)
  | [], _ => r
  | v :: vs, h => (r.wipe vs fun i hi => h i (List.mem_cons_of_mem _ hi)).forget (h v List.mem_cons_self)
theorem Rl.more {S : List Addr} {H : Hp} {Γ : List Sl} {σ : St} {d : Addr} (r : Rl g T He S H Γ σ) (hn : H d = none) (o : HO) (ho : ∀ φ, o ≠ .ext φ) : Rl g T He (d :: S) (upd H d o) Γ σ := by
  have ex := r.ext_new (o := o) hn
  have t' : ∀ p, g.fd.mv p → p ∈ T ++ (d :: S) := fun p h => List.mem_append_left _ (r.t p h)
  have sm : Same (off H (T ++ S)) (off (upd H d o) (T ++ (d :: S))) := (off_free hn).trans (ex.off t')
  refine ⟨r.len, fun i s h => ?_, r.ne, fun b hb => ?_, fun b hb => ?_, r.ft, r.tt, r.ex.trans ex, r.s0⟩
  · have q := r.sl i s h
    cases s with
    | no => trivial
    | v e => obtain ⟨v, h1, h2⟩ := q; exact ⟨v, h1, h2.mono sm⟩
    | c o' => obtain ⟨a, h1, h2, h3⟩ := q; exact ⟨a, h1, List.mem_cons_of_mem _ h2, h3.mono (fun o' h => ex.at r.t (r.nT h2) h) sm⟩
  · rcases List.mem_cons.mp hb with rfl | hb
    · exact ⟨o, upd_same, fun c q => ho _⟩
    · exact (r.mono ex).tk b hb
  · rcases List.mem_cons.mp hb with rfl | hb
    · exact r.ex.free hn fun h => r.okd.tk h hn
    · exact r.nw b hb
theorem wipe_get {σ σ' : St} (hl : σ.length = σ'.length) : ∀ {vs : List Nat}, (∀ i, i ∉ vs → σ[i]? = σ'[i]?) → L2.wipe σ vs = L2.wipe σ' vs := fun {vs} h => by
  have key : ∀ (τ : St) (us : List Nat) (i : Nat), (L2.wipe τ us)[i]? = if i ∈ us then (if i < τ.length then some none else none) else τ[i]? := by
    intro τ us
    induction us with
    | nil => intro i; simp [L2.wipe]
    | cons u us ih =>
      intro i
      unfold L2.wipe
      by_cases q : u = i
      · subst q
        simp only [List.mem_cons, true_or, if_true]
        by_cases z : u < τ.length
        · rw [List.getElem?_set_self (by rw [wipe_length]; exact z), if_pos z]
        · rw [List.getElem?_eq_none (by rw [List.length_set, wipe_length]; omega), if_neg z]
      · rw [List.getElem?_set_ne q, ih]
        have : (i ∈ u :: us) ↔ i ∈ us := by simp only [List.mem_cons]; exact ⟨fun h => h.elim (fun e => absurd e.symm q) id, .inr⟩
        simp only [this]
  apply List.ext_getElem?
  intro i
  rw [key, key, hl]
  by_cases q : i ∈ vs
  · rw [if_pos q, if_pos q]
  · rw [if_neg q, if_neg q]; exact h i q
theorem setS_out : ∀ {ws : List (Nat × V)} {σ : St} {i : Nat}, i ∉ ws.map Prod.fst → (setS σ ws)[i]? = σ[i]?
  | [], _, _, _ => rfl
  | (j, v) :: ws, σ, i, h => by
    simp only [List.map_cons, List.mem_cons, not_or] at h
    show (setS (σ.set j (some v)) ws)[i]? = _
    rw [setS_out h.2, List.getElem?_set_ne (Ne.symm h.1)]
theorem setS_len : ∀ {ws : List (Nat × V)} {σ : St}, (setS σ ws).length = σ.length
  | [], _ => rfl
  | (j, v) :: ws, σ => by
    show (setS (σ.set j (some v)) ws).length = _
    rw [setS_len, List.length_set]
theorem wipe_idem {σ : St} {vs : List Nat} {ws : List (Nat × V)} (h : ∀ i ∈ ws.map Prod.fst, i ∈ vs) : L2.wipe (setS (L2.wipe σ vs) ws) vs = L2.wipe σ vs := by
  have e1 : L2.wipe (setS (L2.wipe σ vs) ws) vs = L2.wipe (L2.wipe σ vs) vs := wipe_get (by rw [setS_len]) fun i hi => setS_out fun z => hi (h i z)
  have e2 : L2.wipe (L2.wipe σ vs) vs = L2.wipe σ vs := wipe_get (by rw [wipe_length]) fun i hi => by
    have key : ∀ (us : List Nat), i ∉ us → (L2.wipe σ us)[i]? = σ[i]? := by
      intro us
      induction us with
      | nil => intro _; rfl
      | cons u us ih =>
        intro hu
        simp only [List.mem_cons, not_or] at hu
        unfold L2.wipe
        rw [List.getElem?_set_ne (Ne.symm hu.1), ih hu.2]
    exact key vs hi
  exact e1.trans e2
def mapC (tgt : Tg) (vs : List Nat) (tt : Se Bool) (te : Se X) (Γ : List Sl) : List D → M (List D)
  | [] => .ret []
  | d :: ds => match tgt.asg d with
    | none => .fail
    | some as => (tt (setG (wipeG Γ vs) as)).cut.bind fun b => if b then (te (setG (wipeG Γ vs) as)).cut.bind fun x => if x.tn then .fail else (mapC tgt vs tt te Γ ds).bind fun r => .ret (x.toD :: r)
        else mapC tgt vs tt te Γ ds
def sLc (fi : Se (Bool × List D)) (tgt : Tg) (vs : List Nat) (tt : Se Bool) (te : Se X) : Se X := fun Γ => (fi Γ).bind fun p => if p.2.length ≤ 100000 then (mapC tgt vs tt te Γ p.2).bind fun r => .ret (.c (.l r)) else .fail
def Tg.slots : Tg → List Nat
  | .n i => [i]
  | .t is => is
theorem Tg.asg_slots {t : Tg} {d : D} {as : List (Nat × D)} (h : t.asg d = some as) : as.map Prod.fst = t.slots := by
  cases t with
  | n i => simp only [Tg.asg, Option.some.injEq] at h; subst h; rfl
  | t is =>
    cases d <;> first | (simp only [Tg.asg] at h; cases h; done) | skip
    simp only [Tg.asg] at h
    split at h
    · cases h; rw [List.map_fst_zip]; rfl; omega
    · cases h
def tYesB : Se Bool := fun _ => .ret true
theorem rdLc {fi : Se (Bool × List D)} {tgt : Tg} {vs : List Nat} {tt : Se Bool} {te : Se X} {σ : St} {H : Hp} {Q : VK} (h0 : ∀ i ∈ vs, g.ok0 i) (hv : ∀ i ∈ tgt.slots, i ∈ vs) (h : rdE g W T He (sLc fi tgt vs tt te) σ H Q) : tLc (rdI g W T He fi) (rdG g T He tgt) (rdT g XN T He tt) (rdE g XN T He te) vs σ H Q := by
  obtain ⟨Γ, S, rl, w⟩ := h
  simp only [sLc, M.wp_bind] at w
  refine ⟨Γ, S, rl, M.wp_mono (fun p w J H1 e1 itc _ D hD => ?_) w⟩
  split at w
  rotate_left
  · exact w.elim
  rename_i hz
  simp only [M.wp_bind, M.wp_ret] at w
  have l1 := rl.mono e1
  have nTS : D ∉ T ++ S := l1.freeTS hD
  have nfd : ¬ g.fd.mv D := fun h => nTS (List.mem_append_left _ (l1.t D h))
  have nl : ∀ p l, g.fd.f = some (p, l) → l ≠ D := fun p l hp z => (l1.feed hp).tkl (by rw [z]; exact hD)
  have ok : ∀ {H2 : Hp}, Ext g.fd H1 H2 → H2 D ≠ none → okC g T S H1 H2 (T ++ (D :: S)) := fun {H2} e hd => ⟨e, (off_free hD).trans (e.off fun p h => List.mem_append_left _ (l1.t p h)), fun b hb => by
    rcases List.mem_append.mp hb with z | z
    · exact (l1.mono e).tkT z
    · rcases List.mem_cons.mp z with rfl | z
      · exact hd
      · exact ((l1.mono e).tk b z).ne⟩
  refine ⟨fun i m H2 => m = p.2.length - i ∧ i ≤ p.2.length ∧ Ext g.fd H1 H2 ∧ Rl g T He (D :: S) H2 Γ σ ∧ ∃ vacc acc, H2 D = some (.lst vacc) ∧ RpA g (off H2 (T ++ (D :: S))) vacc acc ∧ acc.length ≤ i ∧
      (mapC tgt vs tt te Γ (p.2.drop i)).wp (xp g W T He) fun r => ∀ v H', Ext g.fd H H' → RpX g T S H H' v (.c (.l (acc ++ r))) → Q v H', ⟨p.2.length, by simp, Nat.zero_le _, l1.ext_new hD, l1.more hD _ (fun φ z => by cases z), [], [], upd_same, .nil, Nat.le_refl _, by simpa using w⟩, ?_⟩
  rintro i m H2 ⟨rfl, hi, e2, l2, vacc, acc, hD2, hacc, hlen, w2⟩
  by_cases hlt : i < p.2.length
  · obtain ⟨d, hd⟩ : ∃ d, p.2[i]? = some d := ⟨p.2[i], by simp [hlt]⟩
    obtain ⟨g1, g2⟩ := itc.go H2 _ (ok e2 (by rw [hD2]; intro z; cases z)) i d hd
    refine .inr ⟨g1, fun H' => Ext g.fd H1 H' ∧ Rl g T He (D :: S) H' Γ σ ∧ ∃ vacc acc, H' D = some (.lst vacc) ∧ RpA g (off H' (T ++ (D :: S))) vacc acc ∧ acc.length ≤ i + 1 ∧
      (mapC tgt vs tt te Γ (p.2.drop (i + 1))).wp (xp g W T He) fun r => ∀ v H', Ext g.fd H H' → RpX g T S H H' v (.c (.l (acc ++ r))) → Q v H', fun H' h => ⟨p.2.length - (i + 1), by omega, rfl, hlt, h⟩, fun x H3 y => ?_⟩
    obtain ⟨s3, r3⟩ := g2 x H3 y
    have e3 : Ext g.fd H2 H3 := l2.same s3
    have l3 := l2.mono e3
    rw [List.drop_eq_getElem_cons hlt] at w2
    have ed : p.2[i] = d := by rw [List.getElem?_eq_getElem hlt] at hd; exact Option.some.inj hd
    rw [ed] at w2
    simp only [mapC] at w2
    cases ha : tgt.asg d with
    | none => rw [ha] at w2; exact w2.elim
    | some as =>
      rw [ha] at w2
      simp only [M.wp_bind] at w2
      refine ⟨wipeG Γ vs, D :: S, d, as, l3.wipe vs h0, r3, ha, fun ws hws l4 => ⟨wipe_idem fun i hi => hv i (by rw [hws, Tg.asg_slots ha] at hi; exact hi), ?_⟩⟩
      refine ⟨_, D :: S, l4, M.cut_wp (M.wp_mono (fun b w3 H4 e4 => ?_) w2)⟩
      have nD : D ∉ T := fun z => nTS (List.mem_append_left _ z)
      have keep : ∀ {Ha Hb : Hp} {o : HO}, Ext g.fd Ha Hb → Ha D = some o → Hb D = some o := fun e h => e.at l1.t nD h
      have t' : ∀ p, g.fd.mv p → p ∈ T ++ (D :: S) := fun p h => List.mem_append_left _ (l1.t p h)
      cases b with
      | false =>
        simp only [Bool.false_eq_true, ↓reduceIte] at w3 ⊢
        have e24 := e3.trans e4
        exact ⟨e2.trans e24, l2.mono e24, vacc, acc, keep e24 hD2, RpA.mono (e24.off t') _ hacc, by omega, w3⟩
      | true =>
        simp only [↓reduceIte, M.wp_bind] at w3 ⊢
        refine rdE.use (l4.mono e4) (M.cut_wp (M.wp_mono (fun x w4 y H5 e5 l5 x5 => ?_) w3))
        have e25 := (e3.trans e4).trans e5
        split at w4
        · exact w4.elim
        rename_i htn
        have ry := x5.toD' (by simpa using htn)
        have hD5 := keep e25 hD2
        have hacc5 := RpA.mono (e25.off t') _ hacc
        have mem : D ∈ T ++ (D :: S) := List.mem_append_right _ List.mem_cons_self
        refine ⟨vacc, hD5, Nat.lt_of_le_of_lt (by rw [hacc.length]; omega : vacc.length ≤ 100000) (by decide), ?_, ?_, vacc ++ [y], acc ++ [x.toD], upd_same, by rw [off_upd mem]; exact hacc5.append (.cons ry .nil), by rw [List.length_append]; show acc.length + 1 ≤ i + 1; omega, ?_⟩
        · refine ⟨fun b o n hb => ?_, (e2.trans e25).2.put nfd nl (noCode hD5 fun f z => by cases z)⟩
          have nb : b ≠ D := fun z => by rw [z, hD] at hb; cases hb
          rw [upd_ne nb]
          exact (e2.trans e25).1 b o n hb
        · have l5' := l2.mono e25
          refine ⟨l5'.len, fun j s h => ?_, l5'.ne, fun b hb => ?_, l5'.nw, l5'.ft, l5'.tt, ?_, l5'.s0⟩
          · have q := l5'.sl j s h
            cases s with
            | no => trivial
            | v e => obtain ⟨v, q1, q2⟩ := q; exact ⟨v, q1, by rw [off_upd mem]; exact q2⟩
            | c o' =>
              obtain ⟨a, q1, q2, q3⟩ := q
              have na : a ≠ D := fun z => by
                obtain ⟨a', q1', q2', _⟩ := l1.sl j _ h
                rw [q1] at q1'
                cases q1'
                exact nTS (List.mem_append_right _ (z ▸ q2'))
              exact ⟨a, q1, q2, q3.mono (fun o h => by rw [upd_ne na]; exact h) (by rw [off_upd mem]; exact Same.refl _)⟩
          · by_cases z : b = D
            · rw [z]; exact ⟨_, upd_same, fun c q z => by cases z⟩
            · obtain ⟨u, q, n⟩ := l5'.tk b hb
              exact ⟨u, by rw [upd_ne z]; exact q, n⟩
          · refine ⟨fun b o n hb => ?_, (e2.trans e25).2.put nfd nl (noCode hD5 fun f z => by cases z)⟩
            have nb : b ≠ D := fun z => by
              rw [z, l2.nw D List.mem_cons_self] at hb; cases hb
            rw [upd_ne nb]
            exact l5'.ex.1 b o n hb
        · simp only [M.wp_bind, M.wp_ret] at w4
          refine M.wp_mono (fun r q v H' e h => q v H' e ?_) w4
          rw [List.append_assoc] at h
          exact h
  · have e : i = p.2.length := by omega
    subst e
    refine .inl ⟨itc.stop H2 _ (ok e2 (by rw [hD2]; intro z; cases z)), ?_⟩
    rw [List.drop_length] at w2
    simp only [mapC, M.wp_ret, List.append_nil] at w2
    refine w2 _ H2 (e1.trans e2) ⟨D, rfl, e1.free hD nfd, nTS, vacc, hD2, RpA.mono (off_sub fun b hb => mem_mid.mp hb) _ hacc⟩
theorem ev_lc {elt iter : Expr} {ifs : List Expr} {scope : Scope} {own : List (Str × Nat)} {fi : Se (Bool × List D)} {tgt : Tg} {tt : Se Bool} {te : Se X} (hc : Z.calm = true) (hN : Z.N.Nodup) (hi : EI Z g W T He tg iter fi) (ok : BlkOk Z.N Z.env.scope scope own) (h0 : ∀ i ∈ own.map (·.2), g.ok0 i) (hv : ∀ i ∈ tgt.slots, i ∈ own.map (·.2))
    (hg : ∀ (s : Shared) (H : Hp) (C : Addr) (cl : List (Str × Addr)) (fp : List Addr), EG (Z.blk s H scope (compEnvC scope cl C Z.env) fp) g T He tg tgt) (ht : ∀ (s : Shared) (H : Hp) (C : Addr) (cl : List (Str × Addr)) (fp : List Addr), PTs (Z.blk s H scope (compEnvC scope cl C Z.env) fp) ifs (rdT g XN T He tt))
    (he : ∀ (s : Shared) (H : Hp) (C : Addr) (cl : List (Str × Addr)) (fp : List Addr), EV (Z.blk s H scope (compEnvC scope cl C Z.env) fp) g XN T He elt te) (hs : ∀ x, foldedSetIterable iter Z.env x = pure x := by intro _; rfl) :
    EV Z g W T He (.ListComp elt [⟨tg, iter, ifs, 0⟩] scope pos) (sLc fi tgt (own.map (·.2)) tt te) :=
  pe_w (pe_lc hc hN hi ok hg ht he hs) fun _ _ _ h => rdLc h0 hv h
theorem ets_nil : PTs Z [] (rdT g W T He tYesB) := ⟨fun pins s σ H Q I ⟨Γ, S, rl, w⟩ => pts_nil.run pins s σ H Q I (w H rl.fok.refl)⟩
theorem ets_one {c : Expr} {t : Se Bool} (h : EB Z g W T He c t) : PTs Z [c] (rdT g W T He t) := pts_one h
end
end G
namespace G
open PySem PySem.Spec L2
open PyProof.Rows hiding St
/-! ### statements -/
inductive Fl where
  | nx | bk | ct | rt (z : R)
abbrev Sst := List Sl → M (Fl × List Sl)
def FrS (T S : List Addr) (H : Hp) (S' : List Addr) (H' : Hp) : Prop := Same (off H (T ++ S)) (off H' (T ++ S'))
def SPost (g : Cf) (T : List Addr) (He : Hp) (D : Ends) (S : List Addr) (H : Hp) (p : Fl × List Sl) : Prop :=
  match p.1 with
  | .nx => ∀ σ' S' H', Rl g T He S' H' p.2 σ' → FrS T S H S' H' → D.nx σ' H'
  | .bk => ∀ σ' S' H', Rl g T He S' H' p.2 σ' → FrS T S H S' H' → D.bk σ' H'
  | .ct => ∀ σ' S' H', Rl g T He S' H' p.2 σ' → FrS T S H S' H' → D.ct σ' H'
  | .rt z => ∀ v H', Ext g.fd He H' → RpR g T He H' v z → D.rt v H'
def rdS (g : Cf) (W : XK) (T : List Addr) (He : Hp) (f : Sst) : L2.TS := fun D σ H => ∃ Γ S, Rl g T He S H Γ σ ∧ (f Γ).wp (xp g W T He) (SPost g T He D S H)
abbrev ES (Z : Cx) (g : Cf) (W : XK) (T : List Addr) (He : Hp) (st : Stmt) (f : Sst) : Prop := PS Z st (rdS g W T He f)
abbrev ESs (Z : Cx) (g : Cf) (W : XK) (T : List Addr) (He : Hp) (st : List Stmt) (f : Sst) : Prop := PSs Z st (rdS g W T He f)
theorem ps_w {Z : Cx} {st : Stmt} {t t' : L2.TS} (h : PS Z st t) (k : ∀ D σ H, t' D σ H → t D σ H) : PS Z st t' := ⟨fun pins s σ H D I q => h.run pins s σ H D I (k _ _ _ q)⟩
theorem pss_w {Z : Cx} {st : List Stmt} {t t' : L2.TS} (h : PSs Z st t) (k : ∀ D σ H, t' D σ H → t D σ H) : PSs Z st t' := ⟨fun pins s σ H D I q => h.run pins s σ H D I (k _ _ _ q)⟩
/-- effects: a value and the names behind it -/
abbrev Sx := List Sl → M (D × List Sl)
def rdX (g : Cf) (W : XK) (T : List Addr) (He : Hp) (f : Sx) : TE := fun σ H Q => ∃ Γ S, Rl g T He S H Γ σ ∧ (f Γ).wp (xp g W T He) fun p => ∀ v H', Rl g T He S H' p.2 σ → FrS T S H S H' → Rp g (off H' (T ++ S)) v p.1 → Q v H'
abbrev EX (Z : Cx) (g : Cf) (W : XK) (T : List Addr) (He : Hp) (e : Expr) (f : Sx) : Prop := PE Z e (rdX g W T He f)
def sSkip : Sst := fun Γ => .ret (.nx, Γ)
def sSeq (f1 f2 : Sst) : Sst := fun Γ => (f1 Γ).bind fun p => match p.1 with | .nx => f2 p.2 | _ => .ret p
def sIfS (t : Se Bool) (f1 f2 : Sst) : Sst := fun Γ => (t Γ).bind fun b => if b then f1 Γ else f2 Γ
def X.ret : X → R
  | .p d => .dt d
  | .c o => .nw o
  | .b o => .nw o
  | .t d => .dt d
def sRet (f : Se X) : Sst := fun Γ => (f Γ).bind fun x => .ret (.rt x.ret, Γ)
section
variable {Z : Cx} {g : Cf} {W : XK} {T : List Addr} {He : Hp} {a b c : Expr} {f1 f2 f3 : Se X} {fs : Se (List X)} {pos p2 : Pos} {st : Stmt} {rest : List Stmt} {u1 u2 : Sst}
theorem FrS.refl {S : List Addr} {H : Hp} : FrS T S H S H := Same.refl _
theorem FrS.trans {S S1 S2 : List Addr} {H H1 H2 : Hp} (a : FrS T S H S1 H1) (b : FrS T S1 H1 S2 H2) : FrS T S H S2 H2 := Same.trans a b
theorem Rl.frs {S : List Addr} {H H1 : Hp} {Γ : List Sl} {σ : St} (r : Rl g T He S H Γ σ) (e : Ext g.fd H H1) : FrS T S H S H1 := e.off fun p h => List.mem_append_left _ (r.t p h)
theorem SPost.from {D : Ends} {S S1 : List Addr} {H H1 : Hp} (f : FrS T S H S1 H1) {p : Fl × List Sl} (h : SPost g T He D S H p) : SPost g T He D S1 H1 p := by
  obtain ⟨fl, Γ⟩ := p
  cases fl with
  | nx => exact fun σ' S' H' r q => h σ' S' H' r (f.trans q)
  | bk => exact fun σ' S' H' r q => h σ' S' H' r (f.trans q)
  | ct => exact fun σ' S' H' r q => h σ' S' H' r (f.trans q)
  | rt z => exact h
theorem es_nil : ESs Z g W T He [] sSkip := pss_w pss_nil fun D σ H ⟨Γ, S, rl, w⟩ => w σ S H rl FrS.refl
theorem es_cons (h1 : ES Z g W T He st u1) (h2 : ESs Z g W T He rest u2) : ESs Z g W T He (st :: rest) (sSeq u1 u2) :=
  pss_w (pss_cons h1 h2) fun D σ H ⟨Γ, S, rl, w⟩ => by
    simp only [sSeq, M.wp_bind] at w
    refine ⟨Γ, S, rl, M.wp_mono (fun p w => ?_) w⟩
    obtain ⟨fl, Γ1⟩ := p
    cases fl with
    | nx => exact fun σ' S' H' r q => ⟨Γ1, S', r, M.wp_mono (fun p h => h.from q) w⟩
    | bk => exact w
    | ct => exact w
    | rt z => exact w
theorem es_one (h1 : ES Z g W T He st u1) : ESs Z g W T He [st] u1 := pss_one h1
theorem es_if {bd el : List Stmt} {t : Se Bool} (hc : EB Z g W T He c t) (ha : ESs Z g W T He bd u1) (hb : ESs Z g W T He el u2) : ES Z g W T He (.If c bd el pos) (sIfS t u1 u2) :=
  ps_w (ps_if hc ha hb) fun D σ H ⟨Γ, S, rl, w⟩ => by
    simp only [sIfS, M.wp_bind] at w
    refine rdT.use rl (M.wp_mono (fun x w H1 e1 l1 => ?_) w)
    cases x with
    | true => simp only [↓reduceIte] at w ⊢; exact ⟨Γ, S, l1, M.wp_mono (fun p h => h.from (rl.frs e1)) w⟩
    | false => simp only [Bool.false_eq_true, ↓reduceIte] at w ⊢; exact ⟨Γ, S, l1, M.wp_mono (fun p h => h.from (rl.frs e1)) w⟩
theorem RpX.ret {S : List Addr} {H H1 : Hp} {Γ : List Sl} {σ : St} {v : V} {x : X} (l : Rl g T He S H Γ σ) (r : RpX g T S H H1 v x) : RpR g T He H1 v x.ret := by
  cases x with
  | p d => exact off_off (fun b h => List.mem_append_left _ h) r
  | c o =>
    obtain ⟨a, rfl, h0, n, r⟩ := r
    have ha : He a = none := l.ex.free h0 fun h => n (List.mem_append_left _ (l.t a h))
    exact ⟨a, rfl, ha, fun z => n (List.mem_append_left _ z), r.sub fun b hb => by
      rcases List.mem_cons.mp hb with rfl | hb
      · exact List.mem_cons_self
      · exact List.mem_cons_of_mem _ (List.mem_append_left _ hb)⟩
  | b o =>
    obtain ⟨a, rfl, m, n, r⟩ := r
    exact ⟨a, rfl, l.nw a m, n, r.sub fun b hb => by
      rcases List.mem_cons.mp hb with rfl | hb
      · exact List.mem_append_right _ m
      · exact List.mem_append_left _ hb⟩
  | t d => exact r
theorem es_ret (he : EV Z g W T He a f1) : ES Z g W T He (.Return (some a) pos) (sRet f1) :=
  ps_w (ps_ret he) fun D σ H ⟨Γ, S, rl, w⟩ => by
    simp only [sRet, M.wp_bind, M.wp_ret] at w
    exact rdE.use rl (M.wp_mono (fun x w v H1 e1 l1 x1 => w v H1 (rl.ex.trans e1) (x1.ret rl)) w)
theorem es_doc {x : Str} {j : _} {pos' : Pos} : ES Z g W T He (.Expr (.Constant (.str x) j pos) pos') sSkip := ps_w ps_doc fun D σ H ⟨Γ, S, rl, w⟩ => w σ S H rl FrS.refl
theorem es_pass : ES Z g W T He (.Pass pos) sSkip := ps_w ps_pass fun D σ H ⟨Γ, S, rl, w⟩ => w σ S H rl FrS.refl
theorem es_break : ES Z g W T He (.Break pos) (fun Γ => .ret (.bk, Γ)) := ps_w ps_break fun D σ H ⟨Γ, S, rl, w⟩ => w σ S H rl FrS.refl
theorem es_continue : ES Z g W T He (.Continue pos) (fun Γ => .ret (.ct, Γ)) := ps_w ps_continue fun D σ H ⟨Γ, S, rl, w⟩ => w σ S H rl FrS.refl
def sNev : Sst := fun _ => .fail
theorem es_never : ES Z g W T He st sNev := ps_w ps_never fun D σ H ⟨Γ, S, rl, w⟩ => w
/-- an expression for what it does (a call) -/
def sDrop (f : Se X) : Sst := fun Γ => (f Γ).bind fun _ => .ret (.nx, Γ)
theorem es_expr (he : EV Z g W T He a f1) (hs : swapsWith a none pos.line Z.env = pure false := by rfl) : ES Z g W T He (.Expr a pos) (sDrop f1) :=
  ps_w (ps_expr he hs) fun D σ H ⟨Γ, S, rl, w⟩ => by
    simp only [sDrop, M.wp_bind, M.wp_ret] at w
    exact rdE.use rl (M.wp_mono (fun x w v H1 e1 l1 x1 => w σ S H1 l1 (rl.frs e1)) w)
/-! ### assignments -/
def asgX (keep : Bool) (i : Nat) (x : X) (Γ : List Sl) : M (List Sl) :=
  match x with
  | .p d => .ret (Γ.set i (.v d))
  | .c o => .ret (Γ.set i (if keep then .c o else .v o.toD))
  | _ => .fail
def sAsg (keep : Bool) (i : Nat) (f : Se X) : Sst := fun Γ => (f Γ).bind fun x => (asgX keep i x Γ).bind fun Γ' => .ret (.nx, Γ')
theorem asgX_use {keep : Bool} {i : Nat} {x : X} {S : List Addr} {H H1 : Hp} {Γ : List Sl} {σ : St} {v : V} {D : Ends} (h0 : g.ok0 i) (rl : Rl g T He S H Γ σ) (e1 : Ext g.fd H H1) (x1 : RpX g T S H H1 v x)
    (w : ((asgX keep i x Γ).bind fun Γ' => M.ret (Fl.nx, Γ')).wp (xp g W T He) (SPost g T He D S H)) : D.nx (σ.set i (some v)) H1 := by
  have l1 := rl.mono e1
  cases x with
  | b o => exact w.elim
  | t d => exact w.elim
  | p d => exact w _ S H1 (l1.set_v h0 x1) (rl.frs e1)
  | c o =>
    cases keep with
    | false => exact w _ S H1 (l1.set_v h0 (x1.toD' rfl)) (rl.frs e1)
    | true =>
      obtain ⟨ad, rfl, hn, n, r⟩ := x1
      exact w _ (ad :: S) H1 (rl.set_c h0 e1 hn r) ((off_free hn).trans (e1.off fun p h => List.mem_append_left _ (rl.t p h)))
theorem es_set {keep : Bool} {i : Nat} {x : Str} {e : Expr} {pos' : Pos} (h0 : g.ok0 i) (hN : Z.N.Nodup) (hi : Z.N[i]? = some x) (hx : Loc Z.env.scope x) (he : EV Z g W T He e f1) (hs : swapsWith e (some (.Name x pos')) pos.line Z.env = pure false := by rfl) (hf : Z.fn x = true ∨ Z.env.scope.names.lookup x = some .local := by first | exact .inl rfl | exact .inr rfl | assumption) :
    ES Z g W T He (.Assign [.Name x pos'] e pos) (sAsg keep i f1) :=
  ps_w (ps_set hN hi hx he hs hf) fun D σ H ⟨Γ, S, rl, w⟩ => by
    simp only [sAsg, M.wp_bind] at w
    exact rdE.use rl (M.wp_mono (fun x w v H1 e1 l1 x1 => asgX_use h0 rl e1 x1 (M.wp_bind.mpr w)) w)
/-- name = [..] on one line -/
theorem es_setLc {keep : Bool} {i : Nat} {y : Str} {py : Pos} {elt tg iter : Expr} {ifs : List Expr} {scope : Scope} {own : List (Str × Nat)} {spos : Pos} {fi : Se (Bool × List D)} {tgt : Tg} {tt : Se Bool} {te : Se X} (h0 : g.ok0 i) (hc : Z.calm = true) (hN : Z.N.Nodup) (hy : Z.N[i]? = some y) (hyl : Z.env.scope.names.lookup y = some .local)
    (hsw : swapsWith (.ListComp elt [⟨tg, iter, ifs, 0⟩] scope pos) (some (.Name y py)) spos.line Z.env = pure true) (hi : EI Z g W T He tg iter fi) (ok : BlkOk Z.N Z.env.scope scope own) (h00 : ∀ i ∈ own.map (·.2), g.ok0 i) (hv : ∀ i ∈ tgt.slots, i ∈ own.map (·.2))
    (hg : ∀ (s : Shared) (H : Hp) (C : Addr) (cl : List (Str × Addr)) (fp : List Addr), EG (Z.blk s H scope (compEnvC scope cl C Z.env) fp) g T He tg tgt) (ht : ∀ (s : Shared) (H : Hp) (C : Addr) (cl : List (Str × Addr)) (fp : List Addr), PTs (Z.blk s H scope (compEnvC scope cl C Z.env) fp) ifs (rdT g XN T He tt))
    (he : ∀ (s : Shared) (H : Hp) (C : Addr) (cl : List (Str × Addr)) (fp : List Addr), EV (Z.blk s H scope (compEnvC scope cl C Z.env) fp) g XN T He elt te) (hs : ∀ x, foldedSetIterable iter Z.env x = pure x := by intro _; rfl) :
    ES Z g W T He (.Assign [.Name y py] (.ListComp elt [⟨tg, iter, ifs, 0⟩] scope pos) spos) (sAsg keep i (sLc fi tgt (own.map (·.2)) tt te)) :=
  ps_w (ps_setLc hc hN hy hyl hsw hi ok hg ht he hs) fun D σ H ⟨Γ, S, rl, w⟩ => by
    simp only [sAsg, M.wp_bind] at w
    exact rdLc h00 hv (rdE.use rl (M.wp_mono (fun x w v H1 e1 l1 x1 => asgX_use h0 rl e1 x1 (M.wp_bind.mpr w)) w))
def X.fz (x : X) : M D := if x.tn then .fail else .ret x.toD
def sAsgT (tgt : Tg) (f : Se X) : Sst := fun Γ => (f Γ).bind fun x => x.fz.bind fun d => match tgt.asg d with | some as => .ret (.nx, setG Γ as) | none => .fail
theorem RpX.fz {S : List Addr} {H0 H : Hp} {v : V} {x : X} {E : XD} {P : D → Prop} (r : RpX g T S H0 H v x) (w : x.fz.wp E P) : Rp g (off H (T ++ S)) v x.toD ∧ P x.toD := by
  unfold X.fz at w
  split at w
  · exact w.elim
  · rename_i h; exact ⟨r.toD' (by simpa using h), w⟩
theorem es_setT {tg e : Expr} {tgt : Tg} (he : EV Z g W T He e f1) (hg : EG Z g T He tg tgt) (hs : swapsWithSole [tg] e pos.line Z.env = pure false := by rfl) (hw : swappedStores [tg] e Z.env = pure none := by rfl)
    (h1 : (assignEach [tg] Z.env).map (·.2) = [assign tg Z.env] := by rfl) : ES Z g W T He (.Assign [tg] e pos) (sAsgT tgt f1) :=
  ps_w (ps_asg he hg hs hw h1) fun D σ H ⟨Γ, S, rl, w⟩ => by
    simp only [sAsgT, M.wp_bind] at w
    refine rdE.use rl (M.wp_mono (fun x w v H1 e1 l1 x1 => ?_) w)
    obtain ⟨r, w⟩ := x1.fz w
    cases ha : tgt.asg x.toD with
    | none => rw [ha] at w; exact w.elim
    | some as =>
      rw [ha] at w
      exact ⟨Γ, S, _, as, l1, r, ha, fun ws _ l2 => w _ S H1 l2 (rl.frs e1)⟩
def sPar (i j : Nat) (fs : Se (List X)) : Sst := fun Γ => (fs Γ).bind fun xs => match xs with
  | [x, y] => x.fz.bind fun d => y.fz.bind fun e => .ret (.nx, (Γ.set i (.v d)).set j (.v e))
  | _ => .fail
theorem es_par {i j : Nat} {x y : Str} {px py pt : Pos} {kt k2 pt2} (h0 : g.ok0 i) (h0' : g.ok0 j) (hc : Z.calm = true) (hN : Z.N.Nodup) (hi : Z.N[i]? = some x) (hj : Z.N[j]? = some y) (hij : i ≠ j)
    (hx : Z.env.scope.names.lookup x = some .local) (hy : Z.env.scope.names.lookup y = some .local) (ha : EA Z g W T He [a, b] fs)
    (hw : swappedStores [.Tuple [.Name x px, .Name y py] kt pt] (.Tuple [a, b] k2 pt2) Z.env = pure (some [x, y]))
    (hs : swapsWithSole [.Tuple [.Name x px, .Name y py] kt pt] (.Tuple [a, b] k2 pt2) pos.line Z.env = pure false := by rfl) :
    ES Z g W T He (.Assign [.Tuple [.Name x px, .Name y py] kt pt] (.Tuple [a, b] k2 pt2) pos) (sPar i j fs) :=
  ps_w (ps_par hc hN hi hj hij hx hy ha hw hs) fun D σ H ⟨Γ, S, rl, w⟩ => by
    simp only [sPar, M.wp_bind] at w
    refine rdA.use rl (M.wp_mono (fun xs w vs H1 e1 l1 xx => ?_) w)
    split at w <;> first | exact w.elim | skip
    cases xx with
    | cons h t =>
      cases t with
      | cons h2 t =>
        cases t
        simp only [M.wp_bind, M.wp_ret] at w
        obtain ⟨r1, w⟩ := h.fz w
        obtain ⟨r2, w⟩ := h2.fz w
        exact ⟨_, _, rfl, w _ S H1 ((l1.set_v h0 r1).set_v h0' r2) (rl.frs e1)⟩
def sAug (i : Nat) (sem : D → D → M R) (f : Se X) : Sst := fun Γ => match Γ[i]? with
  | some (.v d) => (f Γ).bind fun y => (sem d y.toD).bind fun z => (asgX false i (z.fin y.tt) Γ).bind fun Γ' => .ret (.nx, Γ')
  | _ => .fail
theorem es_aug {i : Nat} {x : Str} {e : Expr} {op : Operator} {sem : D → D → M R} {r : R2} {pos' : Pos} (h0 : g.ok0 i) (hN : Z.N.Nodup) (hi : Z.N[i]? = some x) (hx : Loc Z.env.scope x) (he : EV Z g W T He e f1) (ho : PIp Z op r) (hp : Pr2 g r sem) (hf : Z.fn x = true ∨ Z.env.scope.names.lookup x = some .local := by first | exact .inl rfl | exact .inr rfl | assumption) :
    ES Z g W T He (.AugAssign (.Name x pos') op e pos) (sAug i sem f1) :=
  ps_w (ps_aug hN hi hx he ho hf) fun D σ H ⟨Γ, S, rl, w⟩ => by
    unfold sAug at w
    split at w <;> first | exact w.elim | skip
    rename_i d hd
    obtain ⟨v, h1, h2⟩ := rl.sl i _ hd
    refine ⟨v, join_some h1, ?_⟩
    simp only [M.wp_bind] at w
    refine rdE.use rl (M.wp_mono (fun y w v2 H2 e2 l2 x2 => ?_) w)
    have sub : ∀ b ∈ TS T S y.tt, b ∈ T ++ S := fun b hb => by
      cases h : y.tt
      · rw [h] at hb; exact hb
      · rw [h] at hb; exact List.mem_append_left _ hb
    refine hp (TS T S y.tt) H2 v v2 d y.toD _ (l2.fokB _) (.of (off_off sub (h2.mono (rl.frs e2)))) (x2.r1 fun h => h) (M.wp_mono (fun z w v H' e h => ?_) w)
    exact asgX_use h0 rl (e2.trans e) (h.fin.early e2 l2.t) (M.wp_bind.mpr w)
def incD : D → D → M R
  | .int i, .int j => .ret (.at (.int (i + j)))
  | _, _ => .fail
def decD : D → D → M R
  | .int i, .int j => .ret (.at (.int (i - j)))
  | _, _ => .fail
theorem pr_inc : Pr2 g (ipI fun i j => i + j) incD := fun T H v1 v2 d1 d2 Q f r1 r2 _ w => by
  cases d1 <;> cases d2 <;> first | exact w.elim | exact ⟨_, _, r1.int, r2.int, w _ H f.refl (.int _)⟩
theorem pr_dec : Pr2 g (ipI fun i j => i - j) decD := fun T H v1 v2 d1 d2 Q f r1 r2 _ w => by
  cases d1 <;> cases d2 <;> first | exact w.elim | exact ⟨_, _, r1.int, r2.int, w _ H f.refl (.int _)⟩
/-! ### an attribute stored on an own instance -/
def putD (k : Nat) (d : D) (fs : List D) : List D := if k < fs.length then fs.set k d else fs ++ [d]
theorem putF_fst {f : Str} {v : V} : ∀ {fv : List (Str × V)}, f ∉ fv.map Prod.fst → putF f v fv = fv ++ [(f, v)]
  | [], _ => rfl
  | (n, u) :: r, h => by
    simp only [List.map_cons, List.mem_cons, not_or] at h
    unfold putF
    rw [if_neg (Ne.symm h.1), putF_fst h.2]; rfl
theorem putF_at {f : Str} {v : V} : ∀ {fv : List (Str × V)} {k : Nat}, (fv.map Prod.fst).Nodup → (fv.map Prod.fst)[k]? = some f → putF f v fv = fv.set k (f, v)
  | [], _, _, h => by simp at h
  | (n, u) :: r, 0, _, h => by
    simp only [List.map_cons, List.getElem?_cons_zero, Option.some.injEq] at h
    unfold putF
    rw [if_pos h, h]; rfl
  | (n, u) :: r, k + 1, nd, h => by
    simp only [List.map_cons, List.getElem?_cons_succ, List.nodup_cons] at h nd
    unfold putF
    have : n ≠ f := fun e => nd.1 (e ▸ List.mem_of_getElem? h)
    rw [if_neg this, putF_at nd.2 h]; rfl
theorem FvOk.put {C : Nat} {fv : List (Str × V)} {f : Str} {v : V} {k : Nat} {fs : List D} {d : D} {H : Hp} (h : FvOk g C fv) (hi : (g.fl C)[k]? = some f) (nd : (g.fl C).Nodup) (hk : k ≤ fv.length) (r : RpA g H (fv.map Prod.snd) fs) (rd : Rp g H v d) :
    FvOk g C (putF f v fv) ∧ RpA g H ((putF f v fv).map Prod.snd) (putD k d fs) ∧ (putF f v fv).length ≤ fv.length + 1 := by
  have hl : fs.length = fv.length := by rw [← r.length, List.length_map]
  have h' : fv.map Prod.fst = (g.fl C).take fv.length := h
  have ndf : (fv.map Prod.fst).Nodup := by rw [h']; exact nd.sublist (List.take_sublist _ _)
  by_cases q : k < fv.length
  · have hg : (fv.map Prod.fst)[k]? = some f := by rw [h', List.getElem?_take, if_pos q]; exact hi
    rw [putF_at ndf hg]
    refine ⟨?_, ?_, by rw [List.length_set]; omega⟩
    · unfold FvOk
      rw [List.length_set, List.map_set, h']
      apply List.ext_getElem?
      intro j
      by_cases z : k = j
      · subst z
        rw [List.getElem?_set_self (by rw [List.length_take]; have := (List.getElem?_eq_some_iff.mp hi).1; omega), List.getElem?_take, if_pos q, hi]
      · rw [List.getElem?_set_ne z]
    · rw [List.map_set]
      unfold putD
      rw [if_pos (by omega)]
      exact r.set rd k
  · have e : k = fv.length := by omega
    have hn : f ∉ fv.map Prod.fst := fun hm => by
      rw [h'] at hm
      obtain ⟨j, hj⟩ := List.mem_iff_getElem?.mp hm
      rw [List.getElem?_take] at hj
      split at hj
      · rename_i hjl
        obtain ⟨j1, j2⟩ := List.getElem?_eq_some_iff.mp hj
        obtain ⟨k1, k2⟩ := List.getElem?_eq_some_iff.mp hi
        have : j = k := (List.getElem_inj nd).mp (j2.trans k2.symm)
        omega
      · cases hj
    rw [putF_fst hn]
    refine ⟨?_, ?_, by rw [List.length_append]; exact Nat.le_refl _⟩
    · unfold FvOk
      rw [List.map_append, h', List.length_append, ← e]
      show (g.fl C).take k ++ [f] = (g.fl C).take (k + 1)
      rw [List.take_succ, hi]; rfl
    · rw [List.map_append]
      unfold putD
      rw [if_neg (by omega)]
      exact r.append (.cons rd .nil)
/-- name.f = e, the name's an own instance -/
def sStF (ix : Nat → Option Nat) (i : Nat) (f : Se X) : Sst := fun Γ => (f Γ).bind fun x => x.fz.bind fun d => match Γ[i]? with
  | some (.c (.i C fs)) => match ix C with
    | some k => if k ≤ fs.length ∧ fs.length < 100 then .ret (.nx, Γ.set i (.c (.i C (putD k d fs)))) else .fail
    | none => .fail
  | _ => .fail
theorem es_stf {i : Nat} {x : Str} {e : Expr} {f : Str} {ix : Nat → Option Nat} {px pos' : Pos} (hK : Z.K = g.K) (ok : FlOk g f ix) (hN : Z.N[i]? = some x) (hv : Vis Z.env.scope x) (he : EV Z g W T He e f1)
    (hs : swapsWith e (some (.Attribute (.Name x px) f pos')) pos.line Z.env = pure false := by rfl) (hd : (x == ("__debug__" : Str)) = false := by decide) (hcd : (x == ("__classdict__" : Str)) = false := by decide) : ES Z g W T He (.Assign [.Attribute (.Name x px) f pos'] e pos) (sStF ix i f1) :=
  ps_w (ps_fld (pe_var hN hv hd hcd) he hs) fun D σ H ⟨Γ, S, rl, w⟩ => by
    simp only [sStF, M.wp_bind] at w
    refine rdE.use rl (M.wp_mono (fun x w v H1 e1 l1 x1 => ?_) w)
    obtain ⟨r, w⟩ := x1.fz w
    split at w <;> first | exact w.elim | skip
    rename_i C fs hi
    split at w <;> first | exact w.elim | skip
    rename_i k hk
    split at w <;> first | exact w.elim | skip
    rename_i hl
    obtain ⟨a, h1, h2, dx, fv, h3, hf, h4⟩ := l1.sl i _ hi
    obtain ⟨o1, o2, o3, o4⟩ := ok.ok C k hk
    have hfl : fs.length = fv.length := by rw [← h4.length, List.length_map]
    refine ⟨_, join_some h1, a, _, dx, fv, rfl, h3, hK ▸ o1, hK ▸ o2, by omega, ?_⟩
    obtain ⟨q1, q2, q3⟩ := hf.put o3 o4 (by omega) h4 r
    have mem : a ∈ T ++ S := List.mem_append_right _ h2
    refine w σ S _ (l1.put hi (join_some h1) ⟨dx, _, upd_same, q1, by rw [off_upd mem]; exact q2⟩) ?_
    exact (rl.frs e1).trans (by unfold FrS; rw [off_upd mem]; exact Same.refl _)
/-! ### effects -/
def xPure (f : Se X) : Sx := fun Γ => (f Γ).bind fun x => x.fz.bind fun d => .ret (d, Γ)
theorem ex_pure {e : Expr} (h : EV Z g W T He e f1) : EX Z g W T He e (xPure f1) :=
  pe_w h fun σ H Q ⟨Γ, S, rl, w⟩ => by
    simp only [xPure, M.wp_bind, M.wp_ret] at w
    refine rdE.use rl (M.wp_mono (fun x w v H1 e1 l1 x1 => ?_) w)
    obtain ⟨r, w⟩ := x1.fz w
    exact w v H1 l1 (rl.frs e1) r
def popL (ds : List D) (i : Nat) (Γ : List Sl) : D → M (D × List Sl)
  | .int j => match ixN ds.length j with
    | some k => match ds[k]? with
      | some d => .ret (d, Γ.set i (.c (.l (ds.eraseIdx k))))
      | none => .fail
    | none => .fail
  | _ => .fail
def xPop (i : Nat) (f : Se X) : Sx := fun Γ => match Γ[i]? with
  | some (.c (.l ds)) => if ds.length ≤ 100000 then (f Γ).bind fun x => popL ds i Γ x.toD else .fail
  | _ => .fail
def xPop0 (i : Nat) : Sx := fun Γ => match Γ[i]? with
  | some (.c (.l ds)) => match ds[ds.length - 1]? with
      | some d => .ret (d, Γ.set i (.c (.l ds.dropLast)))
      | none => .fail
  | _ => .fail
theorem ixN_bd {n : Nat} {i : Int} {j : Nat} (h : ixN n i = some j) (hn : n ≤ 100000) : -(2 ^ 63) ≤ i ∧ i < 2 ^ 63 := by
  obtain ⟨_, _, h1, h2⟩ := ixN_seq h
  omega
theorem Rl.frsPut {S : List Addr} {H : Hp} {Γ : List Sl} {σ : St} {i : Nat} {a : Addr} {o : O} {u : HO} (r : Rl g T He S H Γ σ) (h1 : Γ[i]? = some (.c o)) (h2 : σ[i]? = some (some (.ref a))) : FrS T S H S (upd H a u) ∧ a ∈ T ++ S := by
  obtain ⟨b, h3, h4, _⟩ := r.sl i _ h1
  rw [h2] at h3
  cases h3
  have mem : a ∈ T ++ S := List.mem_append_right _ h4
  exact ⟨by unfold FrS; rw [off_upd mem]; exact Same.refl _, mem⟩
theorem ex_pop {i : Nat} {x : Str} {e : Expr} {px apos cpos : Pos} (hN : Z.N[i]? = some x) (hv : Vis Z.env.scope x) (he : EV Z g W T He e f1)
    (hd : (x == ("__debug__" : Str)) = false := by decide) (hcd : (x == ("__classdict__" : Str)) = false := by decide)
    (hbase : attributeBase (.Name x px) "pop" Z.env (eval (.Name x px) Z.env) = eval (.Name x px) Z.env := by rfl)
    (hfew : ((backTo cpos (starEach [e] Z.env)).all (fun x => !x.1) && (backToKw cpos (keywordEach [] Z.env)).all (fun x => x.1.isSome)
      && decide (([e] : List Expr).length + ([] : List Keyword).length + (if ([] : List Keyword).isEmpty then 0 else 1) < 30)) = true := by rfl)
    (hline : (apos.endLine == cpos.line) = true := by rfl) (hs : starEach [e] Z.env = (false, eval e Z.env) :: starEach [] Z.env := by rfl) (hplain : (backTo cpos (starEach [] Z.env)).any (·.1) = false := by rfl) :
    EX Z g W T He (.Call (.Attribute (.Name x px) "pop" apos) [e] [] cpos) (xPop i f1) :=
  pe_w (pe_bm PySem.F.plainAttrs_list PySem.F.slot_list_pop PySem.F.type_list_pop mt_popAt (pe_var hN hv hd hcd) (pa_cons he pa_nil hs) hbase hfew hline hs hplain) fun σ H Q ⟨Γ, S, rl, w⟩ => by
    unfold xPop at w
    split at w <;> first | exact w.elim | skip
    rename_i ds hi
    split at w <;> first | exact w.elim | skip
    rename_i hz
    obtain ⟨a, h1, h2, vs, h3, h4⟩ := rl.sl i _ hi
    refine ⟨_, join_some h1, .inl ⟨rfl, _, SqL.of h3⟩, ?_⟩
    simp only [M.wp_bind] at w
    refine rdE.use rl (M.wp_mono (fun x w v H1 e1 l1 x1 => ?_) w)
    have q := x1.on
    cases hx : x.toD <;> rw [hx] at w q <;> first | exact w.elim | skip
    rename_i j
    cases q
    unfold popL at w
    simp only at w
    split at w <;> first | exact w.elim | skip
    rename_i k hk
    split at w <;> first | exact w.elim | skip
    rename_i d hd
    obtain ⟨a', h1', h2', vs', h3', h4'⟩ := l1.sl i _ hi
    rw [h1] at h1'
    cases h1'
    obtain ⟨u, hu, ru⟩ := h4'.get hd
    obtain ⟨b1, b2⟩ := ixN_bd hk hz
    obtain ⟨fr, mem⟩ := l1.frsPut (u := .lst (vs'.eraseIdx k)) hi (join_some h1)
    refine ⟨a, vs', j, k, u, rfl, rfl, h3', b1, b2, by rw [h4'.length]; exact (ixN_seq hk).1, hu, ?_⟩
    refine w u _ (l1.put hi (join_some h1) ⟨_, upd_same, by rw [off_upd mem]; exact h4'.eraseIdx k⟩) ((rl.frs e1).trans fr) ?_
    rw [off_upd mem]
    exact ru
theorem RpA.dropLast {H : Hp} {vs : List V} {ds : List D} (r : RpA g H vs ds) : RpA g H vs.dropLast ds.dropLast := by
  rw [List.dropLast_eq_take, List.dropLast_eq_take, r.length]
  exact r.take _
theorem ex_pop0 {i : Nat} {x : Str} {px apos cpos : Pos} (hN : Z.N[i]? = some x) (hv : Vis Z.env.scope x) (hd : (x == ("__debug__" : Str)) = false := by decide) (hcd : (x == ("__classdict__" : Str)) = false := by decide)
    (hbase : attributeBase (.Name x px) "pop" Z.env (eval (.Name x px) Z.env) = eval (.Name x px) Z.env := by rfl) (hline : (apos.endLine == cpos.line) = true := by rfl) :
    EX Z g W T He (.Call (.Attribute (.Name x px) "pop" apos) [] [] cpos) (xPop0 i) :=
  pe_w (pe_bm0 PySem.F.plainAttrs_list PySem.F.slot_list_pop PySem.F.type_list_pop mt_pop (pe_var hN hv hd hcd) hbase hline) fun σ H Q ⟨Γ, S, rl, w⟩ => by
    unfold xPop0 at w
    split at w <;> first | exact w.elim | skip
    rename_i ds hi
    split at w <;> first | exact w.elim | skip
    rename_i d hd
    obtain ⟨a, h1, h2, vs, h3, h4⟩ := rl.sl i _ hi
    obtain ⟨u, hu, ru⟩ := h4.get hd
    obtain ⟨fr, mem⟩ := rl.frsPut (u := .lst vs.dropLast) hi (join_some h1)
    refine ⟨_, join_some h1, .inl ⟨rfl, _, SqL.of h3⟩, a, vs, u, rfl, rfl, h3, by rw [h4.length]; exact hu, ?_⟩
    refine w u _ (rl.put hi (join_some h1) ⟨_, upd_same, by rw [off_upd mem]; exact h4.dropLast⟩) fr ?_
    rw [off_upd mem]
    exact ru
def sApp (i : Nat) (f : Sx) : Sst := fun Γ => match Γ[i]? with
  | some (.c (.l _)) => (f Γ).bind fun p => match p.2[i]? with
    | some (.c (.l ds)) => if ds.length ≤ 100000 then .ret (.nx, p.2.set i (.c (.l (ds ++ [p.1])))) else .fail
    | _ => .fail
  | _ => .fail
theorem es_app {i : Nat} {x : Str} {e : Expr} {f : Sx} {px apos cpos : Pos} (hN : Z.N[i]? = some x) (hv : Vis Z.env.scope x) (he : EX Z g W T He e f)
    (hd : (x == ("__debug__" : Str)) = false := by decide) (hcd : (x == ("__classdict__" : Str)) = false := by decide)
    (hbase : attributeBase (.Name x px) "append" Z.env (eval (.Name x px) Z.env) = eval (.Name x px) Z.env := by rfl)
    (hfew : ((backTo cpos (starEach [e] Z.env)).all (fun x => !x.1) && (backToKw cpos (keywordEach [] Z.env)).all (fun x => x.1.isSome)
      && decide (([e] : List Expr).length + ([] : List Keyword).length + (if ([] : List Keyword).isEmpty then 0 else 1) < 30)) = true := by rfl)
    (hline : (apos.endLine == cpos.line) = true := by rfl) (hs : starEach [e] Z.env = (false, eval e Z.env) :: starEach [] Z.env := by rfl) (hplain : (backTo cpos (starEach [] Z.env)).any (·.1) = false := by rfl)
    (hsw : swapsWith (.Call (.Attribute (.Name x px) "append" apos) [e] [] cpos) none pos.line Z.env = pure false := by rfl) :
    ES Z g W T He (.Expr (.Call (.Attribute (.Name x px) "append" apos) [e] [] cpos) pos) (sApp i f) :=
  ps_w (ps_expr (pe_bm PySem.F.plainAttrs_list PySem.F.slot_list_append PySem.F.type_list_append mt_append (pe_var hN hv hd hcd) (pa_cons he pa_nil hs) hbase hfew hline hs hplain) hsw) fun D σ H ⟨Γ, S, rl, w⟩ => by
    unfold sApp at w
    split at w <;> first | exact w.elim | skip
    rename_i ds0 hi0
    obtain ⟨a, h1, h2, vs0, h3, h4⟩ := rl.sl i _ hi0
    refine ⟨_, join_some h1, .inl ⟨rfl, _, SqL.of h3⟩, ?_⟩
    simp only [M.wp_bind] at w
    refine ⟨Γ, S, rl, M.wp_mono (fun p w v H1 l1 fr1 rv => ?_) w⟩
    split at w <;> first | exact w.elim | skip
    rename_i ds hi
    split at w <;> first | exact w.elim | skip
    rename_i hz
    obtain ⟨a', h1', h2', vs, h3', h4'⟩ := l1.sl i _ hi
    rw [h1] at h1'
    cases h1'
    obtain ⟨fr, mem⟩ := l1.frsPut (u := .lst (vs ++ [v])) hi (join_some h1)
    refine ⟨a, vs, v, rfl, rfl, h3', Nat.lt_of_le_of_lt (by rw [h4'.length]; exact hz : vs.length ≤ 100000) (by decide), ?_⟩
    exact w σ S _ (l1.put hi (join_some h1) ⟨_, upd_same, by rw [off_upd mem]; exact h4'.append (.cons rv .nil)⟩) (fr1.trans fr)
def sExt (i : Nat) (f : Se X) : Sst := fun Γ => match Γ[i]? with
  | some (.c (.l ds)) => (f Γ).bind fun x => x.fz.bind fun d => match d with
    | .lst es => if ds.length + es.length ≤ 100000 then .ret (.nx, Γ.set i (.c (.l (ds ++ es)))) else .fail
    | _ => .fail
  | _ => .fail
theorem es_ext {i : Nat} {x : Str} {e : Expr} {px apos cpos : Pos} (hN : Z.N[i]? = some x) (hv : Vis Z.env.scope x) (he : EV Z g W T He e f1)
    (hd : (x == ("__debug__" : Str)) = false := by decide) (hcd : (x == ("__classdict__" : Str)) = false := by decide)
    (hbase : attributeBase (.Name x px) "extend" Z.env (eval (.Name x px) Z.env) = eval (.Name x px) Z.env := by rfl)
    (hfew : ((backTo cpos (starEach [e] Z.env)).all (fun x => !x.1) && (backToKw cpos (keywordEach [] Z.env)).all (fun x => x.1.isSome)
      && decide (([e] : List Expr).length + ([] : List Keyword).length + (if ([] : List Keyword).isEmpty then 0 else 1) < 30)) = true := by rfl)
    (hline : (apos.endLine == cpos.line) = true := by rfl) (hs : starEach [e] Z.env = (false, eval e Z.env) :: starEach [] Z.env := by rfl) (hplain : (backTo cpos (starEach [] Z.env)).any (·.1) = false := by rfl)
    (hsw : swapsWith (.Call (.Attribute (.Name x px) "extend" apos) [e] [] cpos) none pos.line Z.env = pure false := by rfl) :
    ES Z g W T He (.Expr (.Call (.Attribute (.Name x px) "extend" apos) [e] [] cpos) pos) (sExt i f1) :=
  ps_w (ps_expr (pe_bm PySem.F.plainAttrs_list PySem.F.slot_list_extend PySem.F.type_list_extend mt_extend (pe_var hN hv hd hcd) (pa_cons he pa_nil hs) hbase hfew hline hs hplain) hsw) fun D σ H ⟨Γ, S, rl, w⟩ => by
    unfold sExt at w
    split at w <;> first | exact w.elim | skip
    rename_i ds hi
    obtain ⟨a, h1, h2, vs0, h3, h4⟩ := rl.sl i _ hi
    refine ⟨_, join_some h1, .inl ⟨rfl, _, SqL.of h3⟩, ?_⟩
    simp only [M.wp_bind] at w
    refine rdE.use rl (M.wp_mono (fun x w v H1 e1 l1 x1 => ?_) w)
    obtain ⟨r, w⟩ := x1.fz w
    cases hx : x.toD <;> rw [hx] at w r <;> first | exact w.elim | skip
    rename_i es
    simp only at w
    split at w <;> first | exact w.elim | skip
    rename_i hz
    obtain ⟨a', h1', h2', vs, h3', h4'⟩ := l1.sl i _ hi
    rw [h1] at h1'
    cases h1'
    cases r with
    | @lst b us _ q1 q2 =>
      obtain ⟨fr, mem⟩ := l1.frsPut (u := .lst (vs ++ us)) hi (join_some h1)
      refine ⟨a, b, vs, us, rfl, rfl, h3', off_same _ _ _ _ q1, big (by rw [h4'.length, q2.length]; exact hz), ?_⟩
      exact w σ S _ (l1.put hi (join_some h1) ⟨_, upd_same, by rw [off_upd mem]; exact h4'.append q2⟩) ((rl.frs e1).trans fr)
/-- name = e, e with effects -/
def sAsgX (i : Nat) (f : Sx) : Sst := fun Γ => (f Γ).bind fun p => .ret (.nx, p.2.set i (.v p.1))
theorem es_setX {i : Nat} {x : Str} {e : Expr} {f : Sx} {pos' : Pos} (h0 : g.ok0 i) (hN : Z.N.Nodup) (hi : Z.N[i]? = some x) (hx : Loc Z.env.scope x) (he : EX Z g W T He e f) (hs : swapsWith e (some (.Name x pos')) pos.line Z.env = pure false := by rfl) (hf : Z.fn x = true ∨ Z.env.scope.names.lookup x = some .local := by first | exact .inl rfl | exact .inr rfl | assumption) :
    ES Z g W T He (.Assign [.Name x pos'] e pos) (sAsgX i f) :=
  ps_w (ps_set hN hi hx he hs hf) fun D σ H ⟨Γ, S, rl, w⟩ => by
    simp only [sAsgX, M.wp_bind, M.wp_ret] at w
    exact ⟨Γ, S, rl, M.wp_mono (fun p w v H1 l1 fr rv => w _ S H1 (l1.set_v h0 rv) fr) w⟩
/-! ### loops -/
def forL (tgt : Tg) (fb : Sst) : List D → List Sl → M (Fl × List Sl)
  | [], Γ => .ret (.nx, Γ)
  | d :: ds, Γ => match tgt.asg d with
    | none => .fail
    | some as => (fb (setG Γ as)).bind fun q => match q.1 with
      | .nx => forL tgt fb ds q.2
      | .ct => forL tgt fb ds q.2
      | .bk => .ret (.nx, q.2)
      | .rt z => .ret (.rt z, q.2)
def sFor (fi : Se (Bool × List D)) (tgt : Tg) (fb : Sst) : Sst := fun Γ => (fi Γ).bind fun p => if p.1 then .fail else forL tgt fb p.2 Γ
theorem es_for {tg iter : Expr} {body : List Stmt} {fi : Se (Bool × List D)} {tgt : Tg} {fb : Sst} (hp : PassesOwn (model Z.prog Z.w) Z.A Z.env Z.xe) (hc : Z.calm = true) (hi : EI Z g W T He tg iter fi) (hg : EG Z g T He tg tgt) (hb : ESs Z g W T He body fb)
    (hs : ∀ x, foldedSetIterable iter Z.env x = pure x := by intro _; rfl) : ES Z g W T He (.For tg iter body [] pos) (sFor fi tgt fb) :=
  ps_w (ps_for hp hc hi hg hb hs) fun D σ H ⟨Γ, S, rl, w⟩ => by
    simp only [sFor, M.wp_bind] at w
    refine ⟨Γ, S, rl, M.wp_mono (fun p w J H1 e1 _ itc => ?_) w⟩
    split at w
    · exact w.elim
    rename_i hp1
    have itf := itc (by simpa using hp1)
    have l1 := rl.mono e1
    refine ⟨fun i m σ' H' => m = p.2.length - i ∧ i ≤ p.2.length ∧ ∃ Γ' S', Rl g T He S' H' Γ' σ' ∧ FrS T S H1 S' H' ∧ (forL tgt fb (p.2.drop i) Γ').wp (xp g W T He) (SPost g T He D S H), ⟨p.2.length, by simp, Nat.zero_le _, Γ, S, l1, FrS.refl, by simpa using w⟩, ?_⟩
    rintro i m σ' H' ⟨rfl, hi, Γ', S', l2, fr2, w2⟩
    have ok : okF (T ++ S) H1 H' (T ++ S') := ⟨fr2, fun b hb => l2.tkTS hb⟩
    by_cases hlt : i < p.2.length
    · obtain ⟨d, hd⟩ : ∃ d, p.2[i]? = some d := ⟨p.2[i], by simp [hlt]⟩
      obtain ⟨g1, g2⟩ := itf.go H' _ ok i d hd
      refine .inr ⟨g1, fun σ' H' => ∃ Γ' S', Rl g T He S' H' Γ' σ' ∧ FrS T S H1 S' H' ∧ (forL tgt fb (p.2.drop (i + 1)) Γ').wp (xp g W T He) (SPost g T He D S H), fun σ' H' h => ⟨p.2.length - (i + 1), by omega, rfl, hlt, h⟩, fun x H3 y => ?_⟩
      obtain ⟨s3, r3⟩ := g2 x H3 y
      have e3 : Ext g.fd H' H3 := l2.same s3
      have l3 := l2.mono e3
      rw [List.drop_eq_getElem_cons hlt] at w2
      have ed : p.2[i] = d := by rw [List.getElem?_eq_getElem hlt] at hd; exact Option.some.inj hd
      rw [ed] at w2
      simp only [forL] at w2
      cases ha : tgt.asg d with
      | none => rw [ha] at w2; exact w2.elim
      | some as =>
        rw [ha] at w2
        simp only [M.wp_bind] at w2
        refine ⟨Γ', S', d, as, l3, r3, ha, fun ws hws l4 => ⟨_, S', l4, M.wp_mono (fun q w4 => ?_) w2⟩⟩
        have fr3 : FrS T S H1 S' H3 := fr2.trans (l2.frs e3)
        have frH : FrS T S H S' H3 := (rl.frs e1).trans fr3
        obtain ⟨fl, Γ4⟩ := q
        cases fl with
        | nx => exact fun σ5 S5 H5 l5 fr5 => ⟨Γ4, S5, l5, fr3.trans fr5, w4⟩
        | ct => exact fun σ5 S5 H5 l5 fr5 => ⟨Γ4, S5, l5, fr3.trans fr5, w4⟩
        | bk => exact fun σ5 S5 H5 l5 fr5 => w4 σ5 S5 H5 l5 (frH.trans fr5)
        | rt z => exact w4
    · have e : i = p.2.length := by omega
      subst e
      rw [List.drop_length] at w2
      exact .inl ⟨itf.stop H' _ ok, w2 σ' S' H' l2 ((rl.frs e1).trans fr2)⟩
def whileL (tt : Se Bool) (fb : Sst) : Nat → List Sl → M (Fl × List Sl)
  | 0, _ => .fail
  | n + 1, Γ => (tt Γ).bind fun b => if b then (fb Γ).bind fun q => match q.1 with
      | .nx => whileL tt fb n q.2
      | .ct => whileL tt fb n q.2
      | .bk => .ret (.nx, q.2)
      | .rt z => .ret (.rt z, q.2)
    else .ret (.nx, Γ)
def sWhile (n : Nat) (tt : Se Bool) (fb : Sst) : Sst := whileL tt fb n
theorem es_while {c : Expr} {body : List Stmt} {tt : Se Bool} {fb : Sst} (n : Nat) (hp : PassesOwn (model Z.prog Z.w) Z.A Z.env Z.xe) (hc : EB Z g W T He c tt) (hb : ESs Z g W T He body fb) : ES Z g W T He (.While c body [] pos) (sWhile n tt fb) :=
  ps_w (ps_while hp hc hb) fun D σ H ⟨Γ, S, rl, w⟩ => by
    refine ⟨fun m σ' H' => ∃ Γ' S', Rl g T He S' H' Γ' σ' ∧ FrS T S H S' H' ∧ (whileL tt fb m Γ').wp (xp g W T He) (SPost g T He D S H), ⟨n, Γ, S, rl, FrS.refl, w⟩, ?_⟩
    rintro m σ' H' ⟨Γ', S', l2, fr2, w2⟩
    cases m with
    | zero => exact w2.elim
    | succ m =>
      simp only [whileL, M.wp_bind] at w2
      refine rdT.use l2 (M.wp_mono (fun b w3 H3 e3 l3 => ?_) w2)
      have fr3 := fr2.trans (l2.frs e3)
      cases b with
      | false =>
        simp only [Bool.false_eq_true, ↓reduceIte] at w3 ⊢
        exact w3 σ' S' H3 l3 fr3
      | true =>
        simp only [↓reduceIte, M.wp_bind] at w3 ⊢
        refine ⟨fun σ' H' => ∃ Γ' S', Rl g T He S' H' Γ' σ' ∧ FrS T S H S' H' ∧ (whileL tt fb m Γ').wp (xp g W T He) (SPost g T He D S H), fun σ' H' h => ⟨m, Nat.lt_succ_self m, h⟩, Γ', S', l3, M.wp_mono (fun q w4 => ?_) w3⟩
        obtain ⟨fl, Γ4⟩ := q
        cases fl with
        | nx => exact fun σ5 S5 H5 l5 fr5 => ⟨Γ4, S5, l5, fr3.trans fr5, w4⟩
        | ct => exact fun σ5 S5 H5 l5 fr5 => ⟨Γ4, S5, l5, fr3.trans fr5, w4⟩
        | bk => exact fun σ5 S5 H5 l5 fr5 => w4 σ5 S5 H5 l5 (fr3.trans fr5)
        | rt z => exact w4
end
end G
namespace G
open PySem PySem.Spec L2
open PyProof.Rows hiding St
/-! ### promises of defs by runs -/
structure SameB (g B : Cf) : Prop where
  k : g.K = B.K
  ad : g.ad = B.ad
  fl : g.fl = B.fl
  ae : g.ae = B.ae
  xn : g.xn = B.xn
  dx : g.dx = B.dx
abbrev Cf.wf (B : Cf) (fd : Fdx) : Cf := { B with fd := fd, self := none }
/-- positional values, keywords' values -/
def spC (B : Cf) (sem : List D → List D → M R) : Sp2 := fun vs zs H Q E => ∃ fd T ds es, FdOk (B.wf fd) T H ∧ RpA (B.wf fd) (off H T) vs ds ∧ RpA (B.wf fd) (off H T) zs es ∧ (sem ds es).wp (xp (B.wf fd) E T H) fun z => ∀ v H', Ext fd H H' → RpR (B.wf fd) T H H' v z → Q v H'
/-- a def's own: values in the parameters' order -/
def spB (B : Cf) (sem : List D → M R) (n : Nat) : Sp := fun vs H Q E => vs.length = n ∧ ∃ fd T ds, FdOk (B.wf fd) T H ∧ RpA (B.wf fd) (off H T) vs ds ∧ (sem ds).wp (xp (B.wf fd) E T H) fun z => ∀ v H', Ext fd H H' → RpR (B.wf fd) T H H' v z → Q v H'
/-- __init__: the new instance at x, then the others -/
def spI (B : Cf) (C : Nat) (sem : List D → List D → M O) : Sp2 := fun vs zs H Q E => ∃ x dx He fd T us ds es, vs = .ref x :: us ∧ H = upd (upd He dx (.own x)) x (.ins (B.ad C) dx []) ∧ He x = none ∧ He dx = none ∧ dx ≠ x ∧ FdOk (B.wf fd) T He ∧ RpA (B.wf fd) (off He T) us ds ∧ RpA (B.wf fd) (off He T) zs es ∧
  (sem ds es).wp (xp (B.wf fd) E T He) fun o => ∀ H', Ext fd He H' → RpO (B.wf fd) (x :: T) H' x o → Q .non H'
structure ClF (P : Program) (w : World) (K : PySem.W.Frag) (mg : Str → Option Value) (base : Heap) (CX : CXT) (k : Nat) (x : Str) (ks : List Str) (sp : Sp2) : Prop where
  ex : ∃ f, mg x = some (.ref f) ∧ PySem.W.keepIn K (.ref f) = true ∧ FnA P w K mg base CX k f ks sp
section
variable {X : Cx} {CX : CXT} {k : Nat} {ks : List Str} {sp : Sp2} {E : XK} {x : Str} {p pos : Pos} {e : Expr} {es : List Expr} {kws : List Keyword} {t tk : TA}
def tCalA (ks : List Str) (sp : Sp2) (E : XK) (t tk : TA) : TE := fun σ H Q => t σ H fun vs H1 => tk σ H1 fun zs H2 => zs.length = ks.length ∧ sp vs zs H2 Q E
theorem pe_cA (c : ClF X.prog X.w X.K X.mg X.base CX k x ks sp) (hr : Room k X.A) (hx : Passes CX X E) (hg : Gl X x) (ha : PA X (e :: es) t) (hkw : PK X kws tk)
    (hall : (backToKw pos (keywordEach kws X.env)).all (·.1.isSome) = true := by rfl) (hks : (backToKw pos (keywordEach kws X.env)).filterMap (·.1) = ks := by rfl)
    (hdb : (x == ("__debug__" : Str)) = false := by decide) (he : starEach (e :: es) X.env = (false, eval e X.env) :: starEach es X.env := by rfl)
    (hpl : ((backTo pos (starEach (e :: es) X.env)).any (·.1) || (backToKw pos (keywordEach kws X.env)).any (·.1.isNone)) = false := by rfl) :
    PE X (.Call (.Name x p) (e :: es) kws pos) (tCalA ks sp E t tk) := by
  refine ⟨fun pins s σ H Q I h => ?_⟩
  obtain ⟨f, hm, kp, F⟩ := c.ex
  refine wpAny_Call_Name_kw (ld_glob I hg hm ?_ hdb)
  refine PySem.W.callWith_KW (h₀ := X.base) I.ok.mod.kin kp hall (thn (ha.run pos pins s σ H _ I h) fun us s1 ⟨vs, H1, I1, r, q⟩ => ?_) hpl he
  refine thn (hkw.run pos pins s1 σ H1 _ I1 q) fun ws s2 ⟨zs, H2, I2, rz, l2, q2⟩ => ⟨I2.kIn, ?_⟩
  rw [hks]
  exact run_fnA F hr rfl hx I2 r rz l2 q2
theorem pe_cA0 (c : ClF X.prog X.w X.K X.mg X.base CX k x ks sp) (hr : Room k X.A) (hx : Passes CX X E) (hg : Gl X x) (hkw : PK X kws tk)
    (hall : (backToKw pos (keywordEach kws X.env)).all (·.1.isSome) = true := by rfl) (hks : (backToKw pos (keywordEach kws X.env)).filterMap (·.1) = ks := by rfl)
    (hdb : (x == ("__debug__" : Str)) = false := by decide) (hpl : ((backTo pos (starEach [] X.env)).any (·.1) || (backToKw pos (keywordEach kws X.env)).any (·.1.isNone)) = false := by rfl) :
    PE X (.Call (.Name x p) [] kws pos) (tCalA ks sp E tNil tk) := by
  refine ⟨fun pins s σ H Q I h => ?_⟩
  obtain ⟨f, hm, kp, F⟩ := c.ex
  refine wpAny_Call_Name_kw (ld_glob I hg hm ?_ hdb)
  refine PySem.W.callWith_KW0 (h₀ := X.base) I.ok.mod.kin kp hall ?_ hpl
  refine thn (hkw.run pos pins s σ H _ I h) fun ws s2 ⟨zs, H2, I2, rz, l2, q2⟩ => ⟨I2.kIn, ?_⟩
  rw [hks]
  exact run_fnA (us := []) (vs := []) F hr rfl hx I2 .nil rz l2 q2
end
/-- room for a call, and what it may let out is taken -/
structure RT (n : Nat) (Z : Cx) (W : XK) : Prop where
  room : Room n Z.A
  tk : Takes Z fun cls d _ H => W cls d H
theorem RT.mono {j k : Nat} {Z : Cx} {W : XK} (r : RT k Z W) (h : j ≤ k) : RT j Z W := ⟨r.room.mono h, r.tk⟩
theorem takesN {Z : Cx} : Takes Z fun cls d _ H => XN cls d H := fun _ _ x => by
  obtain ⟨_, _, _, _, _, _, _, _, _, _, _, _, _, _, _, _, z⟩ := x
  exact z.elim
/-- within a comprehension nothing is raised -/
theorem RT.blk {n : Nat} {Z Z' : Cx} {W : XK} (r : RT n Z W) (h : Z'.A = Z.A := by rfl) : RT n Z' XN := ⟨h ▸ r.room, takesN⟩
theorem RT.pass {n : Nat} {Z : Cx} {W : XK} (r : RT n Z W) : Passes (L2.CX Z.prog Z.w) Z W := passes_call r.tk fun _ _ _ _ h => h
theorem RT.units65 {n : Nat} {Z : Cx} {W : XK} (r : RT n Z W) : Z.A.units + 65 < cLine := by have := r.room.un; omega
theorem RT.units {n : Nat} {Z : Cx} {W : XK} (r : RT n Z W) : Z.A.units + 64 < cLine := r.room.units
/-- keywords' values -/
abbrev EK (Z : Cx) (g : Cf) (W : XK) (T : List Addr) (He : Hp) (kws : List Keyword) (f : Se (List X)) : Prop := PK Z kws (rdA g W T He f)
def sCal (nk : Nat) (sem : List D → List D → M R) (fs ks : Se (List X)) : Se X := fun Γ => (fs Γ).bind fun xs => (ks Γ).bind fun ys => if ys.length ≠ nk then .fail else (sem (xs.map X.toD) (ys.map X.toD)).bind fun z => .ret (z.fin (xs.any X.tn || ys.any X.tn))
section
variable {Z : Cx} {g B : Cf} {W : XK} {T : List Addr} {He : Hp} {a b c : Expr} {f1 f2 f3 : Se X} {fs gs : Se (List X)} {pos p p2 : Pos} {kws : List Keyword} {e : Expr} {es : List Expr} {x : Str} {ks : List Str}
theorem pk_w {t t' : TA} (h : PK Z kws t) (k : ∀ σ H Q, t' σ H Q → t σ H Q) : PK Z kws t' := ⟨fun pos pins s σ H Q I q => h.run pos pins s σ H Q I (k _ _ _ q)⟩
theorem ek_nil : EK Z g W T He [] sNil := pk_w pk_nil fun _ H Q ⟨Γ, S, rl, w⟩ => w [] H rl.fok.refl .nil
theorem ek_cons {nm : Option Str} {kpos : Pos} (he : EV Z g W T He e f1) (hr : EK Z g W T He kws fs) : EK Z g W T He (⟨nm, e, kpos⟩ :: kws) (sCons f1 fs) :=
  pk_w (pk_cons he hr) fun σ H Q ⟨Γ, S, rl, w⟩ => by
    simp only [sCons, M.wp_bind, M.wp_ret] at w
    refine rdE.use rl (M.wp_mono (fun x w v1 H1 e1 l1 x1 => ?_) w)
    refine rdA.use l1 (M.wp_mono (fun xs w vs H2 e2 l2 xx => ?_) w)
    exact w (v1 :: vs) H2 (e1.trans e2) (.cons (x1.mono e2 l1.t) (xx.early e1 l1.t))
theorem RpA.toB {H : Hp} {vs : List V} {ds : List D} (hB : SameB g B) (r : RpA g H vs ds) : RpA (B.wf g.fd) H vs ds := RpA.cg (g' := B.wf g.fd) hB.k hB.ad hB.fl rfl hB.dx _ r
theorem RpO.cg {g' : Cf} (e1 : g.K = g'.K) (e2 : g.ad = g'.ad) (e3 : g.fl = g'.fl) (e4 : g.fd = g'.fd) (e5 : g.dx = g'.dx) {T : List Addr} {H : Hp} {a : Addr} {o : O} (r : RpO g T H a o) : RpO g' T H a o := by
  cases o with
  | l ds => obtain ⟨vs, h1, h2⟩ := r; exact ⟨vs, h1, RpA.cg e1 e2 e3 e4 e5 _ h2⟩
  | i C fs => obtain ⟨dx, fv, h1, hf, h2⟩ := r; exact ⟨dx, fv, by rw [← e2]; exact h1, by unfold FvOk at hf ⊢; rw [← e3]; exact hf, RpA.cg e1 e2 e3 e4 e5 _ h2⟩
theorem RpR.ofB {H0 H : Hp} {v : V} {z : R} (hB : SameB g B) (r : RpR (B.wf g.fd) T H0 H v z) : RpR g T H0 H v z := by
  cases z with
  | «at» d => exact r
  | nw o => obtain ⟨a, e, h1, h2, r⟩ := r; exact ⟨a, e, h1, h2, RpO.cg (g := B.wf g.fd) hB.k.symm hB.ad.symm hB.fl.symm rfl hB.dx.symm r⟩
  | dt d => exact Rp.cg (g := B.wf g.fd) hB.k.symm hB.ad.symm hB.fl.symm rfl hB.dx.symm _ r
theorem XdOk.ofB {T' : List Addr} {H' : Hp} {d : Addr} {C : Nat} {fs : List D} (hB : SameB g B) (sub : ∀ b ∈ T, b ∈ T') (q : XdOk (B.wf g.fd) T' H' d C fs) : XdOk g T H' d C fs := by
  obtain ⟨fv, h1, h2, h3⟩ := q
  refine ⟨fv, h1, by rw [hB.xn]; exact h2, fun i f hf => ?_⟩
  obtain ⟨v, e, a, b, c⟩ := h3 i f (by rw [hB.xn] at hf; exact hf)
  exact ⟨v, e, a, b, off_off sub (Rp.cg (g := B.wf g.fd) hB.k.symm hB.ad.symm hB.fl.symm rfl hB.dx.symm _ c)⟩
/-- an exception of a callee is one of ours -/
theorem xp_sub {T' : List Addr} {H : Hp} {C : Nat} {fs : List D} (hB : SameB g B) (ex : Ext g.fd He H) (sub : ∀ b ∈ T, b ∈ T') (h : xp g W T He C fs) : xp (B.wf g.fd) W T' H C fs := fun d H' e q => by
  have := h d H' (ex.trans e) (q.ofB hB sub)
  rw [hB.ae] at this
  exact this
theorem FdOk.toB {H : Hp} (f : FdOk g T H) : FdOk (B.wf g.fd) T H := ⟨f.tk, f.fd⟩
end
end G
namespace G
open PySem PySem.Spec L2
open PyProof.Rows hiding St
section
variable {Z : Cx} {g B : Cf} {W : XK} {T : List Addr} {He : Hp} {a b c : Expr} {f1 f2 f3 : Se X} {fs gs : Se (List X)} {pos p p2 : Pos} {kws : List Keyword} {e : Expr} {es : List Expr} {x : Str} {ks : List Str}
theorem RpXs.full {S : List Addr} {H0 H : Hp} {tt : Bool} : ∀ {vs : List V} {xs : List X}, RpXs g T S H0 H vs xs → (xs.any X.tn = true → tt = true) → RpA g (off H (G.TS T S tt)) vs (xs.map X.toD)
  | _, _, r, h => by
    cases tt with
    | true => exact r.toD
    | false => exact r.toD' (by cases q : List.any _ X.tn with | true => exact absurd (h q) (by decide) | false => rfl)
/-- the call's promise, from runs of its arguments -/
theorem cal_use {sem : List D → List D → M R} {S : List Addr} {H H1 H2 : Hp} {Γ : List Sl} {σ : St} {vs zs : List V} {xs ys : List X} {Q : VK} (hB : SameB g B) (l1 : Rl g T He S H1 Γ σ) (l2 : Rl g T He S H2 Γ σ) (e1 : Ext g.fd H H1) (e2 : Ext g.fd H1 H2) (xx : RpXs g T S H H1 vs xs) (yy : RpXs g T S H1 H2 zs ys)
    (w : (sem (xs.map X.toD) (ys.map X.toD)).wp (xp g W T He) fun z => ∀ v H', Ext g.fd H H' → RpX g T S H H' v (z.fin (xs.any X.tn || ys.any X.tn)) → Q v H') : spC B sem vs zs H2 Q W := by
  refine ⟨g.fd, G.TS T S (xs.any X.tn || ys.any X.tn), _, _, (l2.fokB _).toB, ((xx.mono e2 l1.t).full fun h => by rw [h]; rfl).toB hB, (yy.full fun h => by rw [h, Bool.or_true]).toB hB, M.wp_monoE (fun z w v H' e r => ?_) (fun C fs h => xp_sub hB l2.ex (fun b hb => (by cases (xs.any X.tn || ys.any X.tn) <;> first | exact hb | exact List.mem_append_left _ hb)) h) w⟩
  exact w v H' ((e1.trans e2).trans e) ((r.ofB hB).fin.early (e1.trans e2) l2.t)
theorem rdCal {nk : Nat} {sem : List D → List D → M R} {S : List Addr} {σ : St} {H : Hp} {Γ : List Sl} {Q : VK} (hn : ks.length = nk) (hB : SameB g B) (rl : Rl g T He S H Γ σ) (w : (sCal nk sem fs gs Γ).wp (xp g W T He) fun x => ∀ v H', Ext g.fd H H' → RpX g T S H H' v x → Q v H') :
    tCalA ks (spC B sem) W (rdA g W T He fs) (rdA g W T He gs) σ H Q := by
  simp only [sCal, M.wp_bind] at w
  refine rdA.use rl (M.wp_mono (fun xs w vs H1 e1 l1 xx => ?_) w)
  refine rdA.use l1 (M.wp_mono (fun ys w zs H2 e2 l2 yy => ?_) w)
  split at w
  · exact w.elim
  rename_i hy
  refine ⟨by rw [yy.length, hn]; simpa using hy, cal_use hB l1 l2 e1 e2 xx yy ?_⟩
  simpa only [M.wp_bind, M.wp_ret] using w
theorem ev_cal {n nk : Nat} {sem : List D → List D → M R} (hB : SameB g B) (c : ClF Z.prog Z.w Z.K Z.mg Z.base (L2.CX Z.prog Z.w) n x ks (spC B sem)) (hr : RT n Z W) (hg : Gl Z x) (ha : EA Z g W T He (e :: es) fs) (hkw : EK Z g W T He kws gs) (hn : ks.length = nk := by rfl)
    (hall : (backToKw pos (keywordEach kws Z.env)).all (·.1.isSome) = true := by rfl) (hks : (backToKw pos (keywordEach kws Z.env)).filterMap (·.1) = ks := by rfl)
    (hdb : (x == ("__debug__" : Str)) = false := by decide) (he : starEach (e :: es) Z.env = (false, eval e Z.env) :: starEach es Z.env := by rfl)
    (hpl : ((backTo pos (starEach (e :: es) Z.env)).any (·.1) || (backToKw pos (keywordEach kws Z.env)).any (·.1.isNone)) = false := by rfl) :
    EV Z g W T He (.Call (.Name x p) (e :: es) kws pos) (sCal nk sem fs gs) :=
  pe_w (pe_cA (E := W) c hr.room hr.pass hg ha hkw hall hks hdb he hpl) fun _ _ _ ⟨_, _, rl, w⟩ => rdCal hn hB rl w
theorem rdNil {σ : St} {H : Hp} {R : List V → Hp → Prop} (h : rdA g W T He sNil σ H R) : tNil σ H R := by
  obtain ⟨Γ, S, rl, w⟩ := h
  exact w [] H rl.fok.refl .nil
theorem ev_cal0 {n nk : Nat} {sem : List D → List D → M R} (hB : SameB g B) (c : ClF Z.prog Z.w Z.K Z.mg Z.base (L2.CX Z.prog Z.w) n x ks (spC B sem)) (hr : RT n Z W) (hg : Gl Z x) (hkw : EK Z g W T He kws gs) (hn : ks.length = nk := by rfl)
    (hall : (backToKw pos (keywordEach kws Z.env)).all (·.1.isSome) = true := by rfl) (hks : (backToKw pos (keywordEach kws Z.env)).filterMap (·.1) = ks := by rfl)
    (hdb : (x == ("__debug__" : Str)) = false := by decide) (hpl : ((backTo pos (starEach [] Z.env)).any (·.1) || (backToKw pos (keywordEach kws Z.env)).any (·.1.isNone)) = false := by rfl) :
    EV Z g W T He (.Call (.Name x p) [] kws pos) (sCal nk sem sNil gs) :=
  pe_w (pe_cA0 (E := W) c hr.room hr.pass hg hkw hall hks hdb hpl) fun _ _ _ ⟨_, _, rl, w⟩ => rdNil (rdCal hn hB rl w)
/-! ### methods -/
/-- class by class, the run of the method (self first) -/
abbrev MSem := Nat → Option (List D → List D → M R)
structure MtOk (P : Program) (w : World) (K : PySem.W.Frag) (mg : Str → Option Value) (base : Heap) (B : Cf) (n : Nat) (m : Str) (ks : List Str) (sem : MSem) : Prop where
  ok : ∀ C f, sem C = some f → MtC P w K mg base (L2.CX P w) n (B.ad C) m ks (spC B f) ∧ m ∉ B.fl C
def sMth (nk : Nat) (sem : MSem) (f1 : Se X) (fs ks : Se (List X)) : Se X := fun Γ => (f1 Γ).bind fun x => match x.toD with
  | .ins C ds => match sem C with
    | some f => (fs Γ).bind fun xs => (ks Γ).bind fun ys => if ys.length ≠ nk then .fail else (f (.ins C ds :: xs.map X.toD) (ys.map X.toD)).bind fun z => .ret (z.fin (x.tn || xs.any X.tn || ys.any X.tn))
    | none => .fail
  | _ => .fail
theorem FvOk.none_of {C : Nat} {fv : List (Str × V)} {m : Str} (h : FvOk g C fv) (hm : m ∉ g.fl C) : fv.lookup m = none := by
  have h' : m ∉ fv.map Prod.fst := fun z => by
    have e : fv.map Prod.fst = (g.fl C).take fv.length := h
    rw [e] at z
    exact hm (List.mem_of_mem_take z)
  clear h
  induction fv with
  | nil => rfl
  | cons p r ih =>
    obtain ⟨n, u⟩ := p
    simp only [List.map_cons, List.mem_cons, not_or] at h'
    rw [List.lookup_cons, beq_eq_false_iff_ne.mpr h'.1]
    exact ih h'.2
theorem rdMth {n nk : Nat} {m : Str} {sem : MSem} {S : List Addr} {σ : St} {H : Hp} {Γ : List Sl} {Q : VK} (hn : ks.length = nk) (hB : SameB g B) (ok : MtOk Z.prog Z.w Z.K Z.mg Z.base B n m ks sem) (rl : Rl g T He S H Γ σ) (w : (sMth nk sem f1 fs gs Γ).wp (xp g W T He) fun x => ∀ v H', Ext g.fd H H' → RpX g T S H H' v x → Q v H') :
    tMethA Z (L2.CX Z.prog Z.w) n m ks W (rdE g W T He f1) (rdA g W T He fs) (rdA g W T He gs) σ H Q := by
  simp only [sMth, M.wp_bind] at w
  refine rdE.use rl (M.wp_mono (fun x w v0 H0 e0 l0 x0 => ?_) w)
  have r := x0.on
  cases hx : x.toD <;> rw [hx] at w r <;> first | exact w.elim | skip
  rename_i C ds
  simp only at w
  cases hs : sem C with
  | none => rw [hs] at w; exact w.elim
  | some f =>
    rw [hs] at w
    obtain ⟨MC, hm⟩ := ok.ok C f hs
    have x0' := x0
    cases r with
    | @ins ad dx _ fv _ h1 hf h2 =>
      refine ⟨ad, _, dx, fv, spC B f, rfl, h1, hf.none_of (hB.fl ▸ hm), by rw [hB.ad]; exact MC, ?_⟩
      simp only [M.wp_bind] at w
      refine rdA.use l0 (M.wp_mono (fun xs w vs H1 e1 l1 xx => ?_) w)
      refine rdA.use l1 (M.wp_mono (fun ys w zs H2 e2 l2 yy => ?_) w)
      split at w
      · exact w.elim
      rename_i hy
      refine ⟨by rw [yy.length, hn]; simpa using hy, ?_⟩
      have xx' : RpXs g T S H H1 (V.ref ad :: vs) (x :: xs) := .cons (x0'.mono e1 l0.t) (xx.early e0 l0.t)
      refine cal_use (xs := x :: xs) (H := H) hB l1 l2 (e0.trans e1) e2 xx' yy ?_
      simp only [M.wp_bind, M.wp_ret] at w
      rw [List.map_cons, hx, List.any_cons]
      exact w
variable {o : Expr} {m : Str} {apos : Pos} {pl : Sem Bool}
theorem ev_mth {n nk : Nat} {sem : MSem} (hB : SameB g B) (ok : MtOk Z.prog Z.w Z.K Z.mg Z.base B n m ks sem) (hr : RT n Z W) (he : EV Z g W T He o f1) (ha : EA Z g W T He (e :: es) fs) (hkw : EK Z g W T He kws gs) (hn : ks.length = nk := by rfl)
    (hall : (backToKw pos (keywordEach kws Z.env)).all (·.1.isSome) = true := by rfl) (hks : (backToKw pos (keywordEach kws Z.env)).filterMap (·.1) = ks := by rfl)
    (hst : starEach (e :: es) Z.env = (false, eval e Z.env) :: starEach es Z.env := by rfl)
    (hpl : ((backTo pos (starEach (e :: es) Z.env)).any (·.1) || (backToKw pos (keywordEach kws Z.env)).any (·.1.isNone)) = false := by rfl)
    (ht : eval (.Call (.Attribute o m apos) (e :: es) kws pos) Z.env = (do
      let ov ← eval o Z.env
      standAt apos.atName
      let (f, first) ← holding [ov] (getMethod ov m pl)
      callWith pos f first (backTo pos (starEach (e :: es) Z.env)) (backToKw pos (keywordEach kws Z.env))) := by rfl) :
    EV Z g W T He (.Call (.Attribute o m apos) (e :: es) kws pos) (sMth nk sem f1 fs gs) :=
  pe_w (pe_methA (CX := L2.CX Z.prog Z.w) (k := n) (E := W) hr.room hr.pass he ha hkw hall hks hst hpl ht) fun _ _ _ ⟨_, _, rl, w⟩ => rdMth hn hB ok rl w
theorem ev_mth0 {n nk : Nat} {sem : MSem} (hB : SameB g B) (ok : MtOk Z.prog Z.w Z.K Z.mg Z.base B n m ks sem) (hr : RT n Z W) (he : EV Z g W T He o f1) (hkw : EK Z g W T He kws gs) (hn : ks.length = nk := by rfl)
    (hall : (backToKw pos (keywordEach kws Z.env)).all (·.1.isSome) = true := by rfl) (hks : (backToKw pos (keywordEach kws Z.env)).filterMap (·.1) = ks := by rfl)
    (hpl : ((backTo pos (starEach [] Z.env)).any (·.1) || (backToKw pos (keywordEach kws Z.env)).any (·.1.isNone)) = false := by rfl)
    (ht : eval (.Call (.Attribute o m apos) [] kws pos) Z.env = (do
      let ov ← eval o Z.env
      standAt apos.atName
      let (f, first) ← holding [ov] (getMethod ov m pl)
      callWith pos f first (backTo pos (starEach [] Z.env)) (backToKw pos (keywordEach kws Z.env))) := by rfl) :
    EV Z g W T He (.Call (.Attribute o m apos) [] kws pos) (sMth nk sem f1 sNil gs) :=
  pe_w (pe_methA0 (CX := L2.CX Z.prog Z.w) (k := n) (E := W) hr.room hr.pass he hkw hall hks hpl ht) fun σ H Q ⟨_, _, rl, w⟩ => by
    obtain ⟨Γ', S', rl', w'⟩ := rdMth (Q := Q) hn hB ok rl w
    refine ⟨Γ', S', rl', M.wp_mono (fun x h v H' e r => ?_) w'⟩
    obtain ⟨a, C, dx, fs, sp, h1, h2, h3, h4, h5⟩ := h v H' e r
    exact ⟨a, C, dx, fs, sp, h1, h2, h3, h4, rdNil h5⟩
/-! ### new instances -/
def sNew (nk : Nat) (sem : List D → List D → M O) (fs ks : Se (List X)) : Se X := fun Γ => (fs Γ).bind fun xs => (ks Γ).bind fun ys => if ys.length ≠ nk then .fail else (sem (xs.map X.toD) (ys.map X.toD)).bind fun o => .ret ((R.nw o).fin (xs.any X.tn || ys.any X.tn))
theorem made_same2 {H : Hp} {x dx : Addr} {o1 o2 : HO} (h1 : H x = none) (h2 : H dx = none) (n : dx ≠ x) : Same H (upd (upd H dx o1) x o2) := (Same.newT h2).trans (Same.newT (by rw [upd_ne n.symm]; exact h1))
theorem rdNew {nk C : Nat} {sem : List D → List D → M O} {S : List Addr} {σ : St} {H : Hp} {Γ : List Sl} {Q : VK} (hn : ks.length = nk) (hB : SameB g B) (rl : Rl g T He S H Γ σ) (w : (sNew nk sem fs gs Γ).wp (xp g W T He) fun x => ∀ v H', Ext g.fd H H' → RpX g T S H H' v x → Q v H') :
    tMakeA (B.ad C) ks (spI B C sem) W (rdA g W T He fs) (rdA g W T He gs) σ H Q := by
  simp only [sNew, M.wp_bind] at w
  refine rdA.use rl (M.wp_mono (fun xs w vs H1 e1 l1 xx => ?_) w)
  refine rdA.use l1 (M.wp_mono (fun ys w zs H2 e2 l2 yy => ?_) w)
  split at w
  · exact w.elim
  rename_i hy
  refine ⟨by rw [yy.length, hn]; simpa using hy, fun x dx hx hdx ne => ?_⟩
  simp only [M.wp_bind, M.wp_ret] at w
  refine ⟨x, dx, H2, g.fd, G.TS T S (xs.any X.tn || ys.any X.tn), vs, _, _, rfl, rfl, hx, hdx, ne, (l2.fokB _).toB, ((xx.mono e2 l1.t).full fun h => by rw [h]; rfl).toB hB, (yy.full fun h => by rw [h, Bool.or_true]).toB hB, M.wp_monoE (fun o w H' e r => ⟨rfl, ?_⟩) (fun C fs h => xp_sub hB l2.ex (fun b hb => (by cases (xs.any X.tn || ys.any X.tn) <;> first | exact hb | exact List.mem_append_left _ hb)) h) w⟩
  have nT : x ∉ G.TS T S (xs.any X.tn || ys.any X.tn) := (l2.fokB _).nin hx
  have rr : RpR g (G.TS T S (xs.any X.tn || ys.any X.tn)) H2 H' (.ref x) (.nw o) := ⟨x, rfl, hx, nT, RpO.cg (g := B.wf g.fd) hB.k.symm hB.ad.symm hB.fl.symm rfl hB.dx.symm r⟩
  exact w _ H' ((e1.trans e2).trans e) (rr.fin.early (e1.trans e2) l2.t)
theorem ev_new {n nk C : Nat} {sem : List D → List D → M O} (hB : SameB g B) (c : MkA Z.prog Z.w Z.K Z.mg Z.base (L2.CX Z.prog Z.w) n x (B.ad C) ks (spI B C sem)) (hr : RT (n + 1) Z W) (hg : Gl Z x) (ha : EA Z g W T He (e :: es) fs) (hkw : EK Z g W T He kws gs) (hn : ks.length = nk := by rfl)
    (hall : (backToKw pos (keywordEach kws Z.env)).all (·.1.isSome) = true := by rfl) (hks : (backToKw pos (keywordEach kws Z.env)).filterMap (·.1) = ks := by rfl)
    (hdb : (x == ("__debug__" : Str)) = false := by decide) (he : starEach (e :: es) Z.env = (false, eval e Z.env) :: starEach es Z.env := by rfl)
    (hpl : ((backTo pos (starEach (e :: es) Z.env)).any (·.1) || (backToKw pos (keywordEach kws Z.env)).any (·.1.isNone)) = false := by rfl) :
    EV Z g W T He (.Call (.Name x p) (e :: es) kws pos) (sNew nk sem fs gs) :=
  pe_w (pe_makeA (E := W) c hr.room (Nat.le_refl _) hr.pass hg ha hkw hall hks hdb he hpl) fun _ _ _ ⟨_, _, rl, w⟩ => rdNew hn hB rl w
theorem ev_new0 {n nk C : Nat} {sem : List D → List D → M O} (hB : SameB g B) (c : MkA Z.prog Z.w Z.K Z.mg Z.base (L2.CX Z.prog Z.w) n x (B.ad C) ks (spI B C sem)) (hr : RT (n + 1) Z W) (hg : Gl Z x) (hkw : EK Z g W T He kws gs) (hn : ks.length = nk := by rfl)
    (hall : (backToKw pos (keywordEach kws Z.env)).all (·.1.isSome) = true := by rfl) (hks : (backToKw pos (keywordEach kws Z.env)).filterMap (·.1) = ks := by rfl)
    (hdb : (x == ("__debug__" : Str)) = false := by decide) (hpl : ((backTo pos (starEach [] Z.env)).any (·.1) || (backToKw pos (keywordEach kws Z.env)).any (·.1.isNone)) = false := by rfl) :
    EV Z g W T He (.Call (.Name x p) [] kws pos) (sNew nk sem sNil gs) :=
  pe_w (pe_makeA0 (E := W) c hr.room (Nat.le_refl _) hr.pass hg hkw hall hks hdb hpl) fun _ _ _ ⟨_, _, rl, w⟩ => rdNil (rdNew hn hB rl w)
def sNew0 (C : Nat) : Se X := fun _ => .ret (.c (.i C []))
theorem ev_new00 {C : Nat} (hB : SameB g B) (M : Mk0 Z.K Z.mg x (B.ad C)) (hg : Gl Z x) (hdb : (x == ("__debug__" : Str)) = false := by decide) : EV Z g W T He (.Call (.Name x p) [] [] pos) (sNew0 C) :=
  pe_w (pe_make00 M hg hdb) fun σ H Q ⟨Γ, S, rl, w⟩ => fun a dx ha hdx ne =>
    w _ _ (rl.same (made_same2 ha hdx ne)) ⟨a, rfl, ha, rl.freeTS ha, dx, [], by rw [hB.ad]; exact upd_same, rfl, .nil⟩
/-! ### == and !=, in, repr, len of own instances -/
def isIns : D → Bool
  | .ins _ _ => true
  | _ => false
end
end G
namespace L2
open PySem PySem.Spec
open PyProof.Rows hiding St
/-! ### None == an own instance: the instance's own __eq__ is asked -/
theorem NoneType_eq_ref (a : Addr) : Gives (Builtin.«NoneType.__eq__» ⟨[.none, .ref a], []⟩) (.val (Value.notImplemented)) :=
  .of_wp fun M A E s Q h => by obtain ⟨hp, g, d, tk, os⟩ := s; wp_walk; exact ⟨_, rfl, h⟩
section
variable {prog : Program} {w : World} {A A₀ : Around} {E : Value → Shared → Prop} {s : Shared} {K : PySem.W.Frag} {x C L f : Addr} {ox : Obj} {od : Option Obj}
theorem cmp_KN {Q : Value → Shared → Prop} (hu : A.units < cLine) (X : K.In s.heap) (I : PySem.W.InstAt s.heap x ox C od) (hn : PySem.W.subIn K (.ref C) (.type "NoneType") = some false)
    (hs : PySem.W.findIn K (.ref C) "__eq__" = some (some (.ref f))) (hf : PySem.W.isFn K (.ref f) = true)
    (h : wpAny (model prog w) A (call (.ref f) [.ref x, .none]) (PySem.W.CmpBack Q) E s) : wpAny (model prog w) A (richCompare .Eq .none (.ref x)) Q E s := by
  have one : wpAny (model prog w) A (tryCompare (.ref x) "__eq__" .none) (fun r s' => ∃ v, r = some v ∧ Q v s') E s := by
    unfold tryCompare
    refine wpAny_bind (PySem.W.ifBound_K X I hs hf (wpAny_mono h (fun v s' hv => ?_) fun _ _ e => e))
    cases v <;> first | exact hv.elim | exact wpAny_pure ⟨_, rfl, hv⟩
  unfold richCompare
  have e1 : oneThing? .Eq .none (.ref x) = none := rfl
  simp only [e1]
  refine wpAny_holding (wpAny_bind (wpAny_cRoomFor hu ?_))
  refine wpAny_bind (wpAny_typeOf (T := "NoneType") rfl (wpAny_bind (I.type.here ?_)))
  rw [if_pos (by rfl)]
  refine wpAny_bind ((PySem.W.looks_subIn X hn).here ?_)
  simp only [Bool.false_eq_true, if_false, Bool.not_false, if_true]
  refine wpAny_bind (m := tryCompare .none _ (.ref x)) (wpAny_tryCompare_declines (T := "NoneType") rfl F.slot_NoneType_eq (call_gives F.slot_NoneType_eq rfl F.entry_NoneType_eq (F.args_NoneType_eq_2 _ _) (NoneType_eq_ref x) ⟨rfl, ?_⟩))
  refine wpAny_bind (wpAny_mono one (fun r s' z => ?_) fun _ _ e => e)
  obtain ⟨v, rfl, hq⟩ := z
  exact wpAny_pure hq
end
/-- None == instance -/
def rEqN (X : Cx) (CX : CXT) (k : Nat) (E : XK) : R2 := fun x y H Q => ∃ a C dx fs sp, x = .non ∧ y = .ref a ∧ H a = some (.ins C dx fs) ∧ MtC X.prog X.w X.K X.mg X.base CX k C "__eq__" [] sp ∧ PySem.W.subIn X.K (.ref C) (.type "NoneType") = some false ∧ sp [y, x] [] H Q E
theorem op_eqN {X : Cx} {CX : CXT} {k : Nat} {E : XK} (hr : Room k X.A) (hx : Passes CX X E) : OpR X (compareOp .Eq) (rEqN X CX k E) := by
  rintro pins s σ H x y u v Q I rx ry ⟨a, C, dx, fs, sp, rfl, rfl, ha, M, nf, q⟩
  cases rx
  obtain rfl : v = Value.ref a := ry
  obtain ⟨⟨f, hm, F⟩, c⟩ := M
  obtain ⟨mA, J, _⟩ := ins_get I.hok ha
  obtain ⟨od, J, _⟩ := J.look
  show wpAny (model X.prog X.w) X.A (richCompare .Eq .none (.ref a)) (EP X pins σ Q) X.xe s
  refine cmp_KN hr.units0 I.kIn J nf hm.at_ hm.fn ?_
  exact wpAny_mono (run_fnA0 (us := [.ref a, .none]) (vs := [.ref a, .non]) F hr rfl hx I (.cons rfl (.cons rfl .nil)) q) (fun r s' h => let ⟨_, _, _, rv, _⟩ := h; rel_cmp rv h) fun _ _ e => e
end L2
namespace G
open PySem PySem.Spec L2
open PyProof.Rows hiding St
section
variable {Z : Cx} {g B : Cf} {W : XK} {T : List Addr} {He : Hp} {a b c : Expr} {f1 f2 f3 : Se X} {fs gs : Se (List X)} {pos p p2 : Pos} {kws : List Keyword} {e : Expr} {es : List Expr} {x : Str} {ks : List Str}
/-! ### == and !=, in, repr, len of own instances -/
/-- what a call hands back, as a truth value -/
def boolR : R → M Bool
  | .at (.bl b) => .ret b
  | .dt (.bl b) => .ret b
  | _ => .fail
def eqPyB (d1 d2 : D) : M Bool :=
  match d1.py, d2.py with
  | some x, some y => if x.depth ≤ 60 ∧ y.depth ≤ 60 then .ret (PyData.eqv x y) else .fail
  | _, _ => .fail
def okTy (P : Nat → Bool) : D → Bool
  | .ins C _ => P C
  | .feed => false
  | .fn _ => false
  | .dk _ _ => false
  | .dn _ _ => false
  | .tup _ => false
  | _ => true
/-- data's == where no instance stands on the left, else the class's own -/
def eqB (P : Nat → Bool) (sem : MSem) : D → D → M Bool := fun d1 d2 => match d1 with
  | .ins C ds => match sem C with
    | some f => if okTy P d2 then (f [.ins C ds, d2] []).bind boolR else .fail
    | none => .fail
  | d => eqPyB d d2
/-- .. for the classes of sem; P: whose types are known -/
structure EqOk (Pr : Program) (w : World) (K : PySem.W.Frag) (mg : Str → Option Value) (base : Heap) (B : Cf) (n : Nat) (P : Nat → Bool) (sem : MSem) : Prop where
  mt : MtOk Pr w K mg base B n "__eq__" [] sem
  tf : TyF B P
  nf : ∀ C f, sem C = some f → (∀ t, t ∈ ["NoneType", "bool", "int", "str", "list"] → PySem.W.notFirst K (B.ad C) (.type t) = true) ∧ ∀ C', P C' = true → PySem.W.notFirst K (B.ad C) (.ref (B.ad C')) = true
  ne : ∀ C f, sem C = some f → NoNe K (B.ad C)
  nn : ∀ C f, sem C = some f → PySem.W.subIn K (.ref (B.ad C)) (.type "NoneType") = some false
theorem SameB.tf {P : Nat → Bool} (hB : SameB g B) (t : TyF B P) : TyF g P := ⟨fun C h => by rw [hB.ad, hB.k]; exact t.ty C h⟩
theorem tyOf_of {P : Nat → Bool} (tf : TyF g P) {H : Hp} {v : V} {d : D} (r : Rp g H v d) (h : okTy P d = true) : TyOf g.K H v (d.tyv g) := by
  cases r with
  | non => exact .non
  | bl b => exact .bl b
  | int i => exact .int i
  | str x _ => exact .str x
  | lst h1 _ => exact .lst h1
  | tup hs _ => cases h
  | ins h1 _ _ => exact tf.ty _ h h1
  | feed => cases h
  | fn => cases h
  | dk => cases h
  | dn => cases h
theorem RpR.bool {T : List Addr} {H0 H : Hp} {v : V} {z : R} {E : XD} {P : Bool → Prop} (r : RpR g T H0 H v z) (w : (boolR z).wp E P) : ∃ b, v = .bl b ∧ P b := by
  cases z with
  | nw o => exact w.elim
  | «at» d =>
    cases d <;> first | exact w.elim | skip
    cases r
    exact ⟨_, rfl, w⟩
  | dt d =>
    cases d <;> first | exact w.elim | skip
    cases (show Rp g _ v _ from r)
    exact ⟨_, rfl, w⟩
/-- both ways of ==, by values -/
theorem eqB_use {T' : List Addr} {n : Nat} {P : Nat → Bool} {sem : MSem} {H : Hp} {v1 v2 : V} {d1 d2 : D} {Q : Bool → Hp → Prop} (hB : SameB g B) (ex : Ext g.fd He H) (sub : ∀ b ∈ T, b ∈ T') (ok : EqOk Z.prog Z.w Z.K Z.mg Z.base B n P sem) (hK : Z.K = g.K) (fo : FdOk g T' H) (r1 : Rp g (off H T') v1 d1) (r2 : Rp g (off H T') v2 d2)
    (w : (eqB P sem d1 d2).wp (xp g W T He) fun b => ∀ H', Ext g.fd H H' → Q b H') :
    (∃ d e, Dp Z.K H v1 d ∧ Dp Z.K H v2 e ∧ SeqAt.shaped d = true ∧ SeqAt.shaped e = true ∧ Q (PyData.eqv d e) H) ∨
    (∃ ad C dx fv f t, v1 = .ref ad ∧ H ad = some (.ins C dx fv) ∧ MtC Z.prog Z.w Z.K Z.mg Z.base (L2.CX Z.prog Z.w) n C "__eq__" [] (spC B f) ∧ NoNe Z.K C ∧ TyOf Z.K H v2 t ∧ PySem.W.notFirst Z.K C t = true ∧ spC B f [v1, v2] [] H (fun v H' => ∃ b, v = .bl b ∧ Q b H') W) := by
  by_cases hi : ∃ C ds, d1 = .ins C ds
  · obtain ⟨C, ds, rfl⟩ := hi
    unfold eqB at w
    simp only at w
    cases hs : sem C with
    | none => rw [hs] at w; exact w.elim
    | some f =>
      rw [hs] at w
      simp only at w
      split at w
      rotate_left
      · exact w.elim
      rename_i hp
      obtain ⟨m1, _⟩ := ok.mt.ok C f hs
      have r1' := r1.on
      cases r1' with
      | @ins ad dx _ fv _ h1 hf h2 =>
        refine .inr ⟨ad, B.ad C, dx, fv, f, d2.tyv g, rfl, by rw [← hB.ad]; exact h1, m1, ok.ne C f hs, by rw [hK]; exact tyOf_of (hB.tf ok.tf) r2.on hp, ?_, ?_⟩
        · obtain ⟨n1, n2⟩ := ok.nf C f hs
          cases d2 with
          | non => exact n1 _ (by simp)
          | bl b => exact n1 _ (by simp)
          | int i => exact n1 _ (by simp)
          | str x => exact n1 _ (by simp)
          | lst l => exact n1 _ (by simp)
          | tup l => cases hp
          | ins C' l => show PySem.W.notFirst Z.K (B.ad C) (.ref (g.ad C')) = true; rw [hB.ad]; exact n2 C' hp
          | feed => cases hp
          | fn j => cases hp
          | dk => cases hp
          | dn => cases hp
        · rw [M.wp_bind] at w
          refine ⟨g.fd, T', [.ins C ds, d2], [], fo.toB, RpA.toB hB (.cons r1 (.cons r2 .nil)), .nil, M.wp_monoE (fun z w v H' e r => ?_) (fun C fs h => xp_sub hB ex sub h) w⟩
          obtain ⟨b, rfl, q⟩ := (r.ofB hB).bool w
          exact ⟨b, rfl, q H' e⟩
  · have w' : (eqPyB d1 d2).wp (xp g W T He) fun b => ∀ H', Ext g.fd H H' → Q b H' := by
      unfold eqB at w
      cases d1 <;> first | exact w | exact absurd ⟨_, _, rfl⟩ hi
    unfold eqPyB at w'
    cases e1 : d1.py with
    | none => rw [e1] at w'; exact w'.elim
    | some x =>
      cases e2 : d2.py with
      | none => rw [e1, e2] at w'; exact w'.elim
      | some y =>
        rw [e1, e2] at w'
        simp only at w'
        split at w'
        · rename_i hd
          obtain ⟨p1, c1⟩ := Rp.dp _ r1.on e1
          obtain ⟨p2, c2⟩ := Rp.dp _ r2.on e2
          exact .inl ⟨x, y, hK ▸ p1, hK ▸ p2, by unfold SeqAt.shaped; rw [c1, decide_eq_true (by omega)]; rfl, by unfold SeqAt.shaped; rw [c2, decide_eq_true (by omega)]; rfl, w' H fo.refl⟩
        · exact w'.elim
def rEqG (Z : Cx) (W : XK) (n : Nat) : R2 := fun x y H Q => rEqD Z.K x y H Q ∨ (rEqI Z (L2.CX Z.prog Z.w) n W x y H Q ∨ rEqN Z (L2.CX Z.prog Z.w) n W x y H Q)
def rNeG (Z : Cx) (W : XK) (n : Nat) : R2 := fun x y H Q => rNeD Z.K x y H Q ∨ rNeI Z (L2.CX Z.prog Z.w) n W x y H Q
theorem op_EqG {n : Nat} (hr : RT (n + 1) Z W) : OpR Z (compareOp .Eq) (rEqG Z W n) := OpR.or (op_eqD hr.units) (OpR.or (op_eqI (hr.room.mono (Nat.le_succ _)) hr.pass) (op_eqN (hr.room.mono (Nat.le_succ _)) hr.pass))
theorem op_NeG {n : Nat} (hr : RT (n + 1) Z W) : OpR Z (compareOp .NotEq) (rNeG Z W n) := OpR.or (op_neD hr.units) (op_neI hr.room hr.pass)
theorem spC.mono {f : List D → List D → M R} {vs zs : List V} {H : Hp} {Q Q' : VK} {E : XK} (h : ∀ v H', Q v H' → Q' v H') (q : spC B f vs zs H Q E) : spC B f vs zs H Q' E := by
  obtain ⟨fd, T, ds, es, h1, h2, h3, w⟩ := q
  exact ⟨fd, T, ds, es, h1, h2, h3, M.wp_mono (fun z w v H' e r => h v H' (w v H' e r)) w⟩
/-- .. and of None on the left -/
def eqG (neg : Bool) (P : Nat → Bool) (sem : MSem) (d1 d2 : D) : M Bool := match neg, d1, d2 with
  | false, .non, .ins C ds => match sem C with
    | some f => (f [.ins C ds, .non] []).bind boolR
    | none => .fail
  | _, d1, d2 => eqB P sem d1 d2
def sEq (neg : Bool) (P : Nat → Bool) (sem : MSem) (f1 f2 : Se X) : Se X := fun Γ => (f1 Γ).bind fun x => (f2 Γ).bind fun y => (eqG neg P sem x.toD y.toD).bind fun b => .ret (.p (.bl (neg != b)))
theorem rdEq {n : Nat} {P : Nat → Bool} {neg : Bool} {sem : MSem} {S : List Addr} {σ : St} {H : Hp} {Γ : List Sl} {Q : VK} (hK : Z.K = g.K) (hB : SameB g B) (ok : EqOk Z.prog Z.w Z.K Z.mg Z.base B n P sem)
    (rl : Rl g T He S H Γ σ) (w : (sEq neg P sem f1 f2 Γ).wp (xp g W T He) fun x => ∀ v H', Ext g.fd H H' → RpX g T S H H' v x → Q v H') : tOp (if neg then rNeG Z W n else rEqG Z W n) (rdE g W T He f1) (rdE g W T He f2) σ H Q := by
  simp only [sEq, M.wp_bind, M.wp_ret] at w
  refine rdE.use rl (M.wp_mono (fun x w v1 H1 e1 l1 x1 => ?_) w)
  refine rdE.use l1 (M.wp_mono (fun y w v2 H2 e2 l2 x2 => ?_) w)
  have e12 := e1.trans e2
  have w' : (eqG neg P sem x.toD y.toD).wp (xp g W T He) fun b => ∀ H', Ext g.fd H2 H' → Q (.bl (neg != b)) H' := M.wp_mono (fun b q => fun (H' : Hp) (e : Ext g.fd H2 H') => q (.bl (neg != b)) H' (e12.trans e) (Rp.bl _)) w
  have x1' := (x1.mono e2 l1.t).toD
  have x2' := x2.toD
  by_cases hsp : neg = false ∧ x.toD = .non ∧ ∃ C ds, y.toD = .ins C ds
  · obtain ⟨rfl, hx, C, ds, hy⟩ := hsp
    rw [hx, hy] at w'
    rw [hx] at x1'
    rw [hy] at x2'
    unfold eqG at w'
    simp only at w'
    cases hs : sem C with
    | none => rw [hs] at w'; exact w'.elim
    | some f =>
      rw [hs] at w'
      simp only [M.wp_bind] at w'
      obtain ⟨m1, _⟩ := ok.mt.ok C f hs
      have x2on := x2'.on
      cases x1' with
      | non =>
        cases x2on with
        | @ins ad dx _ fv _ h1 hf h2 =>
          refine .inr (.inr ⟨ad, B.ad C, dx, fv, _, rfl, rfl, by rw [← hB.ad]; exact h1, m1, ok.nn C f hs, g.fd, T, [.ins C ds, .non], [], l2.fokT.toB, RpA.toB hB (.cons x2' (.cons .non .nil)), .nil, M.wp_monoE (fun z w v H' e r => ?_) (fun C fs h => xp_sub hB l2.ex (fun _ h => h) h) w'⟩)
          obtain ⟨b, rfl, q⟩ := (r.ofB hB).bool w
          have := q H' e
          simpa using this
  have eG' : ∀ (ng : Bool) (d1 d2 : D), ¬ (ng = false ∧ d1 = .non ∧ ∃ C ds, d2 = .ins C ds) → eqG ng P sem d1 d2 = eqB P sem d1 d2 := by
    intro ng d1 d2 h
    cases ng <;> cases d1 <;> cases d2 <;> first | rfl | exact absurd ⟨rfl, rfl, _, _, rfl⟩ h
  have eG := eG' _ _ _ hsp
  rw [eG] at w'
  have := eqB_use (Q := fun b H' => Q (.bl (neg != b)) H') hB l2.ex (fun _ h => h) ok hK l2.fokT x1' x2' w'
  cases neg with
  | false =>
    rcases this with ⟨d, e, h1, h2, h3, h4, q⟩ | ⟨ad, C, dx, fv, f, t, h1, h2, h3, h4, h5, h6, q⟩
    · exact .inl ⟨d, e, h1, h2, h3, h4, by simpa using q⟩
    · exact .inr (.inl ⟨ad, C, dx, fv, _, t, h1, h2, h3, h5, h6, spC.mono (fun v H' ⟨b, e, q⟩ => by rw [e]; simpa using q) q⟩)
  | true =>
    rcases this with ⟨d, e, h1, h2, h3, h4, q⟩ | ⟨ad, C, dx, fv, f, t, h1, h2, h3, h4, h5, h6, q⟩
    · exact .inl ⟨d, e, h1, h2, h3, h4, by simpa using q⟩
    · exact .inr ⟨ad, C, dx, fv, _, t, h1, h2, h3, h4, h5, h6, spC.mono (fun v H' ⟨b, e, q⟩ => ⟨b, e, by simpa using q⟩) q⟩
theorem ev_eq {n : Nat} {P : Nat → Bool} {sem : MSem} (hK : Z.K = g.K) (hB : SameB g B) (ok : EqOk Z.prog Z.w Z.K Z.mg Z.base B n P sem) (hr : RT (n + 1) Z W) (ha : EV Z g W T He a f1) (hb : EV Z g W T He b f2) (hm : behindInMarks .Eq b = false) : EV Z g W T He (.Compare a [.Eq] [b] pos) (sEq false P sem f1 f2) :=
  pe_w (pe_cmpR (op_EqG hr) ha hb hm) fun _ _ _ ⟨_, _, rl, w⟩ => rdEq (neg := false) hK hB ok rl w
theorem ev_ne {n : Nat} {P : Nat → Bool} {sem : MSem} (hK : Z.K = g.K) (hB : SameB g B) (ok : EqOk Z.prog Z.w Z.K Z.mg Z.base B n P sem) (hr : RT (n + 1) Z W) (ha : EV Z g W T He a f1) (hb : EV Z g W T He b f2) (hm : behindInMarks .NotEq b = false) : EV Z g W T He (.Compare a [.NotEq] [b] pos) (sEq true P sem f1 f2) :=
  pe_w (pe_cmpR (op_NeG hr) ha hb hm) fun _ _ _ ⟨_, _, rl, w⟩ => rdEq (neg := true) hK hB ok rl w
theorem et_eq {n : Nat} {P : Nat → Bool} {sem : MSem} (hK : Z.K = g.K) (hB : SameB g B) (ok : EqOk Z.prog Z.w Z.K Z.mg Z.base B n P sem) (hr : RT (n + 1) Z W) (ha : EV Z g W T He a f1) (hb : EV Z g W T He b f2) (hm : behindInMarks .Eq b = false) : EB Z g W T He (.Compare a [.Eq] [b] pos) (sB (sEq false P sem f1 f2)) :=
  pt_w (pt_cmpR (op_EqG hr) ha hb hm) fun _ _ _ ⟨_, _, rl, w⟩ => rdEq (neg := false) hK hB ok rl (sB_wp w)
theorem et_ne {n : Nat} {P : Nat → Bool} {sem : MSem} (hK : Z.K = g.K) (hB : SameB g B) (ok : EqOk Z.prog Z.w Z.K Z.mg Z.base B n P sem) (hr : RT (n + 1) Z W) (ha : EV Z g W T He a f1) (hb : EV Z g W T He b f2) (hm : behindInMarks .NotEq b = false) : EB Z g W T He (.Compare a [.NotEq] [b] pos) (sB (sEq true P sem f1 f2)) :=
  pt_w (pt_cmpR (op_NeG hr) ha hb hm) fun _ _ _ ⟨_, _, rl, w⟩ => rdEq (neg := true) hK hB ok rl (sB_wp w)
/-! repr, len of own instances -/
def sUnI (sem : MSem) (chk : R → M D) (f1 : Se X) : Se X := fun Γ => (f1 Γ).bind fun x => match x.toD with
  | .ins C ds => match sem C with
    | some f => (f [.ins C ds] []).bind fun z => (chk z).bind fun d => .ret (.p d)
    | none => .fail
  | _ => .fail
def chkS : R → M D
  | .at (.str z) => .ret (.str z)
  | .dt (.str z) => .ret (.str z)
  | _ => .fail
def chkN : R → M D
  | .at (.int i) => if 0 ≤ i ∧ i < 2 ^ 63 then .ret (.int i) else .fail
  | .dt (.int i) => if 0 ≤ i ∧ i < 2 ^ 63 then .ret (.int i) else .fail
  | _ => .fail
theorem RpR.chkS {T : List Addr} {H0 H : Hp} {v : V} {z : R} {E : XD} {P : D → Prop} (r : RpR g T H0 H v z) (w : (G.chkS z).wp E P) : ∃ s, v = .str s ∧ PyData.strOk s = true ∧ P (.str s) := by
  cases z with
  | nw o => exact w.elim
  | «at» d =>
    cases d <;> first | exact w.elim | skip
    cases r with
    | str _ h => exact ⟨_, rfl, h, w⟩
  | dt d =>
    cases d <;> first | exact w.elim | skip
    cases (show Rp g _ v _ from r) with
    | str _ h => exact ⟨_, rfl, h, w⟩
theorem RpR.chkN {T : List Addr} {H0 H : Hp} {v : V} {z : R} {E : XD} {P : D → Prop} (r : RpR g T H0 H v z) (w : (G.chkN z).wp E P) : ∃ i, v = .int i ∧ 0 ≤ i ∧ i < 2 ^ 63 ∧ P (.int i) := by
  cases z with
  | nw o => exact w.elim
  | «at» d =>
    cases d <;> first | exact w.elim | skip
    cases r
    unfold G.chkN at w
    simp only at w
    split at w
    · rename_i h; exact ⟨_, rfl, h.1, h.2, w⟩
    · exact w.elim
  | dt d =>
    cases d <;> first | exact w.elim | skip
    cases (show Rp g _ v _ from r)
    unfold G.chkN at w
    simp only at w
    split at w
    · rename_i h; exact ⟨_, rfl, h.1, h.2, w⟩
    · exact w.elim
theorem unI_use {n : Nat} {m : Str} {sem : MSem} {chk : R → M D} {S : List Addr} {σ : St} {H : Hp} {Γ : List Sl} {Q : VK} (hB : SameB g B) (ok : MtOk Z.prog Z.w Z.K Z.mg Z.base B n m [] sem) (rl : Rl g T He S H Γ σ) (w : (sUnI sem chk f1 Γ).wp (xp g W T He) fun x => ∀ v H', Ext g.fd H H' → RpX g T S H H' v x → Q v H') :
    rdE g W T He f1 σ H fun v H1 => ∃ ad C dx fv f, v = .ref ad ∧ H1 ad = some (.ins C dx fv) ∧ MtC Z.prog Z.w Z.K Z.mg Z.base (L2.CX Z.prog Z.w) n C m [] (spC B f) ∧
      spC B f [.ref ad] [] H1 (fun v H' => ∃ z T' H0, RpR g T' H0 H' v z ∧ (chk z).wp (xp g W T He) fun d => ∀ v, Rp g (off H' (T ++ S)) v d → Q v H') W := by
  simp only [sUnI, M.wp_bind] at w
  refine rdE.use rl (M.wp_mono (fun x w v1 H1 e1 l1 x1 => ?_) w)
  have r := x1.toD
  have r' := x1.on
  cases hx : x.toD <;> rw [hx] at w r r' <;> first | exact w.elim | skip
  rename_i C ds
  simp only at w
  cases hs : sem C with
  | none => rw [hs] at w; exact w.elim
  | some f =>
    rw [hs] at w
    obtain ⟨m1, _⟩ := ok.ok C f hs
    cases r' with
    | @ins ad dx _ fv _ h1 hf h2 =>
      refine ⟨ad, B.ad C, dx, fv, f, rfl, by rw [← hB.ad]; exact h1, m1, ?_⟩
      simp only [M.wp_bind, M.wp_ret] at w
      refine ⟨g.fd, T, [.ins C ds], [], l1.fokT.toB, RpA.toB hB (.cons r .nil), .nil, M.wp_monoE (fun z w v H' e r => ?_) (fun C fs h => xp_sub hB l1.ex (fun _ h => h) h) w⟩
      exact ⟨z, T, H1, r.ofB hB, M.wp_mono (fun d q v rd => q v H' (e1.trans e) rd) w⟩
theorem spC.monoQ {f : List D → List D → M R} {vs zs : List V} {H : Hp} {Q Q' : VK} {E : XK} (h : ∀ v H', Q v H' → Q' v H') (q : spC B f vs zs H Q E) : spC B f vs zs H Q' E := by
  obtain ⟨fd, T, ds, es, h1, h2, h3, w⟩ := q
  exact ⟨fd, T, ds, es, h1, h2, h3, M.wp_mono (fun z w v H' e r => h v H' (w v H' e r)) w⟩
theorem ev_repr {n : Nat} {sem : MSem} {px : Pos} (hB : SameB g B) (ok : MtOk Z.prog Z.w Z.K Z.mg Z.base B n "__repr__" [] sem) (hr : RT (n + 1) Z W) (hg : Gl Z "repr") (hm : Z.mg "repr" = none) (ha : EV Z g W T He a f1)
    (he : starEach (a :: []) Z.env = (false, eval a Z.env) :: starEach [] Z.env := by rfl) (hpl : (backTo pos (starEach [] Z.env)).any (·.1) = false := by rfl) :
    EV Z g W T He (.Call (.Name "repr" px) [a] [] pos) (sUnI sem chkS f1) :=
  pe_w (pe_callB (call_reprI (E := W) hr.room hr.pass) hg hm (by decide +kernel) (pa_cons ha pa_nil he) (by decide) (by decide) he hpl) fun σ H Q ⟨Γ, S, rl, w⟩ => by
    obtain ⟨Γ', S', rl', w'⟩ := unI_use (Q := Q) hB ok rl w
    refine ⟨Γ', S', rl', M.wp_mono (fun x h v H' e r => ?_) w'⟩
    obtain ⟨ad, C, dx, fv, f, h1, h2, h3, h4⟩ := h v H' e r
    refine ⟨ad, C, dx, fv, _, by rw [h1], h2, h3, h4.monoQ fun v H' ⟨z, T', H0, r, w⟩ => ?_⟩
    obtain ⟨s, rfl, o, q⟩ := r.chkS w
    exact ⟨⟨s, rfl⟩, q _ (.str s o)⟩
theorem ev_lenI {n : Nat} {sem : MSem} {px : Pos} (hB : SameB g B) (ok : MtOk Z.prog Z.w Z.K Z.mg Z.base B n "__len__" [] sem) (hr : RT (n + 1) Z W) (hg : Gl Z "len") (hm : Z.mg "len" = none) (ha : EV Z g W T He a f1)
    (he : starEach (a :: []) Z.env = (false, eval a Z.env) :: starEach [] Z.env := by rfl) (hpl : (backTo pos (starEach [] Z.env)).any (·.1) = false := by rfl) :
    EV Z g W T He (.Call (.Name "len" px) [a] [] pos) (sUnI sem chkN f1) :=
  pe_w (pe_callB (call_lenI (E := W) hr.room hr.pass) hg hm PySem.boot_len (pa_cons ha pa_nil he) (by decide) (by decide) he hpl) fun σ H Q ⟨Γ, S, rl, w⟩ => by
    obtain ⟨Γ', S', rl', w'⟩ := unI_use (Q := Q) hB ok rl w
    refine ⟨Γ', S', rl', M.wp_mono (fun x h v H' e r => ?_) w'⟩
    obtain ⟨ad, C, dx, fv, f, h1, h2, h3, h4⟩ := h v H' e r
    refine ⟨ad, C, dx, fv, _, by rw [h1], h2, h3, h4.monoQ fun v H' ⟨z, T', H0, r, w⟩ => ?_⟩
    obtain ⟨i, rfl, o1, o2, q⟩ := r.chkN w
    exact ⟨i, rfl, o1, o2, q _ (.int i)⟩
/-! ### a def's body gives its promise -/
def fin1 (p : Fl × List Sl) : M R :=
  match p.1 with
  | .rt z => .ret z
  | .nx => .ret (.at .non)
  | _ => .fail
def frame (n : Nat) (ds : List D) : List Sl := ds.map .v ++ List.replicate (n - ds.length) .no
/-- the run of a def with n names from its parameters' values -/
def runB (n : Nat) (fb : Sst) (ds : List D) : M R := (fb (frame n ds)).bind fin1
theorem start_get {N : List Str} {vs : List V} {i : Nat} {v : V} (h : vs[i]? = some v) : (L2.start N vs)[i]? = some (some v) := by
  unfold L2.start
  rw [List.getElem?_append_left (by rw [List.length_map]; exact (List.getElem?_eq_some_iff.mp h).1), List.getElem?_map, h]; rfl
theorem Rl.start {fd : Fdx} {H : Hp} {N : List Str} {vs : List V} {ds : List D} (hB : SameB g B) (hf : g.fd = fd) (hs : g.self = none) (fo : FdOk (B.wf fd) T H) (r : RpA (B.wf fd) (off H T) vs ds) : Rl g T H [] H (frame N.length ds) (L2.start N vs) := by
  have l := r.length
  subst hf
  refine ⟨by unfold frame L2.start; simp [l], fun i s h => ?_, fun i j o o' a h1 h2 h3 h4 => ?_, fun a h => (by cases h), fun a h => (by cases h), ⟨fo.fd.1, fun p l h => (fo.fd.2.fd p l h).tkl⟩, fo.tk, Ext.of_same (Same.refl _) fo.fd.2, fun a e => (by rw [hs] at e; cases e)⟩
  · unfold frame at h
    by_cases q : i < ds.length
    · rw [List.getElem?_append_left (by rw [List.length_map]; exact q), List.getElem?_map] at h
      obtain ⟨d, hd⟩ : ∃ d, ds[i]? = some d := ⟨ds[i], by simp [q]⟩
      rw [hd] at h
      cases h
      obtain ⟨v, h1, h2⟩ := r.get hd
      exact ⟨v, by rw [start_get h1]; rfl, by rw [List.append_nil]; exact Rp.cg (g := B.wf g.fd) hB.k.symm hB.ad.symm hB.fl.symm rfl hB.dx.symm _ h2⟩
    · rw [List.getElem?_append_right (by rw [List.length_map]; omega), List.getElem?_replicate] at h
      split at h
      · cases h; trivial
      · cases h
  · unfold frame at h1
    exfalso
    by_cases q : i < ds.length
    · rw [List.getElem?_append_left (by rw [List.length_map]; exact q), List.getElem?_map, Option.map_eq_some_iff] at h1
      obtain ⟨d, _, e⟩ := h1
      cases e
    · rw [List.getElem?_append_right (by rw [List.length_map]; omega), List.getElem?_replicate] at h1
      split at h1 <;> cases h1
variable {P : Program} {w : World} {K : PySem.W.Frag} {mg : Str → Option Value} {base : Heap}
theorem fn_run {qual : Str} {st : Stmt} {dvs : List V} {kwd : List (Str × V)} {f : Addr} {N ps : List Str} {fb : Sst} {k : Nat} (D : Fd K x qual st dvs kwd f) (S : FnScope N ps (defScope st)) (hBK : B.K = K)
    (hb : ∀ (cdv : Value) (A : Around) (outer : List Env) (s : Shared) (H : Hp) (E : XK) (fd : Fdx) (T : List Addr), RT k (cxOf (L2.CX P w) P w K mg base N qual (defScope st) f cdv A outer s H E) E →
      PassesOwn (model P w) (A.deeper (envOfC qual (defScope st) s.heap.objs.size f cdv)) (envOfC qual (defScope st) s.heap.objs.size f cdv) (cxOf (L2.CX P w) P w K mg base N qual (defScope st) f cdv A outer s H E).xe →
      ESs (cxOf (L2.CX P w) P w K mg base N qual (defScope st) f cdv A outer s H E) (B.wf fd) E T H (defBody st) fb) :
    Fo P w K mg base (L2.CX P w) (k + 1) x qual st dvs kwd f ps (spB B (runB N.length fb) ps.length) :=
  fo_mkX D S (fun vs H Q E h => h.1) fun cdv A outer s H vs Q E hr ⟨hl, fd, T, ds, fo, r, w⟩ => ⟨_, hb cdv A outer s H E fd T ⟨hr, takes_of rfl rfl rfl rfl⟩ (passes_of rfl), by
    refine ⟨frame N.length ds, [], Rl.start ⟨rfl, rfl, rfl, rfl, rfl, rfl⟩ rfl rfl fo r, ?_⟩
    simp only [runB, M.wp_bind] at w
    refine M.wp_mono (fun p w => ?_) w
    obtain ⟨fl, Γ1⟩ := p
    cases fl with
    | nx => exact fun σ' S' H' rl fr => w .non H' rl.ex .non
    | bk => exact w.elim
    | ct => exact w.elim
    | rt z => exact w⟩
end
end G
namespace G
open PySem PySem.Spec L2
open PyProof.Rows hiding St
/-! ### forms of calls -/
def permute {α : Type} (ix : List Nat) (xs : List α) : List α := ix.filterMap fun i => xs[i]?
theorem permute_vals {xs : List V} {us : List Value} (r : Vals xs us) : ∀ ix : List Nat, Vals (permute ix xs) (permute ix us)
  | [] => .nil
  | i :: ix => by
    have ih := permute_vals r ix
    unfold permute at ih ⊢
    rw [List.filterMap_cons, List.filterMap_cons]
    cases h : xs[i]? with
    | none => rw [r.none_of h]; exact ih
    | some x => obtain ⟨u, h1, h2⟩ := r.get h; rw [h1]; exact .cons h2 ih
theorem permute_rp {g : Cf} {H : Hp} {xs : List V} {us : List D} (r : RpA g H xs us) : ∀ ix : List Nat, RpA g H (permute ix xs) (permute ix us)
  | [] => .nil
  | i :: ix => by
    have ih := permute_rp r ix
    unfold permute at ih ⊢
    rw [List.filterMap_cons, List.filterMap_cons]
    cases h : xs[i]? with
    | none =>
      have : us[i]? = none := by
        rw [List.getElem?_eq_none_iff] at h ⊢
        rw [← r.length]; exact h
      rw [this]; exact ih
    | some x => obtain ⟨u, h1, h2⟩ := r.getV h; rw [h1]; exact .cons h2 ih
theorem permute_len {α : Type} {xs : List α} : ∀ {ix : List Nat}, (∀ i ∈ ix, i < xs.length) → (permute ix xs).length = ix.length
  | [], _ => rfl
  | i :: ix, h => by
    have ih := permute_len (xs := xs) (ix := ix) fun j hj => h j (List.mem_cons_of_mem _ hj)
    unfold permute at ih ⊢
    rw [List.filterMap_cons, List.getElem?_eq_getElem (h i List.mem_cons_self)]
    exact congrArg Nat.succ ih
def runF {α : Type} (n : Nat) (ix : List Nat) (dd : List D) (sem : List D → M α) (ds es : List D) : M α := if ds.length = n then sem (permute ix (ds ++ es ++ dd)) else .fail
section
variable {B : Cf} {P : Program} {w : World} {K : PySem.W.Frag} {mg : Str → Option Value} {base : Heap} {k n : Nat} {x qual : Str} {st : Stmt} {dvs : List V} {kwd : List (Str × V)} {f : Addr} {ps ks : List Str} {sem : List D → M R} {ix : List Nat} {dv : List V} {dd : List D}
/-- how a form of call binds -/
def KbOk (K : PySem.W.Frag) (x qual : Str) (st : Stmt) (dvs : List V) (kwd : List (Str × V)) (f : Addr) (ps : List Str) (n : Nat) (ks : List Str) (ix : List Nat) (dv : List V) : Prop :=
  ∀ fd, FunD K x qual (defArgs st) (defBody st) (defScope st) dvs kwd f fd → ∃ xv : List Value, KBn K fd ps n ks (fun us ws => permute ix (us ++ ws ++ xv)) (fun vs zs => permute ix (vs ++ zs ++ dv))
theorem form_of (o : Fo P w K mg base (L2.CX P w) k x qual st dvs kwd f ps (spB B sem ps.length)) (kb : KbOk K x qual st dvs kwd f ps n ks ix dv) (hd : ∀ fd H, RpA (B.wf fd) H dv dd) (hix : ix.length = ps.length) (hlt : ∀ i ∈ ix, i < n + ks.length + dv.length) :
    FnA P w K mg base (L2.CX P w) k f ks (spC B (runF n ix dd sem)) := by
  obtain ⟨fd, F, ok⟩ := o.ex
  obtain ⟨xv, kbn⟩ := kb fd F
  refine ⟨fun A outer s H us ws vs zs Q E hr he r1 r2 l hs => ?_⟩
  obtain ⟨fo, T, ds, es, h1, h2, h3, h4⟩ := hs
  unfold runF at h4
  split at h4
  rotate_left
  · exact h4.elim
  rename_i hn
  have lv : vs.length = n := by rw [h2.length]; exact hn
  have hlen : (permute ix (vs ++ zs ++ dv)).length = ps.length := by
    rw [permute_len fun i hi => ?_, hix]
    have := hlt i hi
    simp only [List.length_append]
    omega
  exact (ok.toK kbn).run A outer s H us ws vs zs Q E hr he r1 r2 l ⟨lv, hlen, fo, T, _, h1, permute_rp ((h2.append h3).append (hd fo _)) ix, h4⟩
theorem kbA (h : ∀ (kV doc pm : Value) (an : Option Addr) (cdv ct : Value) (us ws : List Value), us.length = n → ws.length = ks.length →
      bindArgs (PySem.W.fnOf x qual (defArgs st) (defBody st) (defScope st) .none kV doc pm an cdv ct) ⟨us, ks.zip ws⟩ = pure (ps.zip (permute ix (us ++ ws ++ [])))) : KbOk K x qual st [] kwd f ps n ks ix [] := fun fd F => by
  obtain ⟨oc, od, dV, kV, doc, pm, an, cdv, ct, osl, rfl, lk, hcd, hD, hK⟩ := F.ex
  rcases hD with ⟨_, rfl⟩ | ⟨e, _⟩
  · exact ⟨[], fun s us ws _ l1 l2 => .of_eq (h kV doc pm an cdv ct us ws l1 l2), fun r1 r2 => permute_vals ((r1.append r2).append .nil) ix⟩
  · exact absurd rfl e
theorem kbB {ms : List (Str × V)} (hk : kwd ≠ []) (hms : ∀ q ∈ ms, q ∈ kwd) (h : ∀ (D : Addr) (doc pm : Value) (an : Option Addr) (cdv ct : Value) (us ws mv : List Value), us.length = n → ws.length = ks.length → mv.length = ms.length →
      KwChain D ((ms.map (·.1)).zip mv) (bindArgs (PySem.W.fnOf x qual (defArgs st) (defBody st) (defScope st) .none (.ref D) doc pm an cdv ct) ⟨us, ks.zip ws⟩) (ps.zip (permute ix (us ++ ws ++ mv)))) : KbOk K x qual st [] kwd f ps n ks ix (ms.map (·.2)) := fun fd F => by
  obtain ⟨oc, od, dV, kV, doc, pm, an, cdv, ct, osl, rfl, lk, hcd, hD, hK⟩ := F.ex
  rcases hD with ⟨_, rfl⟩ | ⟨e, _⟩
  · rcases hK with e | ⟨D, rfl, hq⟩
    · exact absurd e hk
    · obtain ⟨mv, hl, rk, hks⟩ := kwd_vals (ms := ms) fun q hm => hq q (hms q hm)
      refine ⟨mv, fun s us ws X l1 l2 => ?_, fun r1 r2 => permute_vals ((r1.append r2).append rk) ix⟩
      exact BindsTo.of_looks fun M => KwChain.looks X hks (h D doc pm an cdv ct us ws mv l1 l2 hl)
  · exact absurd rfl e
theorem kbC (hd : dvs ≠ []) (h : ∀ (T : Addr) (kV doc pm : Value) (an : Option Addr) (cdv ct : Value) (us ws its : List Value), us.length = n → ws.length = ks.length → its.length = dvs.length →
      ∃ k, bindArgs (PySem.W.fnOf x qual (defArgs st) (defBody st) (defScope st) (.ref T) kV doc pm an cdv ct) ⟨us, ks.zip ws⟩ = seqItems? (.ref T) >>= k ∧ k (some its.toArray) = pure (ps.zip (permute ix (us ++ ws ++ its)))) : KbOk K x qual st dvs kwd f ps n ks ix dvs := fun fd F => by
  obtain ⟨oc, od, dV, kV, doc, pm, an, cdv, ct, osl, rfl, lk, hcd, hD, hK⟩ := F.ex
  rcases hD with ⟨e, _⟩ | ⟨_, T, o, its, m, rfl, lT, oT, rT⟩
  · exact absurd e hd
  · refine ⟨its, fun s us ws X l1 l2 => ?_, fun r1 r2 => permute_vals ((r1.append r2).append rT) ix⟩
    obtain ⟨k, e1, e2⟩ := h T kV doc pm an cdv ct us ws its l1 l2 rT.length.symm
    refine BindsTo.of_looks fun M => ?_
    rw [e1]
    exact looks_items X lT oT (by rw [e2]; exact PySem.W.Looks.of_pure rfl)
theorem kbD {ms : List (Str × V)} (hd : dvs ≠ []) (hk : kwd ≠ []) (hms : ∀ q ∈ ms, q ∈ kwd) (h : ∀ (T D : Addr) (doc pm : Value) (an : Option Addr) (cdv ct : Value) (us ws its mv : List Value), us.length = n → ws.length = ks.length → its.length = dvs.length → mv.length = ms.length →
      ∃ k, bindArgs (PySem.W.fnOf x qual (defArgs st) (defBody st) (defScope st) (.ref T) (.ref D) doc pm an cdv ct) ⟨us, ks.zip ws⟩ = seqItems? (.ref T) >>= k ∧ KwChain D ((ms.map (·.1)).zip mv) (k (some its.toArray)) (ps.zip (permute ix (us ++ ws ++ (its ++ mv))))) : KbOk K x qual st dvs kwd f ps n ks ix (dvs ++ ms.map (·.2)) := fun fd F => by
  obtain ⟨oc, od, dV, kV, doc, pm, an, cdv, ct, osl, rfl, lk, hcd, hD, hK⟩ := F.ex
  rcases hD with ⟨e, _⟩ | ⟨_, T, o, its, m, rfl, lT, oT, rT⟩
  · exact absurd e hd
  · rcases hK with e | ⟨D, rfl, hq⟩
    · exact absurd e hk
    · obtain ⟨mv, hl, rk, hks⟩ := kwd_vals (ms := ms) fun q hm => hq q (hms q hm)
      refine ⟨its ++ mv, fun s us ws X l1 l2 => ?_, fun r1 r2 => permute_vals ((r1.append r2).append (rT.append rk)) ix⟩
      obtain ⟨k, e1, e2⟩ := h T D doc pm an cdv ct us ws its mv l1 l2 rT.length.symm hl
      refine BindsTo.of_looks fun M => ?_
      rw [e1]
      exact looks_items X lT oT (KwChain.looks X hks e2)
/-! ### __init__ -/
/-- a def's own promise, of __init__: the new instance at x, then the others -/
def spJ (B : Cf) (C : Nat) (sem : List D → M O) (n : Nat) : Sp := fun vs H Q E => vs.length = n ∧ ∃ x dx He fd T us ds, vs = .ref x :: us ∧ H = upd (upd He dx (.own x)) x (.ins (B.ad C) dx []) ∧ He x = none ∧ He dx = none ∧ dx ≠ x ∧ FdOk (B.wf fd) T He ∧ RpA (B.wf fd) (off He T) us ds ∧
  (sem ds).wp (xp (B.wf fd) E T He) fun o => ∀ H', Ext fd He H' → RpO (B.wf fd) (x :: T) H' x o → Q .non H'
def finI (p : Fl × List Sl) : M O :=
  match p.1, (p.2[0]? : Option Sl) with
  | Fl.nx, some (Sl.c o) => .ret o
  | _, _ => .fail
/-- the run of an __init__ with n names -/
def runI (C n : Nat) (fb : Sst) (ds : List D) : M O := (fb (.c (.i C []) :: frame (n - 1) ds)).bind finI
abbrev Cf.wfs (B : Cf) (fd : Fdx) (x : Addr) : Cf := { B with fd := fd, self := some x }
theorem Rl.startI {fd : Fdx} {He : Hp} {T : List Addr} {N : List Str} {us : List V} {ds : List D} {x dx : Addr} {C : Nat} (hx : He x = none) (hdx : He dx = none) (ne : dx ≠ x) (fo : FdOk (B.wf fd) T He) (r : RpA (B.wf fd) (off He T) us ds) (hN : us.length < N.length) :
    Rl (B.wfs fd x) T He [x] (upd (upd He dx (.own x)) x (.ins (B.ad C) dx [])) (.c (.i C []) :: frame (N.length - 1) ds) (L2.start N (.ref x :: us)) := by
  have l := r.length
  have sm := made_same2 (o1 := .own x) (o2 := .ins (B.ad C) dx []) hx hdx ne
  have ex : Ext fd He (upd (upd He dx (.own x)) x (.ins (B.ad C) dx [])) := Ext.of_same sm fo.fd.2
  have es : L2.start N (.ref x :: us) = some (.ref x) :: (us.map some ++ List.replicate (N.length - 1 - us.length) none) := by
    unfold L2.start
    rw [List.map_cons, List.length_cons, List.cons_append]
    congr 3
    omega
  rw [es]
  have slots : ∀ (i : Nat) (s : Sl), (frame (N.length - 1) ds)[i]? = some s → SlOk (B.wfs fd x) T [x] (upd (upd He dx (.own x)) x (.ins (B.ad C) dx [])) ((us.map some ++ List.replicate (N.length - 1 - us.length) none)[i]?.join) s := fun i s h => by
    unfold frame at h
    by_cases q : i < ds.length
    · rw [List.getElem?_append_left (by rw [List.length_map]; exact q), List.getElem?_map] at h
      obtain ⟨d, hd⟩ : ∃ d, ds[i]? = some d := ⟨ds[i], by simp [q]⟩
      rw [hd] at h
      cases h
      obtain ⟨v, h1, h2⟩ := r.get hd
      refine ⟨v, ?_, ?_⟩
      · rw [List.getElem?_append_left (by rw [List.length_map, l]; exact q), List.getElem?_map, h1]; rfl
      · have h3 : Rp (B.wf fd) (off He (T ++ [x])) v d := h2.mono (by have := off_free (T := T) (S := []) hx; rw [List.append_nil] at this; exact this)
        exact Rp.cg (g := B.wf fd) (g' := B.wfs fd x) rfl rfl rfl rfl rfl _ (h3.mono (sm.offT _))
    · rw [List.getElem?_append_right (by rw [List.length_map]; omega), List.getElem?_replicate] at h
      split at h
      · cases h; trivial
      · cases h
  have nocell : ∀ (i : Nat) (o : O), (frame (N.length - 1) ds)[i]? ≠ some (.c o) := fun i o h => by
    unfold frame at h
    by_cases q : i < ds.length
    · rw [List.getElem?_append_left (by rw [List.length_map]; exact q), List.getElem?_map, Option.map_eq_some_iff] at h
      obtain ⟨d, _, e⟩ := h
      cases e
    · rw [List.getElem?_append_right (by rw [List.length_map]; omega), List.getElem?_replicate] at h
      split at h <;> cases h
  refine ⟨by unfold frame; simp; omega, fun i s h => ?_, fun i j o o' a h1 h2 h3 h4 => ?_, fun a h => ?_, fun a h => ?_, ⟨fo.fd.1, fun p l h => (fo.fd.2.fd p l h).tkl⟩, fo.tk, ex, fun a e => ?_⟩
  · cases i with
    | zero =>
      simp only [List.getElem?_cons_zero, Option.some.injEq] at h
      subst h
      exact ⟨x, rfl, List.mem_singleton.mpr rfl, dx, [], upd_same, rfl, .nil⟩
    | succ i =>
      simp only [List.getElem?_cons_succ] at h ⊢
      exact slots i s h
  · cases i with
    | zero => cases j with
      | zero => rfl
      | succ j => simp only [List.getElem?_cons_succ] at h2; exact absurd h2 (nocell j o')
    | succ i => simp only [List.getElem?_cons_succ] at h1; exact absurd h1 (nocell i o)
  · rw [List.mem_singleton.mp h]; exact ⟨_, upd_same, fun c q z => by cases z⟩
  · rw [List.mem_singleton.mp h]; exact hx
  · cases e; rfl
theorem XdOk.cg {g g' : Cf} (e1 : g.K = g'.K) (e2 : g.ad = g'.ad) (e3 : g.fl = g'.fl) (e4 : g.fd = g'.fd) (e5 : g.xn = g'.xn) (e7 : g.dx = g'.dx) {T : List Addr} {H : Hp} {d : Addr} {C : Nat} {fs : List D} (q : XdOk g T H d C fs) : XdOk g' T H d C fs := by
  obtain ⟨fv, h1, h2, h3⟩ := q
  refine ⟨fv, h1, e5 ▸ h2, fun i f hf => ?_⟩
  obtain ⟨v, e, a, b, c⟩ := h3 i f (e5 ▸ hf)
  exact ⟨v, e, a, b, Rp.cg e1 e2 e3 e4 e7 _ c⟩
theorem xp_cg {g g' : Cf} (e1 : g.K = g'.K) (e2 : g.ad = g'.ad) (e3 : g.fl = g'.fl) (e4 : g.fd = g'.fd) (e5 : g.xn = g'.xn) (e6 : g.ae = g'.ae) (e7 : g.dx = g'.dx) {W : XK} {T : List Addr} {He : Hp} {C : Nat} {fs : List D} (h : xp g W T He C fs) : xp g' W T He C fs :=
  fun d H' e q => e6 ▸ h d H' (e4 ▸ e) (q.cg e1.symm e2.symm e3.symm e4.symm e5.symm e7.symm)
theorem fn_init {N : List Str} {fb : Sst} {C : Nat} (D : Fd K x qual st dvs kwd f) (S : FnScope N ps (defScope st)) (hps : 0 < ps.length) (hpN : ps.length ≤ N.length)
    (hb : ∀ (cdv : Value) (A : Around) (outer : List Env) (s : Shared) (H He : Hp) (E : XK) (fd : Fdx) (T : List Addr) (a : Addr), RT k (cxOf (L2.CX P w) P w K mg base N qual (defScope st) f cdv A outer s H E) E →
      PassesOwn (model P w) (A.deeper (envOfC qual (defScope st) s.heap.objs.size f cdv)) (envOfC qual (defScope st) s.heap.objs.size f cdv) (cxOf (L2.CX P w) P w K mg base N qual (defScope st) f cdv A outer s H E).xe →
      ESs (cxOf (L2.CX P w) P w K mg base N qual (defScope st) f cdv A outer s H E) (B.wfs fd a) E T He (defBody st) fb) :
    Fo P w K mg base (L2.CX P w) (k + 1) x qual st dvs kwd f ps (spJ B C (runI C N.length fb) ps.length) :=
  fo_mkX D S (fun vs H Q E h => h.1) fun cdv A outer s H vs Q E hr ⟨hl, a, dx, He, fd, T, us, ds, e1, e2, hx, hdx, ne, fo, r, w⟩ => ⟨_, hb cdv A outer s H He E fd T a ⟨hr, takes_of rfl rfl rfl rfl⟩ (passes_of rfl), by
    subst e1
    subst e2
    refine ⟨_, [a], Rl.startI hx hdx ne fo r (by simp only [List.length_cons] at hl; omega), ?_⟩
    simp only [runI, M.wp_bind] at w
    refine M.wp_monoE (fun p w => ?_) (fun C fs h => xp_cg (g := B.wf fd) (g' := B.wfs fd a) rfl rfl rfl rfl rfl rfl rfl h) w
    obtain ⟨fl, Γ1⟩ := p
    unfold finI at w
    cases fl with
    | bk => exact w.elim
    | ct => exact w.elim
    | rt z => exact w.elim
    | nx =>
      split at w <;> first | exact w.elim | skip
      rename_i o _ h0
      intro σ' S' H' rl fr
      obtain ⟨b, h1, h2, h3⟩ := rl.sl 0 _ h0
      have s0 := rl.s0 a rfl
      rw [s0] at h1
      cases h1
      have h4 : RpO (B.wfs fd a) (a :: T) H' a o := h3.sub fun b hb => (by
        rcases List.mem_cons.mp hb with rfl | hb
        · exact List.mem_append_right _ h2
        · exact List.mem_append_left _ hb)
      exact w H' rl.ex (RpO.cg (g := B.wfs fd a) (g' := B.wf fd) rfl rfl rfl rfl rfl h4)⟩
theorem form_init {semI : List D → M O} {C : Nat} (o : Fo P w K mg base (L2.CX P w) k x qual st dvs kwd f ps (spJ B C semI ps.length)) (kb : KbOk K x qual st dvs kwd f ps (n + 1) ks (0 :: ix.map (· + 1)) dv) (hd : ∀ fd H, RpA (B.wf fd) H dv dd) (hix : ix.length + 1 = ps.length) (hlt : ∀ i ∈ ix, i < n + ks.length + dv.length) :
    FnA P w K mg base (L2.CX P w) k f ks (spI B C (runF n ix dd semI)) := by
  obtain ⟨fd, F, ok⟩ := o.ex
  obtain ⟨xv, kbn⟩ := kb fd F
  refine ⟨fun A outer s H us ws vs zs Q E hr he r1 r2 l hs => ?_⟩
  obtain ⟨a, dx, He, fo, T, vs', ds, es, rfl, e2, hx, hdx, ne, h1, h2, h3, h4⟩ := hs
  unfold runF at h4
  split at h4
  rotate_left
  · exact h4.elim
  rename_i hn
  have lv : vs'.length = n := by rw [h2.length]; exact hn
  have key : permute (0 :: ix.map (· + 1)) (V.ref a :: vs' ++ zs ++ dv) = V.ref a :: permute ix (vs' ++ zs ++ dv) := by
    unfold permute
    rw [List.filterMap_cons, List.filterMap_map]
    rfl
  have hlen : (permute ix (vs' ++ zs ++ dv)).length = ix.length := by
    rw [permute_len fun i hi => ?_]
    have := hlt i hi
    simp only [List.length_append]
    omega
  refine (ok.toK kbn).run A outer s H us ws (.ref a :: vs') zs Q E hr he r1 r2 l ⟨by rw [List.length_cons, lv], ?_⟩
  rw [key]
  exact ⟨by rw [List.length_cons, hlen, hix], a, dx, He, fo, T, _, _, rfl, e2, hx, hdx, ne, h1, permute_rp ((h2.append h3).append (hd fo _)) ix, h4⟩
/-! ### the drawing of numbers -/
def semTake (ds es : List D) : M R := match ds, es with
  | [.feed, .int m], [] => if 0 < m ∧ m < 1000 then .draw m.toNat fun r => .ret (.at (.int (r : Nat))) else .fail
  | _, _ => .fail
/-- what lets nothing out keeps any wish -/
theorem FnOk.up {fd : FuncData} {ps : List Str} {sp : Sp} (F : FnOk P w K mg base CX0 k f fd ps sp) : FnOk P w K mg base (L2.CX P w) k f fd ps sp :=
  ⟨F.len, fun A outer s H args us vs Q E hr he hb hv hs => codeAny_mono (F.run A outer s H args us vs Q E hr he hb hv hs) fun r s' h => by
    cases r with
    | ok fl =>
      cases fl with
      | ret u => exact h
      | next => exact (show False from h).elim
      | brk => exact (show False from h).elim
      | cont => exact (show False from h).elim
    | error e => exact (show False from h).elim⟩
theorem FnOk.toTake {fd : FuncData} {ps : List Str} {ds : List Value} (F : FnOk P w K mg base CX0 k f fd ps spTake) (hb : Binds K fd ps ds) (hd : Vals [] ds) : FnA P w K mg base (L2.CX P w) k f [] (spC B semTake) :=
  ((FnOk.up F).toA hb hd).imp fun vs zs H Q E ⟨fdd, T, ds, es, fo, r1, r2, w⟩ => by
    unfold semTake at w
    split at w <;> first | exact w.elim | skip
    rename_i m
    split at w <;> first | exact w.elim | skip
    rename_i hm
    cases r1 with
    | cons h t =>
      cases h with
      | @feed p l hp =>
        cases t with
        | cons h t =>
          cases h
          cases t
          have hfd : fdd.f = some (p, l) := hp
          have hF := fo.fd.2.fd p l hp
          refine ⟨p, l, m, rfl, hF, hm.1, hm.2, fun r H' h0 h1 mv => ?_⟩
          have e : r = ((r.toNat : Nat) : Int) := (Int.toNat_of_nonneg h0).symm
          rw [e]
          refine w r.toNat (by omega) _ H' ⟨fun b o n hb => mv.1 b o (fun z => n (by rw [z]; exact .inl ⟨l, hfd⟩)) hb, fun p' l' h => ?_, ?_⟩ (.int _)
          · rw [hfd] at h
            cases h
            exact mv.2
          · obtain ⟨_, _, _, _, hl, _⟩ := hF
            exact Fdx.tabs_but fo.fd.2.tb (fun q z => by rw [hl] at z; cases z) (noCode hl fun f z => by cases z) mv.1
end
end G
namespace G
open PySem PySem.Spec L2
open PyProof.Rows hiding St
/-! ### starred items, a star parameter of __init__ -/
def starD : X → M (List D)
  | .p (.lst ds) => .ret ds
  | .p (.tup ds) => .ret ds
  | .c (.l ds) => .ret ds
  | .b (.l ds) => .ret ds
  | _ => .fail
def sStar (f1 : Se X) (fs : Se (List X)) : Se (List X) := fun Γ => (f1 Γ).bind fun x => (starD x).bind fun ds => (fs Γ).bind fun xs => .ret (ds.map X.p ++ xs)
section
variable {Z : Cx} {g : Cf} {W : XK} {T : List Addr} {He : Hp} {e : Expr} {es : List Expr} {f1 : Se X} {fs : Se (List X)}
theorem RpA.xs {S : List Addr} {H0 H : Hp} : ∀ {vs : List V} {ds : List D}, RpA g (off H (T ++ S)) vs ds → RpXs g T S H0 H vs (ds.map X.p)
  | _, _, .nil => .nil
  | _, _, .cons h t => .cons h (RpA.xs t)
theorem RpXs.app {S : List Addr} {H0 H : Hp} : ∀ {vs us : List V} {xs ys : List X}, RpXs g T S H0 H vs xs → RpXs g T S H0 H us ys → RpXs g T S H0 H (vs ++ us) (xs ++ ys)
  | _, _, _, _, .nil, s => s
  | _, _, _, _, .cons h t, s => .cons h (RpXs.app t s)
theorem ea_star {p : Pos} (hK : Z.K = g.K) (he : EV Z g W T He e f1) (hr : EA Z g W T He es fs) (hs : starEach (.Starred e p :: es) Z.env = (true, eval e Z.env) :: starEach es Z.env := by rfl) : EA Z g W T He (.Starred e p :: es) (sStar f1 fs) :=
  pa_w (StX.pa_star he hr hs) fun σ H Q ⟨Γ, S, rl, w⟩ => by
    simp only [sStar, M.wp_bind, M.wp_ret] at w
    refine rdE.use rl (M.wp_mono (fun x w v1 H1 e1 l1 x1 => ?_) w)
    have key : ∀ (p : Addr) (vs : List V) (ds : List D), starD x = .ret ds → v1 = .ref p → (SqT Z.K H1 p vs ∨ SqL Z.K H1 p vs) → RpA g (off H1 (T ++ S)) vs ds → ∃ p xs, v1 = V.ref p ∧ (SqT Z.K H1 p xs ∨ SqL Z.K H1 p xs) ∧ rdA g W T He fs σ H1 fun ys H2 => Q (xs ++ ys) H2 := by
      intro p vs ds hd hv hs hr
      rw [hd] at w
      refine ⟨p, vs, hv, hs, rdA.use l1 (M.wp_mono (fun xs w us H2 e2 l2 xx => ?_) w)⟩
      exact w (vs ++ us) H2 (e1.trans e2) (((hr.xs (H0 := H)).mono e2 l1.t).app (xx.early e1 l1.t))
    have key' := fun p vs ds a b c d => key p vs ds a b (hK ▸ c) d
    clear key
    revert w key'
    unfold starD
    split <;> intro w key' <;> first | exact w.elim | skip
    · cases x1 with
      | lst h1 h2 => exact key' _ _ _ rfl rfl (.inr (SqL.of (off_same _ _ _ _ h1))) h2
    · cases x1 with
      | tup h1 h2 => exact key' _ _ _ rfl rfl (.inl (Same.seqTT (off_same _ _) h1)) h2
    · obtain ⟨ad, rfl, _, n, vs, h1, h2⟩ := x1
      exact key' _ _ _ rfl rfl (.inr (SqL.of h1)) (RpA.mono (off_sub (H := H1) fun b hb => List.mem_cons_of_mem ad hb) _ h2)
    · obtain ⟨ad, rfl, _, n, vs, h1, h2⟩ := x1
      exact key' _ _ _ rfl rfl (.inr (SqL.of h1)) h2
end
/-- the run of an __init__(self, *v) -/
def runStarI {α : Type} (sem : List D → M α) (ds es : List D) : M α := if es.length = 0 ∧ ds.length ≤ 100000 then sem [.tup ds] else .fail
section
variable {P : Program} {w : World} {K : PySem.W.Frag} {mg : Str → Option Value} {base : Heap} {k : Nat} {x qual : Str} {st : Stmt} {f : Addr} {B : Cf}
theorem fn_initS {N : List Str} {pv : Str} {fb : Sst} {C : Nat} (D : Fd K x qual st [] [] f) (S : FnScope N ["self", pv] (defScope st)) (hpN : 2 ≤ N.length)
    (hB : ∀ (kV doc pm : Value) (an : Option Addr) (cdv ct : Value) (us rest : List Value), us.length = 1 → bindArgs (PySem.W.fnOf x qual (defArgs st) (defBody st) (defScope st) .none kV doc pm an cdv ct) ⟨us ++ rest, []⟩ = (newTuple rest >>= fun t => pure (([("self" : Str)]).zip us ++ [(pv, t)])))
    (hb : ∀ (cdv : Value) (A : Around) (outer : List Env) (s : Shared) (H He : Hp) (E : XK) (fd : Fdx) (T : List Addr) (a : Addr), RT k (cxOf (L2.CX P w) P w K mg base N qual (defScope st) f cdv A outer s H E) E →
      PassesOwn (model P w) (A.deeper (envOfC qual (defScope st) s.heap.objs.size f cdv)) (envOfC qual (defScope st) s.heap.objs.size f cdv) (cxOf (L2.CX P w) P w K mg base N qual (defScope st) f cdv A outer s H E).xe →
      ESs (cxOf (L2.CX P w) P w K mg base N qual (defScope st) f cdv A outer s H E) (B.wfs fd a) E T He (defBody st) fb) :
    FnA P w K mg base (L2.CX P w) (k + 1) f [] (spI B C (runStarI (runI C N.length fb))) := by
  have o := fo_star (CX := L2.CX P w) (mg := mg) (base := base) (P := P) (w := w) (k := k) (ps := ["self"]) (pv := pv) (N := N) D S StX.cxUp hB
    (sp := fun vs H Q E => ∃ x dx p He fd T us ds, vs = [.ref x, .ref p] ∧ H = upd (upd (upd He dx (.own x)) x (.ins (B.ad C) dx [])) p (.tup us) ∧ He x = none ∧ He dx = none ∧ dx ≠ x ∧ upd (upd He dx (.own x)) x (.ins (B.ad C) dx []) p = none ∧ FdOk (B.wf fd) T He ∧ RpA (B.wf fd) (off He T) us ds ∧
      (runI C N.length fb [.tup ds]).wp (xp (B.wf fd) E T He) fun o => ∀ H', Ext fd He H' → RpO (B.wf fd) (x :: T) H' x o → Q .non H')
    fun cdv A outer s H vs Q E hr ⟨a, dx, p, He, fd, T, us, ds, e1, e2, hx, hdx, ne, hp, fo, r, w⟩ => ⟨_, hb cdv A outer s H He E fd T a ⟨hr, takes_of rfl rfl rfl rfl⟩ (passes_of rfl), by
    subst e1
    subst e2
    have l0 := Rl.startI (B := B) (fd := fd) (T := T) (N := N) (us := []) (ds := []) (C := C) hx hdx ne fo .nil (by simp only [List.length_nil]; omega)
    have r1 : RpA (B.wf fd) (off (upd (upd He dx (.own a)) a (.ins (B.ad C) dx [])) (T ++ [a])) us ds := by
      refine RpA.mono ?_ _ r
      have := off_free (T := T) (S := []) hx
      rw [List.append_nil] at this
      exact this.trans ((made_same2 hx hdx ne).offT _)
    have hn := l0.freeTS hp
    have l1 := l0.mono (l0.ext_new (o := .tup us) hp)
    have rt : Rp (B.wf fd) (off (upd (upd (upd He dx (.own a)) a (.ins (B.ad C) dx [])) p (.tup us)) (T ++ [a])) (.ref p) (.tup ds) :=
      .tup (SqT.of (by rw [off_ne hn]; exact upd_same)) (RpA.mono ((Same.newT hp).offT _) _ r1)
    have l2 := l1.set_v (i := 1) (.inl (by decide)) (Rp.cg (g := B.wf fd) (g' := B.wfs fd a) rfl rfl rfl rfl rfl _ rt)
    obtain ⟨n, hn2⟩ : ∃ n, N.length = n + 2 := ⟨N.length - 2, by omega⟩
    have es : (L2.start N [.ref a]).set 1 (some (.ref p)) = L2.start N [.ref a, .ref p] := by
      unfold L2.start
      simp only [hn2, List.length_cons, List.length_nil, List.map_cons, List.map_nil]
      rfl
    have eg : ((.c (.i C []) :: frame (N.length - 1) []).set 1 (.v (.tup ds)) : List Sl) = .c (.i C []) :: frame (N.length - 1) [.tup ds] := by
      rw [hn2]
      rfl
    rw [es, eg] at l2
    refine ⟨_, [a], l2, ?_⟩
    simp only [runI, M.wp_bind] at w
    refine M.wp_monoE (fun p w => ?_) (fun C fs h => xp_cg (g := B.wf fd) (g' := B.wfs fd a) rfl rfl rfl rfl rfl rfl rfl h) w
    obtain ⟨fl, Γ1⟩ := p
    unfold finI at w
    cases fl with
    | bk => exact w.elim
    | ct => exact w.elim
    | rt z => exact w.elim
    | nx =>
      split at w <;> first | exact w.elim | skip
      rename_i o _ h0
      intro σ' S' H' rl fr
      obtain ⟨b, h1, h2, h3⟩ := rl.sl 0 _ h0
      have s0 := rl.s0 a rfl
      rw [s0] at h1
      cases h1
      have h4 : RpO (B.wfs fd a) (a :: T) H' a o := h3.sub fun b hb => (by
        rcases List.mem_cons.mp hb with rfl | hb
        · exact List.mem_append_right _ h2
        · exact List.mem_append_left _ hb)
      exact w H' rl.ex (RpO.cg (g := B.wfs fd a) (g' := B.wf fd) rfl rfl rfl rfl rfl h4)⟩
  refine o.imp fun vs zs H Q E ⟨a, dx, He, fd, T, us, ds, es, h1, h2, hx, hdx, ne, fo, r, rz, w⟩ => ?_
  unfold runStarI at w
  split at w
  · rename_i hz
    refine ⟨[.ref a], us, h1, rfl, big (by rw [r.length]; exact hz.2), fun p hp => ⟨a, dx, p, He, fd, T, us, ds, rfl, ?_, hx, hdx, ne, ?_, fo, r, w⟩⟩
    · rw [h2]
    · rw [← h2]; exact hp
  · exact w.elim
end
section
variable {Z : Cx} {g : Cf} {W : XK} {T S : List Addr} {H0 He H : Hp} {a : Addr} {Γ : List Sl} {σ : St}
/-- a new object that no name holds yet -/
theorem Rl.ext_c (r : Rl g T He S H0 Γ σ) (e : Ext g.fd H0 H) (hn : H0 a = none) (ht : Tkd H a) : Rl g T He (a :: S) H Γ σ := by
  have t' : ∀ p, g.fd.mv p → p ∈ T ++ (a :: S) := fun p h => List.mem_append_left _ (r.t p h)
  have sm : Same (off H0 (T ++ S)) (off H (T ++ (a :: S))) := (off_free hn).trans (e.off t')
  refine ⟨r.len, fun j s q => ?_, r.ne, fun b h => ?_, fun b h => ?_, r.ft, r.tt, r.ex.trans e, r.s0⟩
  · have y := r.sl j s q
    cases s with
    | no => trivial
    | v d => obtain ⟨v, h1, h2⟩ := y; exact ⟨v, h1, h2.mono sm⟩
    | c o' => obtain ⟨b, h1, h2, h3⟩ := y; exact ⟨b, h1, List.mem_cons_of_mem _ h2, h3.mono (fun o' h => e.at r.t (r.nT h2) h) sm⟩
  · rcases List.mem_cons.mp h with rfl | h
    · exact ht
    · obtain ⟨u, q, n⟩ := r.tk b h
      exact ⟨u, e.at r.t (r.nT h) q, n⟩
  · rcases List.mem_cons.mp h with rfl | h
    · exact r.ex.free hn fun h => r.okd.tk h hn
    · exact r.nw b h
theorem RpO.tk {o : O} (r : RpO g T H a o) : H a ≠ none := by
  cases o with
  | l ds => obtain ⟨vs, h1, _⟩ := r; rw [h1]; intro z; cases z
  | i C fs => obtain ⟨dx, fv, h1, _⟩ := r; rw [h1]; intro z; cases z
def sPar2 (kx ky : Bool) (i j : Nat) (f1 f2 : Se X) : Sst := fun Γ => (f1 Γ).bind fun x => (f2 Γ).bind fun y => (asgX kx i x Γ).bind fun Γ1 => (asgX ky j y Γ1).bind fun Γ2 => M.ret (Fl.nx, Γ2)
theorem es_par2 {kx ky : Bool} {i j : Nat} {x y : Str} {a b : Expr} {f1 f2 : Se X} {px py pt pos : Pos} {kt k2 pt2} (h0 : g.ok0 i) (h0' : g.ok0 j) (hc : Z.calm = true) (hN : Z.N.Nodup) (hi : Z.N[i]? = some x) (hj : Z.N[j]? = some y) (hij : i ≠ j)
    (hx : Z.env.scope.names.lookup x = some .local) (hy : Z.env.scope.names.lookup y = some .local) (ha : EV Z g W T He a f1) (hb : EV Z g W T He b f2)
    (hw : swappedStores [.Tuple [.Name x px, .Name y py] kt pt] (.Tuple [a, b] k2 pt2) Z.env = pure (some [x, y]))
    (hs : swapsWithSole [.Tuple [.Name x px, .Name y py] kt pt] (.Tuple [a, b] k2 pt2) pos.line Z.env = pure false := by rfl)
    (hs1 : starEach [a, b] Z.env = (false, eval a Z.env) :: starEach [b] Z.env := by rfl) (hs2 : starEach [b] Z.env = (false, eval b Z.env) :: starEach [] Z.env := by rfl) :
    ES Z g W T He (.Assign [.Tuple [.Name x px, .Name y py] kt pt] (.Tuple [a, b] k2 pt2) pos) (sPar2 kx ky i j f1 f2) :=
  ps_w (ps_par hc hN hi hj hij hx hy (pa_cons ha (pa_cons hb pa_nil hs2) hs1) hw hs) fun D σ H ⟨Γ, S, rl, w⟩ => by
    simp only [sPar2, M.wp_bind] at w
    refine rdE.use rl (M.wp_mono (fun x w v1 H1 e1 l1 x1 => ?_) w)
    have fin : ∀ (Γ1 : List Sl) (S1 : List Addr), asgX kx i x Γ = .ret Γ1 → Rl g T He S1 H1 Γ σ → Rl g T He S1 H1 Γ1 (σ.set i (some v1)) → FrS T S H S1 H1 → ∃ Γ S, Rl g T He S H1 Γ σ ∧ (f2 Γ).wp (xp g W T He) fun y => ∀ v2 H2, Ext g.fd H1 H2 → RpX g T S H1 H2 v2 y → ∃ v w, [v1, v2] = [v, w] ∧ D.nx ((σ.set i (some v)).set j (some w)) H2 := by
      intro Γ1 S1 ea r1 r2 fr
      refine ⟨Γ, S1, r1, M.wp_mono (fun y w v2 H2 e2 x2 => ⟨_, _, rfl, ?_⟩) w⟩
      rw [ea] at w
      refine asgX_use (W := W) (keep := ky) h0' r2 e2 x2 ?_
      refine M.wp_mono (fun p w => SPost.from fr w) ?_
      simpa only [M.wp_bind, M.wp_ret] using w
    cases x with
    | b o => refine ⟨Γ, S, l1, M.wp_mono (fun y w => w.elim) w⟩
    | t d => refine ⟨Γ, S, l1, M.wp_mono (fun y w => w.elim) w⟩
    | p d => exact fin _ S rfl l1 (l1.set_v h0 x1) (rl.frs e1)
    | c o =>
      cases kx with
      | false => exact fin _ S rfl l1 (l1.set_v h0 (x1.toD' rfl)) (rl.frs e1)
      | true =>
        obtain ⟨ad, rfl, hn, n, r⟩ := x1
        exact fin _ (ad :: S) rfl (rl.ext_c e1 hn r.tkd) (rl.set_c h0 e1 hn r) ((off_free hn).trans (e1.off fun p h => List.mem_append_left _ (rl.t p h)))
theorem SameB.flo {B : Cf} {f : Str} {ix : Nat → Option Nat} (h : SameB g B) (o : FlOk B f ix) : FlOk g f ix := ⟨fun C i e => by rw [h.k, h.ad, h.fl]; exact o.ok C i e⟩
theorem SameB.tyv {B : Cf} (h : SameB g B) (d : D) : d.tyv g = d.tyv B := by cases d <;> simp only [D.tyv, h.ad]
theorem SameB.ik {B : Cf} {u : Value} {p : D → Option Bool} (h : SameB g B) (o : IsK B u p) : IsK g u p := ⟨fun d b e => by rw [h.k, h.tyv]; exact o.ok d b e, o.nf, o.nj, o.nk⟩
end
/-! isinstance of the built-in classes -/
def bStr : D → Option Bool
  | .str _ => some true
  | .ins _ _ => none
  | .feed => none
  | .fn _ => none
  | .dk _ _ => none
  | .dn _ _ => none
  | _ => some false
def bInt : D → Option Bool
  | .int _ => some true
  | .bl _ => some true
  | .ins _ _ => none
  | .feed => none
  | .fn _ => none
  | .dk _ _ => none
  | .dn _ _ => none
  | _ => some false
def bBool : D → Option Bool
  | .bl _ => some true
  | .ins _ _ => none
  | .feed => none
  | .fn _ => none
  | .dk _ _ => none
  | .dn _ _ => none
  | _ => some false
def bList : D → Option Bool
  | .lst _ => some true
  | .ins _ _ => none
  | .feed => none
  | .fn _ => none
  | .dk _ _ => none
  | .dn _ _ => none
  | _ => some false
def bTuple : D → Option Bool
  | .tup _ => some true
  | .ins _ _ => none
  | .feed => none
  | .fn _ => none
  | .dk _ _ => none
  | .dn _ _ => none
  | _ => some false
section
variable {g : Cf}
theorem ik_str : IsK g (.type "str") bStr := ⟨fun d b h => by cases d <;> first | (cases h; done) | (cases h; exact kit_ty rfl), rfl, fun _ => rfl, fun _ _ => rfl, fun _ _ => rfl⟩
theorem ik_int : IsK g (.type "int") bInt := ⟨fun d b h => by cases d <;> first | (cases h; done) | (cases h; exact kit_ty rfl), rfl, fun _ => rfl, fun _ _ => rfl, fun _ _ => rfl⟩
theorem ik_bool : IsK g (.type "bool") bBool := ⟨fun d b h => by cases d <;> first | (cases h; done) | (cases h; exact kit_ty rfl), rfl, fun _ => rfl, fun _ _ => rfl, fun _ _ => rfl⟩
theorem ik_list : IsK g (.type "list") bList := ⟨fun d b h => by cases d <;> first | (cases h; done) | (cases h; exact kit_ty rfl), rfl, fun _ => rfl, fun _ _ => rfl, fun _ _ => rfl⟩
theorem ik_tuple : IsK g (.type "tuple") bTuple := ⟨fun d b h => by cases d <;> first | (cases h; done) | (cases h; exact kit_ty rfl), rfl, fun _ => rfl, fun _ _ => rfl, fun _ _ => rfl⟩
end
/-- a call that no run allows -/
theorem FnA.none {P : Program} {w : World} {K : PySem.W.Frag} {mg : Str → Option Value} {base : Heap} {k : Nat} {f : Addr} {ks : List Str} {B : Cf} {CX : CXT} {sem : List D → List D → M R} (h : ∀ ds es, sem ds es = .fail) : FnA P w K mg base CX k f ks (spC B sem) :=
  ⟨fun A outer s H us ws vs zs Q E hr he r1 r2 l hs => by
    obtain ⟨fd, T, ds, es, _, _, _, z⟩ := hs
    rw [h] at z
    exact z.elim⟩
theorem runF_fail {α : Type} {n : Nat} {ix : List Nat} {dd : List D} {sem : List D → M α} (h : ∀ ds, sem ds = .fail) (ds es : List D) : runF n ix dd sem ds es = .fail := by
  unfold runF
  split
  · exact h _
  · rfl
section
variable {K : PySem.W.Frag} {x qual : Str} {st : Stmt} {dvs : List V} {kwd : List (Str × V)} {f : Addr} {ps : List Str} {n : Nat} {ks : List Str} {ix : List Nat}
/-- all given, though there are defaults -/
theorem kbE (hd : dvs ≠ []) (h : ∀ (T : Addr) (kV doc pm : Value) (an : Option Addr) (cdv ct : Value) (us ws : List Value), us.length = n → ws.length = ks.length →
      bindArgs (PySem.W.fnOf x qual (defArgs st) (defBody st) (defScope st) (.ref T) kV doc pm an cdv ct) ⟨us, ks.zip ws⟩ = pure (ps.zip (permute ix (us ++ ws ++ [])))) : KbOk K x qual st dvs kwd f ps n ks ix [] := fun fd F => by
  obtain ⟨oc, od, dV, kV, doc, pm, an, cdv, ct, osl, rfl, lk, hcd, hD, hK⟩ := F.ex
  rcases hD with ⟨e, _⟩ | ⟨_, T, o, its, m, rfl, lT, oT, rT⟩
  · exact absurd e hd
  · exact ⟨[], fun s us ws _ l1 l2 => .of_eq (h T kV doc pm an cdv ct us ws l1 l2), fun r1 r2 => permute_vals ((r1.append r2).append .nil) ix⟩
theorem kbF (hd : dvs ≠ []) {ms : List (Str × V)} (hk : kwd ≠ []) (hms : ∀ q ∈ ms, q ∈ kwd) (h : ∀ (T D : Addr) (doc pm : Value) (an : Option Addr) (cdv ct : Value) (us ws mv : List Value), us.length = n → ws.length = ks.length → mv.length = ms.length →
      KwChain D ((ms.map (·.1)).zip mv) (bindArgs (PySem.W.fnOf x qual (defArgs st) (defBody st) (defScope st) (.ref T) (.ref D) doc pm an cdv ct) ⟨us, ks.zip ws⟩) (ps.zip (permute ix (us ++ ws ++ mv)))) : KbOk K x qual st dvs kwd f ps n ks ix (ms.map (·.2)) := fun fd F => by
  obtain ⟨oc, od, dV, kV, doc, pm, an, cdv, ct, osl, rfl, lk, hcd, hD, hK⟩ := F.ex
  rcases hD with ⟨e, _⟩ | ⟨_, T, o, its, m, rfl, lT, oT, rT⟩
  · exact absurd e hd
  · rcases hK with e | ⟨D, rfl, hq⟩
    · exact absurd e hk
    · obtain ⟨mv, hl, rk, hks⟩ := kwd_vals (ms := ms) fun q hm => hq q (hms q hm)
      refine ⟨mv, fun s us ws X l1 l2 => ?_, fun r1 r2 => permute_vals ((r1.append r2).append rk) ix⟩
      exact BindsTo.of_looks fun M => KwChain.looks X hks (h T D doc pm an cdv ct us ws mv l1 l2 hl)
end
end G
namespace G
open PySem PySem.Spec L2
open PyProof.Rows hiding St
/-! ### runs looked through by evaluation -/
mutual
def D.eqb : D → D → Bool
  | .non, .non => true
  | .bl a, .bl b => a == b
  | .int a, .int b => a == b
  | .str a, .str b => decide (a = b)
  | .lst a, .lst b => D.eqbs a b
  | .tup a, .tup b => D.eqbs a b
  | .ins c a, .ins d b => c == d && D.eqbs a b
  | .feed, .feed => true
  | .fn i, .fn j => i == j
  | .dk a x, .dk b y => decide (a = b) && D.eqbs x y
  | .dn a x, .dn b y => D.eqbs a b && D.eqbs x y
  | _, _ => false
def D.eqbs : List D → List D → Bool
  | [], [] => true
  | a :: as, b :: bs => D.eqb a b && D.eqbs as bs
  | _, _ => false
end
mutual
theorem D.eqb_eq : ∀ {a b : D}, D.eqb a b = true → a = b
  | .non, b, h => by cases b <;> simp_all [D.eqb]
  | .bl _, b, h => by cases b <;> simp_all [D.eqb]
  | .int _, b, h => by cases b <;> simp_all [D.eqb]
  | .str _, b, h => by cases b <;> simp_all [D.eqb]
  | .lst x, b, h => by
    cases b <;> simp only [D.eqb] at h <;> first | (cases h; done) | exact congrArg _ (D.eqbs_eq h)
  | .tup x, b, h => by
    cases b <;> simp only [D.eqb] at h <;> first | (cases h; done) | exact congrArg _ (D.eqbs_eq h)
  | .ins c x, b, h => by
    cases b <;> simp only [D.eqb] at h <;> first | (cases h; done) | skip
    rw [Bool.and_eq_true, beq_iff_eq] at h
    rw [h.1, D.eqbs_eq h.2]
  | .feed, b, h => by cases b <;> simp_all [D.eqb]
  | .fn _, b, h => by cases b <;> simp_all [D.eqb]
  | .dk a x, b, h => by
    cases b <;> simp only [D.eqb] at h <;> first | (cases h; done) | skip
    rw [Bool.and_eq_true, decide_eq_true_eq] at h
    rw [h.1, D.eqbs_eq h.2]
  | .dn a x, b, h => by
    cases b <;> simp only [D.eqb] at h <;> first | (cases h; done) | skip
    rw [Bool.and_eq_true] at h
    rw [D.eqbs_eq h.1, D.eqbs_eq h.2]
theorem D.eqbs_eq : ∀ {a b : List D}, D.eqbs a b = true → a = b
  | [], b, h => by cases b <;> simp_all [D.eqbs]
  | a :: as, b, h => by
    cases b with
    | nil => simp [D.eqbs] at h
    | cons b bs =>
      simp only [D.eqbs, Bool.and_eq_true] at h
      rw [D.eqb_eq h.1, D.eqbs_eq h.2]
end
def O.eqb : O → O → Bool
  | .l a, .l b => D.eqbs a b
  | .i c a, .i d b => c == d && D.eqbs a b
  | _, _ => false
def R.eqb : R → R → Bool
  | .at a, .at b => D.eqb a b
  | .nw a, .nw b => O.eqb a b
  | .dt a, .dt b => D.eqb a b
  | _, _ => false
theorem O.eqb_eq {a b : O} (h : O.eqb a b = true) : a = b := by
  cases a <;> cases b <;> simp only [O.eqb] at h <;> first | (cases h; done) | skip
  · rw [D.eqbs_eq h]
  · rw [Bool.and_eq_true, beq_iff_eq] at h; rw [h.1, D.eqbs_eq h.2]
theorem R.eqb_eq {a b : R} (h : R.eqb a b = true) : a = b := by
  cases a <;> cases b <;> simp only [R.eqb] at h <;> first | (cases h; done) | skip
  · rw [D.eqb_eq h]
  · rw [O.eqb_eq h]
  · rw [D.eqb_eq h]
/-- every outcome passes -/
def M.chk {α : Type} (p : α → Bool) : M α → Bool
  | .ret a => p a
  | .fail => false
  | .draw m k => (List.range m).all fun r => M.chk p (k r)
  | .thr _ _ => false
/-- nothing is raised -/
def X0 : XD := fun _ _ => False
theorem M.chk_wp {α : Type} {p : α → Bool} : ∀ {m : M α}, m.chk p = true → m.wp X0 fun a => p a = true
  | .ret a, h => h
  | .fail, h => by cases h
  | .draw m k, h => fun r hr => M.chk_wp (List.all_eq_true.mp h r (List.mem_range.mpr hr))
  | .thr _ _, h => by cases h
/-- one outcome, told -/
def M.val {α : Type} : M α → Option α
  | .ret a => some a
  | _ => none
theorem M.of_val {α : Type} {m : M α} {a : α} (h : m.val = some a) : m = .ret a := by cases m <;> simp_all [M.val]
def R.is (d : D) : R → Bool
  | .at e => D.eqb e d
  | .nw o => D.eqb o.toD d
  | .dt e => D.eqb e d
def R.toD : R → D
  | .at d => d
  | .nw o => o.toD
  | .dt d => d
/-- .. of a run, closed to evaluation -/
@[irreducible] def M.ok {α : Type} (m : M α) (Q : α → Prop) : Prop := m.wp X0 Q
theorem M.ok_iff {α : Type} {m : M α} {Q : α → Prop} : m.ok Q ↔ m.wp X0 Q := by unfold M.ok; exact Iff.rfl
@[simp] theorem M.ok_ret {α : Type} {a : α} {Q : α → Prop} : (M.ret a).ok Q = Q a := propext M.ok_iff
@[simp] theorem M.ok_fail {α : Type} {Q : α → Prop} : (M.fail : M α).ok Q = False := propext M.ok_iff
@[simp] theorem M.ok_thr {α : Type} {C : Nat} {fs : List D} {Q : α → Prop} : (M.thr C fs : M α).ok Q = False := propext M.ok_iff
@[simp] theorem M.ok_draw {α : Type} {m : Nat} {k : Nat → M α} {Q : α → Prop} : (M.draw m k).ok Q = ∀ r, r < m → (k r).ok Q := by
  refine propext (M.ok_iff.trans ?_)
  exact ⟨fun h r hr => M.ok_iff.mpr (h r hr), fun h r hr => M.ok_iff.mp (h r hr)⟩
theorem M.ok_bind {α β : Type} {m : M α} {f : α → M β} {Q : β → Prop} : (m.bind f).ok Q ↔ m.ok fun a => (f a).ok Q := by
  rw [M.ok_iff, M.ok_iff, M.wp_bind]
  exact ⟨fun h => M.wp_mono (fun a q => M.ok_iff.mpr q) h, fun h => M.wp_mono (fun a q => M.ok_iff.mp q) h⟩
theorem M.ok_mono {α : Type} {P Q : α → Prop} (h : ∀ a, P a → Q a) {m : M α} (q : m.ok P) : m.ok Q := M.ok_iff.mpr (M.wp_mono h (M.ok_iff.mp q))
theorem M.ok_of {α : Type} {m : M α} {a : α} {Q : α → Prop} (h : m = .ret a) (q : Q a) : m.ok Q := by rw [h, M.ok_ret]; exact q
theorem M.chk_ok {α : Type} {p : α → Bool} {m : M α} (h : m.chk p = true) : m.ok fun a => p a = true := M.ok_iff.mpr (M.chk_wp h)
@[simp] theorem tn_p {d : D} : (X.p d).tn = false := rfl
@[simp] theorem tn_c {o : O} : (X.c o).tn = false := rfl
@[simp] theorem tn_b {o : O} : (X.b o).tn = true := rfl
@[simp] theorem tn_t {d : D} : (X.t d).tn = true := rfl
@[simp] theorem ret_p {d : D} : (X.p d).ret = .dt d := rfl
@[simp] theorem ret_c {o : O} : (X.c o).ret = .nw o := rfl
@[simp] theorem ret_b {o : O} : (X.b o).ret = .nw o := rfl
@[simp] theorem ret_t {d : D} : (X.t d).ret = .dt d := rfl
@[simp] theorem RtoD_at {d : D} : (R.at d).toD = d := rfl
@[simp] theorem RtoD_nw {o : O} : (R.nw o).toD = o.toD := rfl
@[simp] theorem RtoD_dt {d : D} : (R.dt d).toD = d := rfl
@[simp] theorem fin_toD {z : R} {tt : Bool} : (z.fin tt).toD = z.toD := by
  cases z with
  | «at» d => rfl
  | nw o => cases tt <;> rfl
  | dt d => show X.toD (if (tt && !d.flat) = true then X.t d else X.p d) = d; split <;> rfl
@[simp] theorem fin_tn {z : R} : (z.fin false).tn = false := by cases z <;> rfl
@[simp] theorem fin_tt {z : R} : (z.fin false).tt = false := by cases z <;> rfl
@[simp] theorem atI_0 {α : Type} (x : α) (xs : List α) : atI (x :: xs) 0 = some x := by
  unfold atI ixN
  rw [if_pos (by decide), if_pos (by simp only [List.length_cons]; omega)]
  rfl
@[simp] theorem atI_1 {α : Type} (x y : α) (xs : List α) : atI (x :: y :: xs) 1 = some y := by
  unfold atI ixN
  rw [if_pos (by decide), if_pos (by simp only [List.length_cons]; omega)]
  rfl
@[simp] theorem atI_2 {α : Type} (x y z : α) (xs : List α) : atI (x :: y :: z :: xs) 2 = some z := by
  unfold atI ixN
  rw [if_pos (by decide), if_pos (by simp only [List.length_cons]; omega)]
  rfl
/-! statements, step by step -/
section
variable {Γ : List Sl} {Q : Fl × List Sl → Prop} {f1 f2 : Sst}
theorem w_seq (h : (f1 Γ).ok fun p => match p.1 with | .nx => (f2 p.2).ok Q | _ => Q p) : (sSeq f1 f2 Γ).ok Q := by
  unfold sSeq
  rw [M.ok_bind]
  refine M.ok_mono (fun p h => ?_) h
  obtain ⟨fl, Γ'⟩ := p
  cases fl with
  | nx => exact h
  | bk => exact M.ok_of rfl h
  | ct => exact M.ok_of rfl h
  | rt z => exact M.ok_of rfl h
theorem w_step (P : List Sl → Prop) (h : (f1 Γ).ok fun p => p.1 = .nx ∧ P p.2) (k : ∀ Γ', P Γ' → (f2 Γ').ok Q) : (sSeq f1 f2 Γ).ok Q := by
  refine w_seq (M.ok_mono (fun p h => ?_) h)
  obtain ⟨fl, Γ'⟩ := p
  obtain ⟨h1, h2⟩ := h
  cases h1
  exact k _ h2
theorem w_if {t : Se Bool} {b : Bool} (h : t Γ = .ret b) (q : ((if b then f1 else f2) Γ).ok Q) : (sIfS t f1 f2 Γ).ok Q := by
  unfold sIfS
  rw [h]
  cases b <;> exact q
theorem w_for {fi : Se (Bool × List D)} {tgt : Tg} {fb : Sst} {ds : List D} (I : List D → List Sl → Prop) (hi : fi Γ = .ret (false, ds)) (h0 : I ds Γ)
    (hs : ∀ d es Γ, I (d :: es) Γ → ∃ as, tgt.asg d = some as ∧ (fb (setG Γ as)).ok fun p => match p.1 with | .nx => I es p.2 | .ct => I es p.2 | .bk => Q (.nx, p.2) | .rt z => Q (.rt z, p.2))
    (he : ∀ Γ, I [] Γ → Q (.nx, Γ)) : (sFor fi tgt fb Γ).ok Q := by
  have e : sFor fi tgt fb Γ = forL tgt fb ds Γ := by unfold sFor; rw [hi]; rfl
  rw [e]
  clear hi e
  induction ds generalizing Γ with
  | nil => exact M.ok_of rfl (he Γ h0)
  | cons d ds ih =>
    obtain ⟨as, h1, h2⟩ := hs d ds Γ h0
    unfold forL
    rw [h1]
    simp only [M.ok_bind]
    refine M.ok_mono (fun p h => ?_) h2
    obtain ⟨fl, Γ'⟩ := p
    cases fl with
    | nx => exact ih h
    | ct => exact ih h
    | bk => exact M.ok_of rfl h
    | rt z => exact M.ok_of rfl h
end
end G
namespace PySem
namespace GXS
open PySem.W PySem.Calls PyProof.Rows PySem.HandSPX
section
variable {prog : Program} {w : World} {A : Around} {E : Value → Shared → Prop} {h : Heap} {g : Array GenState} {d : Drawn} {t : Nat} {os : OsState}
variable {nm q : Str} {C N : Addr} {bs bm : List Value} {hdct : Bool} {sn : List Str} {sub : List Value} {ab : Bool} {col : Option Bool} {dd : Option Addr} {k0 k1 k2 k3 k5 : Option Value}
/-- ValueError.__init__ bound to an exception that is being made -/
theorem mw_call {u e t0 : Addr} {rest : List Value} {Q : Value → Shared → Prop}
    (hC : h.get? C = some (excClassObj nm q C N bs bm hdct sn sub ab col dd k0 k1 k2 k3 k5 "ValueError.__new__")) (he : h.get? e = some (HandSPX.excO C t0)) (hu : h.get? u = some (kxs_mw "ValueError.__init__" e)) (hrest : rest.length ≤ sizeLine)
    (hq : ∀ h' t1, (∀ b o, b ≠ e → h.get? b = some o → h'.get? b = some o) → h'.get? e = some (HandSPX.excO C t1) → Q .none ⟨h', g, d, t, os⟩) :
    wpAny (model prog w) A (call (.ref u) rest) Q E ⟨h, g, d, t, os⟩ := by
  refine wpAny_call (codeAny_of_tree ?_)
  show wpAny _ A.in1 (callAny (.ref u) ⟨rest, []⟩) _ _ _
  simp only [callAny]
  refine wpAny_bind (wpAny_load hu ?_)
  simp only [kxs_mw, show (Value.type "method-wrapper" == Value.type "method" || Value.type "method-wrapper" == Value.type "builtin_function_or_method" || Value.type "method-wrapper" == Value.type "method-wrapper") = true by decide, if_true]
  refine KFB.if_so (by decide) ?_
  refine wpAny_bind (W.check_bound_init F.excBase_ValueError.toExcCallFacts hC he rfl ?_)
  refine wpAny_bind (wpAny_pure (wpAny_pure ?_))
  refine ⟨plainId_quiet F.excBase_ValueError.init.plain _, codeAny_builtin F.excBase_ValueError.initEntry ?_⟩
  exact exc_init_tree (cls := .ref C) (t0 := t0) (dv := none) (c2 := .none) (c3 := .none) (b4 := .bool false) he hrest fun h' k e' _ => hq h' _ k e'
end
end GXS
end PySem
namespace G
open PySem PySem.Spec L2 NdefX
open PyProof.Rows hiding St
/-! ### own exceptions over ValueError whose __init__ says super().__init__(..) first -/
/-- what is known of such a class: at C; its __init__ at f; the cell of its name __class__ -/
structure SxC (P : Program) (K : PySem.W.Frag) (C f cc : Addr) (F : NF) (N ps : List Str) : Prop where
  ox : OexC K C
  ini : PySem.W.findIn K (.ref C) "__init__" = some (some (.ref f))
  ity : PySem.W.typeIn K (.ref f) = some (.type "function")
  fn : ∃ oc od kV doc pm an ct osl, K.lookup f = some ⟨oc, od, .func (PySem.W.fnX F.name F.qual F.params F.body F.scope F.cl .none kV doc pm an (.ref F.c) ct), osl⟩
  cl : F.cl = [(("__class__" : Str), cc)]
  cell : ∃ o1 o2 o3, K.lookup cc = some ⟨o1, o2, .cell (some (.ref C)), o3⟩
  code : ∃ o1 o2 vs o3 t file tf, K.lookup F.c = some ⟨o1, o2, .fields vs, o3⟩ ∧ vs[1]? = some (.str F.qual t) ∧ vs[2]? = some (.str file tf) ∧ ((P.main.file : Str) == file) = true
  top : (P.main.scope.names.lookup ("super" : Str)).isSome = false
  opq : PySem.W.nsIn K cStatics "thirdparty.any" = some none
  sup : PySem.W.ks_superIn K C C "__init__" = some (some (.builtin "ValueError.__init__"))
  subB : PySem.W.subIn K (.ref C) (.type "ValueError") = some true
  hcl : ∃ cd, PySem.W.clsIn K C = some cd
  mro : PySem.W.mroIn K C (.ref C) = some true
  sc : NScope N ps ["__class__"] F.scope
  ks : F.scope.names.lookup ("super" : Str) = some .globalImplicit
  hd : (F.params.posonlyargs ++ F.params.args).head?.map (·.arg) = some ("self" : Str)
  p0 : ps[0]? = some ("self" : Str)
section
variable {P : Program} {w : World} {K : PySem.W.Frag} {mg : Str → Option Value} {base : Heap} {C f cc e : Addr} {F : NF} {N ps : List Str}
/-- the words super().__init__("..") as the model reads them -/
def SupEv (p0 p1 p2 p3 p4 : Pos) (z : Str) (j : Nat) (env : Env) : Prop := ∃ pl : Sem Bool, eval (.Call (.Attribute (.Call (.Name "super" p0) [] [] p1) "__init__" p2) [.Constant (.str z) j p3] [] p4) env = (do
      let ov ← attributeBase (.Call (.Name "super" p0) [] [] p1) "__init__" env (eval (.Call (.Name "super" p0) [] [] p1) env)
      standAt p2.atName
      let (f, first) ← holding [ov] (getMethod ov "__init__" pl)
      callWith p4 f first (backTo p4 (starEach [.Constant (.str z) j p3] env)) [])
theorem sx_super {A : Around} {outer : List Env} {s0 s : Shared} {H0 H : Hp} {E : XK} {σ : St} {pins : List (Addr × Obj)} {p0 p1 p2 p3 p4 : Pos} {z : Str} {j : Nat} (T : SxC P K C f cc F N ps) (hmg : mg "super" = none)
    (I : Inv (ncx (L2.CX P w) P w K mg base N F f A outer s0 H0 E) pins σ H s) (hs : σ[0]? = some (some (.ref e))) (he : H e = some (exo e C none)) (hev : SupEv p0 p1 p2 p3 p4 z j (envF F f s0.heap.objs.size)) :
    _root_.PySem.wpAt (model P w) (A.deeper (envF F f s0.heap.objs.size)) (.func F.body (envF F f s0.heap.objs.size)) (eval (.Call (.Attribute (.Call (.Name "super" p0) [] [] p1) "__init__" p2) [.Constant (.str z) j p3] [] p4) (envF F f s0.heap.objs.size))
      (fun _ s' => Inv (ncx (L2.CX P w) P w K mg base N F f A outer s0 H0 E) pins σ H s') (ncx (L2.CX P w) P w K mg base N F f A outer s0 H0 E).xe s := by
  obtain ⟨hh, g, d, t, os⟩ := s
  have X : K.In hh := I.kIn
  obtain ⟨oc, od, kV, doc, pm, an, ct, osl, hf⟩ := T.fn
  obtain ⟨o1, o2, vs, o3, t', file, tf, hc, hv1, hv2, hfile⟩ := T.code
  obtain ⟨c1, c2, c3, hcell⟩ := T.cell
  obtain ⟨ar, har, hname⟩ : ∃ ar, (F.params.posonlyargs ++ F.params.args).head? = some ar ∧ ar.arg = "self" := by
    have h := T.hd
    cases q : (F.params.posonlyargs ++ F.params.args).head? with
    | none => rw [q] at h; cases h
    | some ar => rw [q] at h; exact ⟨ar, rfl, Option.some.inj h⟩
  obtain ⟨cd, hcd⟩ := T.hcl
  obtain ⟨oD, hD1, hD2⟩ : ∃ oD, hh.get? C = some oD ∧ oD.data = .cls cd := by
    unfold PySem.W.clsIn at hcd
    split at hcd
    · rename_i c d cd' sl ho
      cases hcd
      exact ⟨_, X _ _ ho, rfl⟩
    · cases hcd
  obtain ⟨t1, hoe⟩ := exo_at I.hok he
  have hN0 : N[0]? = some ("self" : Str) := by
    have h := T.sc.pre
    have hp := T.p0
    have l1 : 0 < ps.length := (List.getElem?_eq_some_iff.mp hp).1
    have : (N.take (ps.length + [("__class__" : Str)].length))[0]? = some ("self" : Str) := by
      rw [h, List.getElem?_append_left l1]; exact hp
    rw [List.getElem?_take] at this
    split at this
    · exact this
    · cases this
  have hself : F.scope.names.lookup ("self" : Str) = some .local := T.sc.par _ (List.mem_of_getElem? T.p0)
  obtain ⟨m, hn, hl⟩ := I.loc
  obtain ⟨u, ru, lu⟩ := hl 0 ("self" : Str) (.ref e) hN0 hs (.inl hself)
  obtain rfl : u = Value.ref e := ru
  have hms : m ("self" : Str) = some (.ref e) := by
    rcases lu with ⟨_, h⟩ | ⟨hk, _⟩
    · exact h
    · have hk' : F.scope.names.lookup ("self" : Str) = some .cell ∨ F.scope.names.lookup ("self" : Str) = some .free := hk
      rw [hself] at hk'
      rcases hk' with z | z <;> cases z
  have hkc : F.scope.names.lookup ("__class__" : Str) = some .free := T.sc.frk _ (List.mem_singleton.mpr rfl)
  obtain ⟨mb, hb1, hb2⟩ := I.mod.blt
  obtain ⟨pl, hev⟩ := hev
  refine ks_wpAt_MethodCall (pl := pl) ?_ hev
  refine PySem.ks_wpAt_super_base (env := envF F f s0.heap.objs.size) T.ks hkc (by decide) rfl (X _ _ hf) rfl har rfl (X _ _ hc) rfl hv2 hfile T.top ?_
  refine PySem.W.ks_loadName_global T.sc.kind T.ks (Calls.loadGlobal_builtin (I.mod.glob.keeps I.bk) hmg (hb1.keeps I.bk) ((hb2 "super" (by decide)).trans PyProof.Rows.Boot.«super») ⟨rfl, ?_⟩)
  refine wpAny_loadName_free T.sc.kind hkc (by show List.lookup _ F.cl = _; rw [T.cl]; rfl) ⟨_, X _ _ hcell, rfl⟩ ?_
  rw [hname]
  refine wpAny_loadName_local T.sc.kind hself hn hms ?_
  refine ks_wpAny_isType_cls hD1 hD2 ⟨rfl, ?_⟩
  refine ks_wpAny_call_super hD1 hD2 hoe rfl (fun c h => by cases h) (PySem.W.looks_mroIn X T.mro) (fun h' hso k => ?_)
  have X' : K.In h' := X.keeps k
  have I0 : PySem.W.InstAt h' e _ C none := ⟨k _ _ hoe, rfl, rfl, trivial⟩
  have hm : PySem.W.alongIn K "__init__" ((cd.mro.dropWhile (· != .ref C)).drop 1) = some (some (.builtin "ValueError.__init__")) := by
    have h := T.sup
    unfold PySem.W.ks_superIn at h
    rw [hcd] at h
    exact h
  refine PySem.W.kxs_getMethod PySem.W.kxs_ValueError hso (PySem.W.looks_opaque X' T.opq) (l₀ := cd.mro) (fun A Q E s k q => wpAny_bind ((PySem.W.looks_clsIn X' hcd) A _ E s k (wpAny_pure q))) rfl X' hm (I0.type.andThen (PySem.W.looks_subIn X' T.subB)) (PySem.W.ks_ne X' I0 hcd) (by decide) ?_
  have k2 : ∀ b o, hh.get? b = some o → (h'.push (PySem.W.kxs_mw "ValueError.__init__" e)).get? b = some o := fun b o q => Heap.get?_push_of_some _ (k b o q)
  have hu : (h'.push (PySem.W.kxs_mw "ValueError.__init__" e)).get? h'.objs.size = some (PySem.W.kxs_mw "ValueError.__init__" e) := Heap.get?_push_size _ rfl
  obtain ⟨nm, q, N', bs, bm, sn, sub, ab, col, dd, k0, k1, k2', k3, k5, hC, hbm⟩ := T.ox.cls
  refine PySem.W.kxs_callWith (i := "ValueError.__init__") (x := e) (by rfl) (Calls.evalArgs_plain ?_)
  show wpAny _ _ (spliced ((false, eval (.Constant (.str z) j p3) (envF F f s0.heap.objs.size)) :: backTo p4 (starEach [] (envF F f s0.heap.objs.size)))) _ _ _
  refine Calls.spliced_cons (Calls.Constant_str (Calls.spliced_nil ⟨hu, ?_⟩))
  refine PySem.GXS.mw_call (k2 _ _ (X _ _ hC)) (k2 _ _ hoe) hu (by show 1 ≤ sizeLine; decide) fun h3 t3 k3 he3 => ?_
  have J0 := I.kept (t' := t + 1 + 1) k2
  have J := J0.write (t' := t + 1 + 1) (x := e) (e := e) (o := exo e C none) (by rw [he]; exact True.intro) (.inl rfl) k3 ⟨_, he3⟩ (exo_ok he3)
  have eu : upd H e (exo e C none) = H := by
    funext b
    by_cases hb : b = e
    · rw [hb, upd_same, he]
    · rw [upd_ne hb]
  rw [eu] at J
  exact J
/-- the cell of the class's name -/
theorem sx_cells {A : Around} {outer : List Env} {s : Shared} {H : Hp} (T : SxC P K C f cc F N ps) (e0 : Env0 P w K mg base A outer s H) : CellsAt F.cl ["__class__"] [some (.ref C)] s.heap H := by
  obtain ⟨c1, c2, c3, hcell⟩ := T.cell
  have hb := e0.mod.kin _ _ hcell
  obtain ⟨h1, h2⟩ := e0.bs _ _ hb
  have look : ∀ {y : Str} {c : Addr}, F.cl.lookup y = some c → y = "__class__" ∧ c = cc := fun {y c} h => by
    rw [T.cl] at h
    rw [List.lookup_cons] at h
    split at h
    · rename_i q
      exact ⟨beq_iff_eq.mp q, (Option.some.inj h).symm⟩
    · cases h
  refine ⟨rfl, fun y c h => ?_, fun x y c h h' => (look h).1.trans (look h').1.symm, fun i y h => ?_⟩
  · obtain ⟨_, rfl⟩ := look h
    exact ⟨h2, _, _, h1, rfl⟩
  · cases i with
    | succ i => simp at h
    | zero =>
      simp only [List.getElem?_cons_zero, Option.some.injEq] at h
      subst h
      refine ⟨cc, by rw [T.cl]; rfl, fun v hv => ?_⟩
      simp only [List.getElem?_cons_zero, Option.some.injEq] at hv
      subst hv
      exact ⟨.ref C, rfl, _, h1, rfl⟩
/-- what __init__ promises: the rest of its body, read from the names at its entry -/
def spSx (C : Addr) (N ps : List Str) (t : L2.TS) : Sp := fun vs H Q _ => vs.length = ps.length ∧ ∃ e ws, vs = .ref e :: ws ∧ H e = some (exo e C none) ∧ t { nx := fun _ H' => Q .non H', rt := Q } (startF N vs [some (.ref C)]) H
theorem sx_fn {p0 p1 p2 p3 p4 p5 : Pos} {z : Str} {j : Nat} {rest : List Stmt} {t : L2.TS} (T : SxC P K C f cc F N ps) (hmg : mg "super" = none) (hps : ps ≠ [])
    (hbody : F.body = .Expr (.Call (.Attribute (.Call (.Name "super" p0) [] [] p1) "__init__" p2) [.Constant (.str z) j p3] [] p4) p5 :: rest)
    (hev : ∀ L, SupEv p0 p1 p2 p3 p4 z j (envF F f L)) (hsw : ∀ L, swapsWith (.Call (.Attribute (.Call (.Name "super" p0) [] [] p1) "__init__" p2) [.Constant (.str z) j p3] [] p4) none p5.line (envF F f L) = pure false)
    (hin : ∀ L, interactive (envF F f L) = false) (hr : ∀ (A : Around) (outer : List Env) (s : Shared) (H : Hp) (E : XK), PSs (ncx (L2.CX P w) P w K mg base N F f A outer s H E) rest t) :
    ∃ fd, (∃ kV doc pm an ct, fd = PySem.W.fnX F.name F.qual F.params F.body F.scope F.cl .none kV doc pm an (.ref F.c) ct) ∧ FnOk P w K mg base (L2.CX P w) 1 f fd ps (spSx C N ps t) := by
  obtain ⟨oc, od, kV, doc, pm, an, ct, osl, hf⟩ := T.fn
  obtain ⟨o1, o2, vs', o3, t', file, tf, hc, hv1, hv2, hfile⟩ := T.code
  refine ⟨_, ⟨kV, doc, pm, an, ct, rfl⟩, fun vs H Q E h => h.1, fun A outer s H args us vs Q E hroom e0 hb r hsp => ?_⟩
  obtain ⟨hl, e, ws, ev, he, hq⟩ := hsp
  subst ev
  have X : K.In s.heap := kIn0 e0
  have lim : s.heap.NoLimit := e0.mod.nolimit.keeps fun b o e => (e0.bs b o e).1
  refine ks_codeAny_call_defAt hroom.depth (X _ _ hf) rfl lim ⟨F.c, _, vs', t', rfl, X _ _ hc, rfl, hv1⟩ rfl hb T.sc.nocell (fun ⟨n, _⟩ hy => T.sc.par n (List.of_mem_zip hy).1) (fun h₀ hns kp => ?_) T.sc.co T.sc.gen T.sc.kind
  have I : Inv (ncx (L2.CX P w) P w K mg base N F f A outer s H E) [] (startF N (.ref e :: ws) [some (.ref C)]) H { s with heap := h₀, toks := s.toks + (ps.zip us).length } := inv_startN T.sc hroom.hd e0 hl r (sx_cells T e0) hns kp
  show _root_.PySem.wpAt (model P w) (A.deeper (envF F f s.heap.objs.size)) (.func F.body (envF F f s.heap.objs.size)) (execs F.body (envF F f s.heap.objs.size)) _ _ _
  have hx := sx_super T hmg I (p0 := p0) (p1 := p1) (p2 := p2) (p3 := p3) (p4 := p4) (z := z) (j := j) rfl he (hev _)
  have go : ∀ (c : Code), _root_.PySem.wpAt (model P w) (A.deeper (envF F f s.heap.objs.size)) c (eval (.Call (.Attribute (.Call (.Name "super" p0) [] [] p1) "__init__" p2) [.Constant (.str z) j p3] [] p4) (envF F f s.heap.objs.size)) (fun _ s' => Inv (ncx (L2.CX P w) P w K mg base N F f A outer s H E) [] (startF N (.ref e :: ws) [some (.ref C)]) H s') (ncx (L2.CX P w) P w K mg base N F f A outer s H E).xe { s with heap := h₀, toks := s.toks + (ps.zip us).length } →
      _root_.PySem.wpAt (model P w) (A.deeper (envF F f s.heap.objs.size)) c (execs (.Expr (.Call (.Attribute (.Call (.Name "super" p0) [] [] p1) "__init__" p2) [.Constant (.str z) j p3] [] p4) p5 :: rest) (envF F f s.heap.objs.size))
        (fun f s' => CR (L2.CX P w) outer P w H s Q E (.ok (.ret (match f with | .ret v => v | _ => .none))) s') (ncx (L2.CX P w) P w K mg base N F f A outer s H E).xe { s with heap := h₀, toks := s.toks + (ps.zip us).length } := fun c hx => by
    refine ks_wpAt_execs_cons (ks_wpAt_Expr_any (PySem.wpAt_mono hx (fun v s' I' => ?_) fun _ _ h => h) (hin _) (hsw _))
    refine PySem.wpAt_of_wpAny (wpAny_mono ((hr A outer s H E).run [] s' _ H _ I' hq) (fun fl s2 hs => ?_) fun _ _ h => h)
    have fin : ∀ {σ' : L2.St} {H' : Hp} {v : V} {u : Value}, Inv (ncx (L2.CX P w) P w K mg base N F f A outer s H E) [] σ' H' s2 → L2.RelV v u → Q v H' → CE outer P w H s Q u s2 :=
      fun {σ' H' v u} J rv q => ⟨v, H', J.os, J.bare, J.base, J.hok, rv, q⟩
    cases fl with
    | ret u =>
      obtain ⟨v, σ', H', J, rv, q⟩ := hs
      exact fin J rv q
    | next =>
      obtain ⟨σ', H', J, q⟩ := hs
      exact fin (v := V.non) (u := Value.none) J rfl q
    | brk =>
      obtain ⟨_, _, _, q⟩ := hs
      exact False.elim q
    | cont =>
      obtain ⟨_, _, _, q⟩ := hs
      exact False.elim q
  have key := go (.func F.body (envF F f s.heap.objs.size)) hx
  rw [← hbody] at key
  exact key
end
end G
namespace G
open PySem PySem.Spec L2 NdefX
open PyProof.Rows hiding St
/-! ### raise X(..) -/
/-- the class at Ca (name x) makes an exception of n values whose dict holds mkV of them -/
structure XMk (P : Program) (w : World) (K : PySem.W.Frag) (mg : Str → Option Value) (base : Heap) (x : Str) (Ca : Addr) (n : Nat) (mkV : List V → List (Str × V)) : Prop where
  nm : mg x = some (.ref Ca)
  ex : ∃ f fd ps sp, OexC K Ca ∧ PySem.W.findIn K (.ref Ca) "__init__" = some (some (.ref f)) ∧ PySem.W.typeIn K (.ref f) = some (.type "function") ∧ FnOk P w K mg base (L2.CX P w) 1 f fd ps sp ∧ L2.Binds K fd ps [] ∧
    ∀ (vs : List V) (a : Addr) (H : Hp) (Q : VK) (E : XK), vs.length = n → H a = some (exo a Ca none) → (∀ d, H d = none → d ≠ a → Q .non (upd (upd H d (exd d (mkV vs))) a (exo a Ca (some d)))) → sp (.ref a :: vs) H Q E
/-- the fields of the dict, by names -/
def FieldsOk (g : Cf) (H : Hp) (ns : List Str) (fv : List (Str × V)) (fs : List D) : Prop := ns.length = fs.length ∧ ∀ (i : Nat) (f : Str), ns[i]? = some f → ∃ v e, fv.lookup f = some v ∧ fs[i]? = some e ∧ Rp g H v e
def sRaise (C n : Nat) (mkD : List D → List D) (fs : Se (List X)) : Sst := fun Γ => (fs Γ).bind fun xs => if xs.length = n ∧ n < 100 ∧ xs.any X.tn = false then .thr C (mkD (xs.map X.toD)) else .fail
theorem exo_del {H : Hp} {a d C : Addr} {fs : List (Str × V)} (ha : H a = none) (hd : H d = none) (ne : d ≠ a) : upd (del (upd (upd H d (exd d fs)) a (exo a C (some d))) a) d (.xd fs) = upd H d (.xd fs) := by
  funext b
  by_cases h : b = d
  · subst h; rw [upd_same, upd_same]
  · rw [upd_ne h, upd_ne h]
    by_cases h2 : b = a
    · subst h2; rw [del_same, ha]
    · rw [del_ne h2, upd_ne h2, upd_ne h]
section
variable {Z : Cx} {g B : Cf} {W : XK} {T : List Addr} {He : Hp} {e : Expr} {es : List Expr} {fs : Se (List X)} {x : Str} {p pos pos' : Pos}
theorem es_raise {C n : Nat} {Ca : Addr} {mkV : List V → List (Str × V)} {mkD : List D → List D} (hc : Z.calm = true) (hr : RT 2 Z W) (mk : XMk Z.prog Z.w Z.K Z.mg Z.base x Ca n mkV) (hC : g.ae C = Ca)
    (hrel : ∀ (H : Hp) (vs : List V) (ds : List D), RpA g H vs ds → ds.length = n → FieldsOk g H (g.xn C) (mkV vs) (mkD ds)) (hg : Gl Z x) (ha : EA Z g W T He (e :: es) fs)
    (hdb : (x == ("__debug__" : Str)) = false := by decide) (he : starEach (e :: es) Z.env = (false, eval e Z.env) :: starEach es Z.env := by rfl) (hpl : (backTo pos (starEach es Z.env)).any (·.1) = false := by rfl) :
    ES Z g W T He (.Raise (some (.Call (.Name x p) (e :: es) [] pos)) none pos') (sRaise C n mkD fs) := by
  obtain ⟨f, fd, ps, sp, ox, ini, ity, F1, hb, hsp⟩ := mk.ex
  refine ps_w (ps_raise hc hr.tk (pmk_oex (CX := L2.CX Z.prog Z.w) ox ini ity F1 hr.room hb .nil (fun pins σ H s e s' I c => (by obtain ⟨_, _, _, _, _, _, _, _, _, _, _, _, z⟩ := c; exact z.elim)) hg mk.nm ha hdb he hpl)) fun D σ H ⟨Γ, S, rl, w⟩ => ?_
  simp only [sRaise, M.wp_bind] at w
  refine rdA.use rl (M.wp_mono (fun xs w vs H1 e1 l1 xx => ?_) w)
  split at w
  rotate_left
  · exact w.elim
  rename_i hn
  obtain ⟨hn, hn2, htn⟩ := hn
  have hl : vs.length = n := by rw [xx.length]; exact hn
  refine ⟨by omega, fun a na => ?_⟩
  rw [List.append_nil]
  refine hsp vs a _ _ _ hl upd_same fun d hd ne => ⟨rfl, d, mkV vs, upd_same, by rw [upd_ne ne, upd_same], ?_, ?_⟩
  · rw [upd_ne ne] at hd; exact hd
  have hd1 : H1 d = none := by rw [upd_ne ne] at hd; exact hd
  have eq : upd (del (upd (upd (upd H1 a (exo a Ca none)) d (exd d (mkV vs))) a (exo a Ca (some d))) a) d (.xd (mkV vs)) = upd H1 d (.xd (mkV vs)) := by
    funext b
    by_cases h : b = d
    · subst h; rw [upd_same, upd_same]
    · rw [upd_ne h, upd_ne h]
      by_cases h2 : b = a
      · subst h2; rw [del_same, na]
      · rw [del_ne h2, upd_ne h2, upd_ne h, upd_ne h2]
  rw [eq]
  have l2 := l1.mono (l1.ext_new (o := .xd (mkV vs)) hd1)
  have key := w d (upd H1 d (.xd (mkV vs))) l2.ex ?_
  · rw [hC] at key; exact key
  · have r := hrel (off (upd H1 d (.xd (mkV vs))) T) vs (xs.map X.toD) ((xx.toD).new hd1) (by rw [List.length_map]; exact hn)
    exact ⟨mkV vs, upd_same, r.1, r.2⟩
end
/-! the stores of __init__, one after the other -/
section
variable {K : PySem.W.Frag} {C a d : Addr} {f : Str} {to te : TE} {σ : St} {H : Hp} {v : V} {D : Ends}
def RdAt (te : TE) (σ : St) (v : V) : Prop := ∀ (H : Hp) (Q : VK), Q v H → te σ H Q
theorem rdAt_var {i : Nat} (h : σ[i]? = some (some v)) : RdAt (tVar i) σ v := fun H Q q => ⟨v, h, q⟩
theorem rdAt_c : RdAt (tC v) σ v := fun H Q q => q
theorem sx_st1 (T : OexC K C) (hno : PySem.W.findIn K (.ref C) f = some none) (r0 : RdAt to σ (.ref a)) (r1 : RdAt te σ v) (he : H a = some (exo a C none)) (k : ∀ d, H d = none → d ≠ a → D.nx σ (upd (upd H d (exd d [(f, v)])) a (exo a C (some d)))) : tOst K f to te D σ H :=
  r1 H _ (r0 H _ ⟨a, C, rfl, T, hno, .inl ⟨he, k⟩⟩)
theorem sx_st2 {fs : List (Str × V)} (T : OexC K C) (hno : PySem.W.findIn K (.ref C) f = some none) (r0 : RdAt to σ (.ref a)) (r1 : RdAt te σ v) (ne : d ≠ a) (hl : fs.length ≤ 900) (k : D.nx σ (upd (upd H d (exd d ((f, v) :: fs))) a (exo a C (some d)))) : tOst K f to te D σ (upd (upd H d (exd d fs)) a (exo a C (some d))) :=
  r1 _ _ (r0 _ _ ⟨a, C, rfl, T, hno, .inr ⟨d, fs, upd_same, by rw [upd_ne ne, upd_same], hl, by
    have e : upd (upd (upd H d (exd d fs)) a (exo a C (some d))) d (exd d ((f, v) :: fs)) = upd (upd H d (exd d ((f, v) :: fs))) a (exo a C (some d)) := by
      funext b
      by_cases h : b = d
      · subst h; rw [upd_same, upd_ne ne, upd_same]
      · rw [upd_ne h]
        by_cases h2 : b = a
        · subst h2; rw [upd_same, upd_same]
        · rw [upd_ne h2, upd_ne h2, upd_ne h, upd_ne h]
    rw [e]
    exact k⟩⟩)
end
end G
namespace PySem.W
open PySem PySem.Spec PySem.Calls PyProof.Rows
section
variable {M : Model} {K : Frag}
theorem loop_pass {A : Around} {E : Value → Shared → Prop} {s : Shared} {β : Type} {b0 : β} {body : Value → β → Sem (ForInStep β)} : ∀ {l : List Value} {Q : β → Shared → Prop}, (∀ c ∈ l, ∀ Q : ForInStep β → Shared → Prop, Q (.yield b0) s → wpAny M A (body c b0) Q E s) → Q b0 s → wpAny M A (forIn l b0 body) Q E s
  | [], Q, _, hq => by simp only [List.forIn_nil]; exact wpAny_pure hq
  | c :: l, Q, hb, hq => by
    simp only [List.forIn_cons]
    refine wpAny_bind (hb c (List.mem_cons_self ..) _ ?_)
    exact loop_pass (fun c h => hb c (List.mem_cons_of_mem _ h)) hq
theorem loop_find {A : Around} {E : Value → Shared → Prop} {s : Shared} {β : Type} {b0 dn : β} {cls : Value} {body : Value → β → Sem (ForInStep β)} (hb : ∀ c v, exmOne K cls c = some v → ∀ Q : ForInStep β → Shared → Prop, Q (if v = true then .done dn else .yield b0) s → wpAny M A (body c b0) Q E s) :
    ∀ {l : List Value} {b : Bool} {Q : β → Shared → Prop}, exmAny K cls l = some b → Q (if b = true then dn else b0) s → wpAny M A (forIn l b0 body) Q E s
  | [], b, Q, hx, hq => by
    simp only [List.forIn_nil]
    cases (show some false = some b from hx)
    exact wpAny_pure hq
  | c :: l, b, Q, hx, hq => by
    obtain ⟨b1, d1, x1, y1, z1⟩ := exmAny_cons hx
    simp only [List.forIn_cons]
    refine wpAny_bind (hb c b1 x1 _ ?_)
    subst z1
    cases b1 with
    | true => exact wpAny_pure hq
    | false => exact loop_find hb y1 hq
theorem exmAny_mem {cls : Value} : ∀ {l : List Value} {b : Bool}, exmAny K cls l = some b → ∀ c ∈ l, ∃ v, exmOne K cls c = some v
  | c :: l, b, hx, c', hc => by
    obtain ⟨b1, d1, x1, y1, _⟩ := exmAny_cons hx
    rcases List.mem_cons.mp hc with rfl | hc
    · exact ⟨_, x1⟩
    · exact exmAny_mem y1 c' hc
theorem exm_tupL {l : List Value} {cls : Value} {tp e : Addr} {b : Bool} {h : Heap} (X : K.In h) (LT : Looks M h (typeOf (.ref e)) cls) (hp : h.get? tp = some { cls := .type "tuple", data := .seq l.toArray }) (hx : exmAny K cls l = some b) :
    Looks M h (excMatches (.ref e) (.ref tp)) b := by
  intro A Q E s k₀ q
  obtain ⟨hh, g, d, tk, os⟩ := s
  have k : ∀ b o, h.get? b = some o → hh.get? b = some o := k₀
  have LT0 : Looks M h (isInstance (.ref tp) (.type "tuple")) true := ((Looks.ld hp).andThen .now).andThen (Looks.of_pure isSubtype_tuple_tuple)
  have LT := LT.keeps k
  have LT0 := LT0.keeps k
  have hp' := k _ _ hp
  unfold excMatches
  refine wpAny_bind (LT0.at ?_)
  dsimp only
  rw [if_pos rfl]
  first
    | refine wpAny_bind (wpAny_seqItems hp' rfl ?_)
    | refine wpAny_bind (wpAny_bind (wpAny_seqItems hp' rfl (wpAny_pure ?_)))
  dsimp only [Option.getD_some, Option.getD]
  refine wpAny_bind (wpAny_pure (wpAny_bind (loop_pass (fun c hc Q hq => ?_) ?_)))
  · obtain ⟨v, hv⟩ := exmAny_mem hx c hc
    obtain ⟨e1, _⟩ := exm_cls (M := M) X hv
    refine wpAny_bind ((e1.keeps k).at ?_)
    rw [if_neg (by decide)]
    exact wpAny_pure hq
  · refine wpAny_bind (LT.at (wpAny_bind (loop_find (K := K) (dn := (some true, ())) (cls := cls) (fun c v hv Q hq => ?_) hx ?_)))
    · obtain ⟨_, s1⟩ := exm_cls (M := M) X hv
      refine wpAny_bind ((s1.keeps k).at ?_)
      cases v with
      | true => exact wpAny_pure hq
      | false => exact wpAny_pure hq
    · cases b with
      | true => exact wpAny_pure q
      | false => exact wpAny_pure q
end
end PySem.W
namespace G
open PySem PySem.Spec L2
open PyProof.Rows hiding St
/-! ### try: body, except (A, B, ..) as e: suite / .. -/
/-- what stands behind except: the classes cs -/
structure ClT (X : Cx) (te : Expr) (cs : List Value) : Prop where
  run : ∀ (a : Addr) (q : List (Addr × Obj)) (pins : List (Addr × Obj)) (σ : St) (H : Hp) (s : Shared) (E : Value → Shared → Prop) (Q : Value → Shared → Prop), Inv (X.suite a q) pins σ H s →
    (∀ u h' t', (∀ b o, s.heap.get? b = some o → h'.get? b = some o) → (∀ (M : Model) (e : Addr) (cls : Value) (b : Bool), PySem.W.Looks M h' (typeOf (.ref e)) cls → PySem.W.exmAny X.K cls cs = some b → PySem.W.Looks M h' (excMatches (.ref e) u) b) → Q u { s with heap := h', toks := t' }) →
    wpAny (model X.prog X.w) (X.A.mark (some (.ref a))) (eval te X.env) Q E s
section
variable {X : Cx} {x : Str} {np : Pos} {c : Value}
theorem clt_name (hg : Gl X x) (hm : X.mg x = some c) (hd : (x == ("__debug__" : Str)) = false := by decide) : ClT X (.Name x np) [c] :=
  ⟨fun a q pins σ H s E Q I h => ld_glob (X := X.suite a q) I hg hm (h c s.heap s.toks (fun _ _ e => e) fun M e cls b L hx => by
    obtain ⟨b1, d1, x1, y1, z1⟩ := PySem.W.exmAny_cons hx
    cases (show some false = some d1 from y1)
    rw [z1, Bool.or_false]
    exact PySem.W.exm_one (show X.K.In s.heap from I.kIn) L x1) hd⟩
/-- names of classes, one after the other -/
inductive Nms (X : Cx) : List Expr → List Value → Prop
  | nil : Nms X [] []
  | cons {x : Str} {p : Pos} {c : Value} {es : List Expr} {cs : List Value} (hg : Gl X x) (hm : X.mg x = some c) (hd : (x == ("__debug__" : Str)) = false) (hs : starEach (.Name x p :: es) X.env = (false, eval (.Name x p) X.env) :: starEach es X.env) (r : Nms X es cs) : Nms X (.Name x p :: es) (c :: cs)
theorem nms_run {a : Addr} {q pins : List (Addr × Obj)} {σ : St} {H : Hp} {s : Shared} {E : Value → Shared → Prop} (I : Inv (X.suite a q) pins σ H s) : ∀ {es : List Expr} {cs : List Value} {Q : List Value → Shared → Prop} {pos : Pos}, Nms X es cs → Q cs s →
    wpAny (model X.prog X.w) (X.A.mark (some (.ref a))) (spliced (backTo pos (starEach es X.env))) Q E s
  | _, _, Q, pos, .nil, hq => Calls.spliced_nil hq
  | _, _, Q, pos, .cons (x := x) (p := p) (es := es) hg hm hd hs r, hq => by
    rw [hs]
    show wpAny _ _ (spliced ((false, eval (.Name x p) X.env) :: backTo pos (starEach es X.env))) _ _ _
    exact Calls.spliced_cons (ld_glob (X := X.suite a q) I hg hm (nms_run (Q := fun vs => Q (_ :: vs)) I r hq) hd)
theorem clt_tup {es : List Expr} {k : _} {pos : Pos} {cs : List Value} (h : Nms X es cs) (hl : cs.length ≤ sizeLine) : ClT X (.Tuple es k pos) cs :=
  ⟨fun a q pins σ H s E Q I hq => by
    refine wpAny_Tuple_spliced (nms_run I h ⟨hl, ?_⟩)
    have kp : ∀ b o, s.heap.get? b = some o → (s.heap.push { cls := .type "tuple", data := .seq cs.toArray }).get? b = some o := fun b o e => Heap.get?_push_of_some _ e
    exact hq _ _ s.toks kp fun M e cls b L hx => PySem.W.exm_tupL ((show X.K.In s.heap from I.kIn).keeps kp) L (Heap.get?_push_size _ rfl) hx⟩
end
end G
namespace G
open PySem PySem.Spec L2
open PyProof.Rows hiding St
theorem flying_keeps {base h h' : Heap} {l : List Env} {e : Addr} {Z : Obj → Prop} (f : HandSPX.FlyingZ base l e Z h) (k : ∀ b o, h.get? b = some o → h'.get? b = some o) : HandSPX.FlyingZ base l e Z h' := by
  obtain ⟨f1, f2, f3, oe, vs, T, oT, ts, he, hz, hd, h1, hn, ne, hT, hdT, h3⟩ := f
  exact ⟨fun b o q => k b o (f1 b o q), f2, Heap.FunFrames.of_keeps (fun b o e _ => ⟨o, k b o e, rfl⟩) f3, oe, vs, T, oT, ts, k _ _ he, hz, hd, h1, hn, ne, k _ _ hT, hdT, h3⟩
abbrev Clz := List Value × (Addr → Value → Option Addr → L2.TS)
/-- what the clauses wish of an exception; slot i is the name's -/
def wTry (K : PySem.W.Frag) (i : Nat) (Wout : WX) (D : Ends) : List Clz → WX
  | [] => Wout
  | (cs, ts) :: r => fun cls d σ H => ∃ b, PySem.W.exmAny K cls cs = some b ∧ (b = true → ∀ a, H a = none → ts a cls d { nx := fun σ' H' => D.nx (σ'.set i none) H', rt := D.rt, bk := fun σ' H' => D.bk (σ'.set i none) H', ct := fun σ' H' => D.ct (σ'.set i none) H' } (σ.set i (some (.ref a))) H) ∧
      (b = false → wTry K i Wout D r cls d σ H)
inductive HdsT (X : Cx) (n : Str) : List ExceptHandler → List Clz → Prop
  | nil : HdsT X n [] []
  | cons {te : Expr} {cs : List Value} {ts : Addr → Value → Option Addr → L2.TS} {b₀ : Stmt} {suite : List Stmt} {pos' : Pos} {hds : List ExceptHandler} {l : List Clz} (hc : ClT X te cs)
      (hsu : ∀ (a : Addr) (oe : Obj) (cls : Value) (d : Option Addr) (pn : List (Addr × Obj)), Zc cls d oe → (∃ vs, oe.data = .fields vs) → PSs (X.suite a ((a, oe) :: pn)) (b₀ :: suite) (ts a cls d)) (r : HdsT X n hds l) :
      HdsT X n (.ExceptHandler (some te) (some n) (b₀ :: suite) pos' :: hds) ((cs, ts) :: l)
section
variable {X : Cx} {n : Str} {i : Nat} {body : List Stmt} {h₀ : ExceptHandler} {hds : List ExceptHandler} {l : List Clz} {pos : Pos} {tb : WX → L2.TS} {Wout : WX}
theorem ps_tryT (hs : X.stack = X.env :: X.outer) (hf : X.env.frame = some X.env.locals) (hN : X.N.Nodup) (hi : X.N[i]? = some n) (hln : X.env.kindOf n = some .local) (tk : Takes X Wout)
    (hb : ∀ (W : WX) (pn : List (Addr × Obj)) (xe : Value → Shared → Prop), Takes (X.tr pn xe) W → PassesOwn (model X.prog X.w) X.A X.env xe → PSs (X.tr pn xe) body (tb W))
    (hh : HdsT X n (h₀ :: hds) l) : PS X (.Try body (h₀ :: hds) [] [] pos) (fun D σ H => tb (fun cls d σ' H' => σ'.length = X.N.length → wTry X.K i Wout D l cls d σ' H') D σ H) := by
  refine ⟨fun pins s σ H D I h => ?_⟩
  have ok := I.ok
  have hfr : X.A.frames = some (X.env :: X.outer) := by rw [ok.frames, hs]
  have hloc : Loc X.env.scope n := .inl hln
  refine wpAny_Try_except ?_
  refine wpAny_mono ((hb (fun cls d σ' H' => σ'.length = X.N.length → wTry X.K i Wout D l cls d σ' H') (X.pn ++ pins) (fun e s₁ => wpAny (model X.prog X.w) X.A (noteFrame e X.env) (fun _ s₂ => wpAny (model X.prog X.w) X.A (setFlight e none) (fun _ s₃ =>
    wpAny (model X.prog X.w) X.A (handleBy e X.env (h₀ :: hds)) (SP X pins D) X.xe s₃) X.xe s₂) X.xe s₁) (fun u s' xx => ?_) PassesOwn.looking).run [] s σ H D (I.toTry _) h) (fun f s1 hsp => ?_) (fun e s1 he => he)
  · -- the catch
    obtain ⟨a, B, sI, pins', σ', H', cls, d, rfl, J', nb, up, sky, na, os, ag, w⟩ := xx
    have J : Inv X pins σ' H' sI := J'.ofTry ok
    have sky' : Sky B (X.env :: X.outer) a (Zc cls d) X.env.locals s'.heap := by rw [← hs]; exact sky
    show wpAny (model X.prog X.w) X.A (noteFrame (.ref a) X.env) _ _ _
    refine Sky.land Zc.steady hfr hf sky' fun h3 fl3 up3 => ?_
    have notFr : ∀ {h : Heap} {o : Obj} {vs : Array Value}, h.FunFrames B (X.env :: X.outer) → h.get? a = some o → o.data = .fields vs → a ∉ frs (X.env :: X.outer) := fun {h o vs} ff e dd hm => by
      obtain ⟨_, o', e', hnf⟩ := ff.mem hm
      rw [e] at e'; cases e'
      exact hnf _ dd
    have nL : a ≠ X.env.locals := fun z => by
      obtain ⟨oe3, vs3, he3, hz3, hd3⟩ := fl3.there
      exact notFr fl3.2.2.1 he3 hd3 (List.mem_filterMap.mpr ⟨X.env, List.mem_cons_self, by rw [hf, z]⟩)
    have nF : a ∉ X.fs := fun hm => by
      obtain ⟨oe3, vs3, he3, hz3, hd3⟩ := fl3.there
      obtain ⟨e, he, q⟩ := List.mem_filterMap.mp hm
      exact notFr fl3.2.2.1 he3 hd3 (List.mem_filterMap.mpr ⟨e, List.mem_cons_of_mem _ he, q⟩)
    have go : ∀ {hds' : List ExceptHandler} {l' : List Clz}, HdsT X n hds' l' → ∀ (h3 : Heap) (t3 : Nat), HandSPX.FlyingZ B (X.env :: X.outer) a (Zc cls d) h3 → s'.heap.UpToSlots h3 → wTry X.K i Wout D l' cls d σ' H' →
        wpAny (model X.prog X.w) X.A (handleBy (.ref a) X.env hds') (SP X pins D) X.xe { s' with heap := h3, toks := t3 } := by
      intro hds' l' hk
      induction hk with
      | nil =>
        intro h3 t3 fl3 up3 w
        refine wpAny_handleBy_nil ?_
        obtain ⟨k1, k2, k3, oe, vs, T, oT, ts', he, hz, hd, h1, hr⟩ := id fl3
        unfold PySem.passOn
        refine wpAny_bind (wpAny_field he hd h1 ?_)
        rw [if_neg (show ¬ ((Value.ref T == Value.none) = true) from by simp)]
        have fin : wpAny (model X.prog X.w) X.A (setFlight (.ref a) X.env.frame) (fun _ s4 => wpAny (model X.prog X.w) X.A (throw (.ref a) : Sem Flow) (SP X pins D) X.xe s4) X.xe { s' with heap := h3, toks := t3 } := by
          rw [hf]
          refine HandSPX.setFlight_upZ fl3 fun h4 hh4 up4 => wpAny_throw (tk _ _ ?_)
          exact ⟨a, B, sI, pins, σ', H', cls, d, rfl, J, nb, (up.trans up3).trans up4, .inr (.inr (by rw [hs]; exact hh4)), na, os, ag, w⟩
        first
          | exact wpAny_bind (wpAny_pure (wpAny_bind fin))
          | exact wpAny_bind fin
      | @cons te cs ts b₀ suite pos' hds2 l2 hc hsu r ih =>
        intro h3 t3 fl3 up3 w
        obtain ⟨b, hb1, hyes, hno⟩ := w
        have J3 : Inv X pins σ' H' { s' with heap := h3, toks := t3 } := J.landed (s' := { s' with heap := h3, toks := t3 }) nb fl3.1 (up.trans up3) os ag
        obtain ⟨oe3, vs3, he3, hz3, hd3⟩ := fl3.there
        have S3 := J3.suite he3 hd3 na nL nF
        refine wpAny_handleBy_cons (codeAny_handlers_test ?_) (by intro q; cases q)
        refine hc.run a _ _ σ' H' _ _ _ S3 fun u h5 t5 k L => ?_
        have fl5 := flying_keeps fl3 k
        have up5 : s'.heap.UpToSlots h5 := up3.trans (Heap.UpToSlots.of_keeps k)
        have LT : PySem.W.Looks (model X.prog X.w) h5 (typeOf (.ref a)) cls := fun A Q E s k' q => wpAny_typeOf_ref (k' _ _ (k _ _ he3)) (by rw [hz3.1]; exact q)
        refine (L _ a cls b LT hb1).here ?_
        cases b with
        | true =>
          refine codeAny_handlers_suite_as ?_
          refine HandSPX.lands_againZ fl5 fun h4 fl4 up4 => ?_
          have J4 : Inv X pins σ' H' { s' with heap := h4, toks := t5 } := J.landed (s' := { s' with heap := h4, toks := t5 }) nb fl4.1 ((up.trans up5).trans up4) os ag
          obtain ⟨oe4, vs4, he4, hz4, hd4⟩ := fl4.there
          have S4 := J4.suite he4 hd4 na nL nF
          refine store_ok (X := X.suite a ((a, oe4) :: (X.pn ++ pins))) (v := .ref a) S4 hN hi hloc rfl (fun s5 S5 => ?_) (.inr hln)
          refine wpAny_mono ((hsu a oe4 cls d (X.pn ++ pins) hz4 ⟨_, hd4⟩).run [] s5 _ H' _ S5 (hyes rfl a na)) (fun f s6 hsp => ?_) (fun _ _ z => False.elim z)
          have end_ : ∀ {σ6 : St} {H6 : Hp} {Q : Shared → Prop}, Inv (X.suite a ((a, oe4) :: (X.pn ++ pins))) [] σ6 H6 s6 → (∀ s7, Inv X pins (σ6.set i none) H6 s7 → Q s7) →
              wpAny (model X.prog X.w) X.A (do bindName X.env n .none; unbindBehindTheSuite X.env n pos') (fun _ s7 => Q s7) X.xe s6 := fun {σ6 H6 Q} S6 hq => gone_ok (S6.unsuite ok) hN hi hln hq
          cases f with
          | next =>
            obtain ⟨σ6, H6, S6, q6⟩ := hsp
            exact end_ S6 fun s7 J7 => ⟨_, _, J7, q6⟩
          | brk =>
            obtain ⟨σ6, H6, S6, q6⟩ := hsp
            exact end_ S6 fun s7 J7 => ⟨_, _, J7, q6⟩
          | cont =>
            obtain ⟨σ6, H6, S6, q6⟩ := hsp
            exact end_ S6 fun s7 J7 => ⟨_, _, J7, q6⟩
          | ret u =>
            obtain ⟨v6, σ6, H6, S6, r6, q6⟩ := hsp
            exact end_ S6 fun s7 J7 => ⟨_, _, _, J7, r6, q6⟩
        | false =>
          show wpAny _ X.A (handleBy (.ref a) X.env hds2) _ _ _
          exact ih h5 t5 fl5 up5 (hno rfl)
    exact go hh h3 s'.toks fl3 up3 (w J.len)
  · cases f with
    | next =>
      obtain ⟨σ', H', J', q⟩ := hsp
      exact wpAny_execs_nil ⟨σ', H', J'.ofTry ok, q⟩
    | brk =>
      obtain ⟨σ', H', J', q⟩ := hsp
      exact ⟨σ', H', J'.ofTry ok, q⟩
    | cont =>
      obtain ⟨σ', H', J', q⟩ := hsp
      exact ⟨σ', H', J'.ofTry ok, q⟩
    | ret u =>
      obtain ⟨v, σ', H', J', r, q⟩ := hsp
      exact ⟨v, σ', H', J'.ofTry ok, r, q⟩
end
end G
namespace G
open PySem PySem.Spec L2 LamX
open PyProof.Rows hiding St
/-! ### lambdas without parameters -/
structure Lam where
  params : Arguments
  body : Expr
  scope : Scope
abbrev lamQ (X : Cx) : Str := X.env.qual ++ "<lambda>"
def LamO (X : Cx) (L : Lam) (f c' : Addr) : HO := .ext fun h => ∃ pm ctv, h.get? f = some (PySem.W.kla_obj "<lambda>" (lamQ X) L.params L.body L.scope (cloFrom X.env.cells L.scope.names []) pm c' ctv)
def LamOD (X : Cx) (L : Lam) (f c' T0 : Addr) : HO := .ext fun h => ∃ pm doc ctv, h.get? f = some (PySem.W.kdv_obj "<lambda>" (lamQ X) L.params (.expr L.body) L.scope (cloFrom X.env.cells L.scope.names []) (.ref T0) doc pm c' ctv)
/-- the token: a lambda of no parameter, or of one given by its default -/
def LamT (X : Cx) (L : Lam) (f : Addr) (H : Hp) : Prop := ∃ c', H c' = some (CodeO c' (lamQ X)) ∧ match L.params.defaults with
  | [] => H f = some (LamO X L f c')
  | _ => ∃ T0 d, H f = some (LamOD X L f c' T0) ∧ H T0 = some (.tup [.int d])
theorem LamT.mono {X : Cx} {L : Lam} {f : Addr} {H H' : Hp} (e : Same H H') (t : LamT X L f H) : LamT X L f H' := by
  obtain ⟨c', h1, h2⟩ := t
  refine ⟨c', e _ _ h1, ?_⟩
  revert h2
  cases L.params.defaults with
  | nil => exact fun h2 => e _ _ h2
  | cons x r => exact fun ⟨T0, d, h2, h3⟩ => ⟨T0, d, e _ _ h2, e _ _ h3⟩
section
variable {X : Cx} {pins : List (Addr × Obj)} {σ : L2.St} {H : Hp} {s : Shared}
theorem lam_make3 {T : List (Addr × Str)} {c P : Addr} {L : Lam} {pos : Pos} {E : Value → Shared → Prop} {Q : Value → Shared → Prop} (I : Inv X pins σ H s) (TB : TabB X.base X.mg c P) (hcode : X.env.code = .ref c)
    (hm : (P, lamQ X) ∈ T) (hu : ∀ p ∈ T, p.1 = P → p.2 = lamQ X) (hT : Tabs T H) (hdef : defaultsOf L.params X.env = ([], [])) (hfree : ∀ y ∈ L.scope.names, y.2 = .free → ∃ c, X.env.cells.lookup y.1 = some c)
    (h : ∀ (f c' : Addr) (H1 : Hp) (s' : Shared), Inv X pins σ H1 s' → (∀ b o, b ≠ P → H b = some o → H1 b = some o) → Tabs T H1 → H f = none → H1 f = some (LamO X L f c') → H1 c' = some (CodeO c' (lamQ X)) → (H c' = none ∨ H c' = some (CodeO c' (lamQ X))) → Q (.ref f) s') :
    wpAny (model X.prog X.w) X.A (eval (.Lambda L.params L.body L.scope pos) X.env) Q E s := by
  obtain ⟨ps, hP, ht, ha⟩ : TabS H P (lamQ X) := hT _ hm
  refine PySem.W.kla_eval hdef ?_
  have bP : s.heap.BuiltinsAt X.mg P := TB.bm.keeps I.bk
  have hP' : s.heap.get? P = some { cls := .none, data := .fields ps } := I.hok P _ hP
  have lay : ∀ {H1 : Hp} {h' : Heap} {t' t2 : Nat} {c' : Addr} {pm ctv : Value}, Inv X pins σ H1 { s with heap := h', toks := t' } → Inv X pins σ (upd H1 h'.objs.size (LamO X L h'.objs.size c')) { s with heap := h'.push (PySem.W.kla_obj "<lambda>" (lamQ X) L.params L.body L.scope (cloFrom X.env.cells L.scope.names []) pm c' ctv), toks := t2 } := fun {H1 h' t' t2 c' pm ctv} J =>
    J.laid (s := { s with heap := h', toks := t' }) (fun b u e => Heap.get?_push_of_some _ e) (Nat.le_refl _) ⟨⟨pm, ctv, Heap.get?_push_size _ rfl⟩, ⟨_, Heap.get?_push_size _ rfl⟩, fun h1 h2 ⟨pm, ctv, e⟩ st => ⟨pm, ctv, st _ e⟩⟩
  cases hc : codeAmong pos ps.toList with
  | none =>
    refine PySem.W.kla_makeFunction (mg := X.mg) (c := c) (P := P) (ps := ps) (closure_ok hfree) I.ok.glob (I.mod.glob.keeps I.bk) hcode (TB.code.keeps I.bk) hP' ht hc TB.gP bP fun c' ctv h' tk hx hge hlt hrec htb => ?_
    obtain ⟨c2, oc, vs, t, e2, hoc, hd, hv⟩ := hrec
    cases e2
    have hsz : s.heap.objs.size ≤ h'.objs.size := Nat.le_trans hge (Nat.le_of_lt hlt)
    have nC : H c' = none := I.hok.fresh hge
    have nF : H h'.objs.size = none := I.hok.fresh hsz
    have nPC : P ≠ c' := ne_of_none hP nC
    have nFC : h'.objs.size ≠ c' := Nat.ne_of_gt hlt
    have nFP : h'.objs.size ≠ P := Nat.ne_of_gt (Nat.lt_of_lt_of_le (Heap.lt_size hP') hsz)
    have I1 := inv_table (t' := tk) (more := #[rawInt pos.line, rawInt pos.col, .ref c']) (h' := h') I hP (fun b o hb e => hx b o hb e) htb hge ⟨oc, vs, t, hoc, hd, hv⟩
    have I2 := lay (pm := (X.mg "__name__").getD .none) (ctv := ctv) (t2 := tk) (c' := c') I1
    have at_ : ∀ b o, H b = some o → b ≠ P → upd (upd (upd H P (.tbl (ps ++ #[rawInt pos.line, rawInt pos.col, .ref c']))) c' (CodeO c' (lamQ X))) h'.objs.size (LamO X L h'.objs.size c') b = some o := fun b o e n => by
      rw [upd_ne (ne_of_none e nF), upd_ne (ne_of_none e nC), upd_ne n]; exact e
    have atC : upd (upd (upd H P (.tbl (ps ++ #[rawInt pos.line, rawInt pos.col, .ref c']))) c' (CodeO c' (lamQ X))) h'.objs.size (LamO X L h'.objs.size c') c' = some (CodeO c' (lamQ X)) := by
      rw [upd_ne nFC.symm, upd_same]
    have nPcode : ∀ c0 q, H c0 = some (CodeO c0 q) → c0 ≠ P := fun c0 q e z => by
      rw [z, hP] at e
      exact codeO_ne ps (Option.some.inj e).symm
    have eL : (ps ++ #[rawInt pos.line, rawInt pos.col, .ref c']).toList = ps.toList ++ [rawInt pos.line, rawInt pos.col, .ref c'] := by simp
    refine h h'.objs.size c' _ _ I2 (fun b o n e => at_ b o e n) (fun p hp => ?_) nF upd_same atC (.inl nC)
    by_cases hb : p.1 = P
    · rw [hu p hp hb, hb]
      refine ⟨ps ++ #[rawInt pos.line, rawInt pos.col, .ref c'], by rw [upd_ne nFP.symm, upd_ne nPC, upd_same], by rw [eL]; exact PySem.TriplesOk_snoc _ _ _ _ ht, fun p' cv hcv => ?_⟩
      rw [eL] at hcv
      rcases among_app _ ht hcv with z | z
      · obtain ⟨c0, e1, e2⟩ := ha p' cv z
        exact ⟨c0, e1, at_ _ _ e2 (nPcode _ _ e2)⟩
      · exact ⟨c', z, atC⟩
    · obtain ⟨ps', a1, a2, a3⟩ := hT p hp
      refine ⟨ps', at_ _ _ a1 hb, a2, fun p' cv hcv => ?_⟩
      obtain ⟨c0, e1, e2⟩ := a3 p' cv hcv
      exact ⟨c0, e1, at_ _ _ e2 (nPcode _ _ e2)⟩
  | some cv =>
    obtain ⟨c', e, hco⟩ := ha pos cv hc
    subst e
    refine PySem.W.kla_makeFunctionHit (mg := X.mg) (c := c) (P := P) (ps := ps) (closure_ok hfree) I.ok.glob (I.mod.glob.keeps I.bk) hcode (TB.code.keeps I.bk) hP' ht hc bP fun ctv h' tk hx hsz => ?_
    have I1 : Inv X pins σ H { s with heap := h', toks := tk } := I.kept hx
    have nF : H h'.objs.size = none := I.hok.fresh hsz
    have I2 := lay (pm := (X.mg "__name__").getD .none) (ctv := ctv) (t2 := tk) (c' := c') I1
    have kp : ∀ b o, H b = some o → upd H h'.objs.size (LamO X L h'.objs.size c') b = some o := fun b o e => by rw [upd_ne (ne_of_none e nF)]; exact e
    exact h h'.objs.size c' _ _ I2 (fun b o _ e => kp b o e) (hT.ext kp) nF upd_same (kp _ _ hco) (.inr hco)
end
/-- the lambda's value: the token j -/
def sLam (j : Nat) : Se X := fun _ => .ret (.p (.fn j))
section
variable {X : Cx} {g : Cf} {W : XK} {T : List Addr} {He : Hp}
theorem ev_lam {j : Nat} {c P : Addr} {L : Lam} {pos : Pos} (TB : TabB X.base X.mg c P) (hcode : X.env.code = .ref c) (hm : (P, lamQ X) ∈ g.fd.tb) (hu : ∀ p ∈ g.fd.tb, p.1 = P → p.2 = lamQ X) (hdef : defaultsOf L.params X.env = ([], [])) (hd0 : L.params.defaults = []) (hL : LamS X.env.scope L.scope)
    (hT : ∀ a ∈ T, g.fd.mv a) (hj : ∀ f H, LamT X L f H → g.fd.lm j f H) : EV X g W T He (.Lambda L.params L.body L.scope pos) (sLam j) := by
  refine ⟨fun pins s σ H Q I ⟨Γ, S, rl, w⟩ => ?_⟩
  refine lam_make3 I TB hcode hm hu rl.okd.tb hdef (hL.has I.ok) fun f c' H1 s' I1 k T1 nf hf hc oc => ?_
  obtain ⟨ps, hP, _⟩ : TabS H P (lamQ X) := rl.okd.tb _ hm
  have ex : Ext g.fd H H1 := by
    refine ⟨fun b o n e => k b o (fun z => n (by rw [z]; exact .inr ⟨_, hm⟩)) e, fun p l e => ?_, T1⟩
    obtain ⟨ns, i, c, s, h1, h2, r⟩ := rl.okd.fd p l e
    exact ⟨ns, i, c, s, k _ _ (fun z => by rw [z, hP] at h1; cases h1) h1, k _ _ (fun z => by rw [z, hP] at h2; cases h2) h2, r⟩
  have ncode : ∀ a, a ∈ T ++ S → H a ≠ some (CodeO a (lamQ X)) := fun a ha z => by
    rcases List.mem_append.mp ha with h | h
    · rcases hT a h with ⟨l, q⟩ | ⟨q', q⟩
      · obtain ⟨_, _, _, _, h1, _⟩ := rl.okd.fd a l q
        rw [h1] at z
        cases z
      · obtain ⟨ps, h1, _⟩ := rl.okd.tb _ q
        rw [h1] at z
        exact codeO_ne ps (Option.some.inj z).symm
    · obtain ⟨u, h1, h2⟩ := rl.tk a h
      rw [h1] at z
      exact h2 _ _ (Option.some.inj z)
  have nc : c' ∉ T ++ S := fun h => by
    rcases oc with z | z
    · exact rl.tkTS h z
    · exact ncode c' h z
  exact ⟨.ref f, H1, I1, rfl, w (.ref f) H1 ex (Rp.fn (hj f _ ⟨c', by rw [off_ne nc]; exact hc, by rw [hd0]; show off H1 (T ++ S) f = _; rw [off_ne (rl.freeTS nf)]; exact hf⟩))⟩
end
end G
namespace G
open PySem PySem.Spec L2 LamX
open PyProof.Rows hiding St
/-! ### lambdas with one parameter that is given by its default, an int -/
section
variable {X : Cx} {pins : List (Addr × Obj)} {σ : L2.St} {H : Hp} {s : Shared}
theorem lam_makeD {T : List (Addr × Str)} {c P : Addr} {L : Lam} {pos : Pos} {d : Int} {j : Nat} {pc : Pos} {E : Value → Shared → Prop} {Q : Value → Shared → Prop} (I : Inv X pins σ H s) (TB : TabB X.base X.mg c P) (hcode : X.env.code = .ref c)
    (hm : (P, lamQ X) ∈ T) (hu : ∀ p ∈ T, p.1 = P → p.2 = lamQ X) (hT : Tabs T H) (hdf : L.params.defaults = [.Constant (.int d) j pc]) (hkd : L.params.kw_defaults = []) (hko : L.params.kwonlyargs = []) (hfree : ∀ y ∈ L.scope.names, y.2 = .free → ∃ c, X.env.cells.lookup y.1 = some c)
    (h : ∀ (f c' T0 : Addr) (H1 : Hp) (s' : Shared), Inv X pins σ H1 s' → (∀ b o, b ≠ P → H b = some o → H1 b = some o) → Tabs T H1 → H f = none → H T0 = none → H1 f = some (LamOD X L f c' T0) → H1 T0 = some (.tup [.int d]) → H1 c' = some (CodeO c' (lamQ X)) → (H c' = none ∨ H c' = some (CodeO c' (lamQ X))) → Q (.ref f) s') :
    wpAny (model X.prog X.w) X.A (eval (.Lambda L.params L.body L.scope pos) X.env) Q E s := by
  refine PySem.W.kdv_lam (by rw [hdf]; rfl) hkd ?_
  rw [hdf]
  show wpAny _ _ (do let v ← eval (.Constant (.int d) j pc) X.env; return v :: (← holding [v] (evalAll []))) _ _ _
  refine wpAny_bind (thn ((show PE X (.Constant (.int d) j pc) (tC (.int d)) from pe_int).run pins s σ H (fun v H1 => v = .int d ∧ H1 = H) I ⟨rfl, rfl⟩) fun u s1 ⟨v, H1, I1, r1, ev, eH⟩ => ?_)
  subst ev
  subst eH
  refine wpAny_bind (wpAny_holding (wpAny_pure (wpAny_pure ?_)))
  rw [makeFunction_eq, hko]
  simp only [List.zip_nil_left, List.filterMap_nil, List.isEmpty_nil, if_true, List.isEmpty_cons, Bool.false_eq_true, if_false, pure_bind]
  refine wpAny_bind (wpAny_newTextTuple ?_)
  obtain ⟨tk0, hu0⟩ : ∃ t, u = .int d t := r1
  generalize hT0 : s1.heap.objs.size = T0
  have nT0 : H1 T0 = none := I1.hok.fresh (Nat.le_of_eq hT0)
  have kp0 : ∀ b o, H1 b = some o → upd H1 T0 (.tup [.int d]) b = some o := fun b o e => by rw [upd_ne (ne_of_none e nT0)]; exact e
  have I2 : Inv X pins σ (upd H1 T0 (.tup [.int d])) { s1 with heap := s1.heap.push { cls := .type "tuple", data := .seq [u].toArray } } :=
    I1.laid (t' := s1.toks) (fun b o e => Heap.get?_push_of_some _ e) (Nat.le_of_eq hT0) ⟨by show 1 ≤ sizeLine; decide, [u], .cons ⟨tk0, hu0⟩ .nil, by
      rw [← hT0]
      exact ⟨_, Heap.get?_push_size _ rfl, rfl, _, rfl⟩⟩
  generalize hs2 : ({ s1 with heap := s1.heap.push { cls := .type "tuple", data := .seq [u].toArray } } : Shared) = s2 at I2 ⊢
  have hT2 : Tabs T (upd H1 T0 (.tup [.int d])) := hT.ext kp0
  generalize hH2 : upd H1 T0 (.tup [.int d]) = H2 at I2 hT2 kp0
  have atT0 : H2 T0 = some (.tup [.int d]) := by rw [← hH2, upd_same]
  have back : ∀ b, H2 b = none → H1 b = none := fun b e => by
    cases q : H1 b with
    | none => rfl
    | some o => rw [kp0 b o q] at e; cases e
  obtain ⟨ps, hP, ht, ha⟩ : TabS H2 P (lamQ X) := hT2 _ hm
  have bP : s2.heap.BuiltinsAt X.mg P := TB.bm.keeps I2.bk
  have hP' : s2.heap.get? P = some { cls := .none, data := .fields ps } := I2.hok P _ hP
  have lay : ∀ {Ha : Hp} {h' : Heap} {t' t2 : Nat} {c' : Addr} {pm doc ctv : Value}, Inv X pins σ Ha { s2 with heap := h', toks := t' } → Inv X pins σ (upd Ha h'.objs.size (LamOD X L h'.objs.size c' T0)) { s2 with heap := h'.push (PySem.W.kdv_obj "<lambda>" (lamQ X) L.params (.expr L.body) L.scope (cloFrom X.env.cells L.scope.names []) (.ref T0) doc pm c' ctv), toks := t2 } := fun {Ha h' t' t2 c' pm doc ctv} J =>
    J.laid (s := { s2 with heap := h', toks := t' }) (fun b u e => Heap.get?_push_of_some _ e) (Nat.le_refl _) ⟨⟨pm, doc, ctv, Heap.get?_push_size _ rfl⟩, ⟨_, Heap.get?_push_size _ rfl⟩, fun h1 h2 ⟨pm, doc, ctv, e⟩ st => ⟨pm, doc, ctv, st _ e⟩⟩
  cases hc : codeAmong pos ps.toList with
  | none =>
    refine PySem.W.kdv_makeTail (mg := X.mg) (c := c) (P := P) (ps := ps) (closure_ok hfree) I2.ok.glob (I2.mod.glob.keeps I2.bk) hcode (TB.code.keeps I2.bk) hP' ht hc TB.gP bP fun c' ctv doc h' tk hx hge hlt hrec htb => ?_
    obtain ⟨c2, oc, vs, t, e2, hoc, hd, hv⟩ := hrec
    cases e2
    have hsz : s2.heap.objs.size ≤ h'.objs.size := Nat.le_trans hge (Nat.le_of_lt hlt)
    have nC : H2 c' = none := I2.hok.fresh hge
    have nF : H2 h'.objs.size = none := I2.hok.fresh hsz
    have nPC : P ≠ c' := ne_of_none hP nC
    have nFC : h'.objs.size ≠ c' := Nat.ne_of_gt hlt
    have nFP : h'.objs.size ≠ P := Nat.ne_of_gt (Nat.lt_of_lt_of_le (Heap.lt_size hP') hsz)
    have I3 := inv_table (t' := tk) (more := #[rawInt pos.line, rawInt pos.col, .ref c']) (h' := h') I2 hP (fun b o hb e => hx b o hb e) htb hge ⟨oc, vs, t, hoc, hd, hv⟩
    have I4 := lay (pm := (X.mg "__name__").getD .none) (doc := doc) (ctv := ctv) (t2 := tk) (c' := c') I3
    have at_ : ∀ b o, H2 b = some o → b ≠ P → upd (upd (upd H2 P (.tbl (ps ++ #[rawInt pos.line, rawInt pos.col, .ref c']))) c' (CodeO c' (lamQ X))) h'.objs.size (LamOD X L h'.objs.size c' T0) b = some o := fun b o e n => by
      rw [upd_ne (ne_of_none e nF), upd_ne (ne_of_none e nC), upd_ne n]; exact e
    have atC : upd (upd (upd H2 P (.tbl (ps ++ #[rawInt pos.line, rawInt pos.col, .ref c']))) c' (CodeO c' (lamQ X))) h'.objs.size (LamOD X L h'.objs.size c' T0) c' = some (CodeO c' (lamQ X)) := by
      rw [upd_ne nFC.symm, upd_same]
    have nPcode : ∀ c0 q, H2 c0 = some (CodeO c0 q) → c0 ≠ P := fun c0 q e z => by
      rw [z, hP] at e
      exact codeO_ne ps (Option.some.inj e).symm
    have nTP : T0 ≠ P := fun z => by rw [z, hP] at atT0; cases atT0
    have eL : (ps ++ #[rawInt pos.line, rawInt pos.col, .ref c']).toList = ps.toList ++ [rawInt pos.line, rawInt pos.col, .ref c'] := by simp
    refine h h'.objs.size c' T0 _ _ I4 (fun b o n e => at_ b o (kp0 b o e) n) (fun p hp => ?_) (back _ nF) nT0 upd_same (at_ _ _ atT0 nTP) atC (.inl (back _ nC))
    by_cases hb : p.1 = P
    · rw [hu p hp hb, hb]
      refine ⟨ps ++ #[rawInt pos.line, rawInt pos.col, .ref c'], by rw [upd_ne nFP.symm, upd_ne nPC, upd_same], by rw [eL]; exact PySem.TriplesOk_snoc _ _ _ _ ht, fun p' cv hcv => ?_⟩
      rw [eL] at hcv
      rcases among_app _ ht hcv with z | z
      · obtain ⟨c0, e1, e2⟩ := ha p' cv z
        exact ⟨c0, e1, at_ _ _ e2 (nPcode _ _ e2)⟩
      · exact ⟨c', z, atC⟩
    · obtain ⟨ps', a1, a2, a3⟩ := hT2 p hp
      refine ⟨ps', at_ _ _ a1 hb, a2, fun p' cv hcv => ?_⟩
      obtain ⟨c0, e1, e2⟩ := a3 p' cv hcv
      exact ⟨c0, e1, at_ _ _ e2 (nPcode _ _ e2)⟩
  | some cv =>
    obtain ⟨c', e, hco⟩ := ha pos cv hc
    subst e
    refine PySem.W.kdv_makeTailHit (mg := X.mg) (c := c) (P := P) (ps := ps) (closure_ok hfree) I2.ok.glob (I2.mod.glob.keeps I2.bk) hcode (TB.code.keeps I2.bk) hP' ht hc bP fun ctv doc h' tk hx hsz => ?_
    have I3 : Inv X pins σ H2 { s2 with heap := h', toks := tk } := I2.kept hx
    have nF : H2 h'.objs.size = none := I2.hok.fresh hsz
    have I4 := lay (pm := (X.mg "__name__").getD .none) (doc := doc) (ctv := ctv) (t2 := tk) (c' := c') I3
    have kp : ∀ b o, H2 b = some o → upd H2 h'.objs.size (LamOD X L h'.objs.size c' T0) b = some o := fun b o e => by rw [upd_ne (ne_of_none e nF)]; exact e
    have hco1 : H1 c' = none ∨ H1 c' = some (CodeO c' (lamQ X)) := by
      cases q : H1 c' with
      | none => exact .inl rfl
      | some o => rw [kp0 _ _ q] at hco; exact .inr hco
    exact h h'.objs.size c' T0 _ _ I4 (fun b o _ e => kp b o (kp0 b o e)) (hT2.ext kp) (back _ nF) nT0 upd_same (kp _ _ atT0) (kp _ _ hco) hco1
end
end G
namespace G
open PySem PySem.Spec L2 LamX
open PyProof.Rows hiding St
/-- one parameter pa, else captured names and globals; N does not hold pa -/
structure LamP (N : List Str) (sc scope : Scope) (pa : Str) : Prop where
  kind : scope.kind = .function
  co : scope.isCoroutine = false
  gen : scope.isGenerator = false
  cell : ∀ y ∈ scope.names, y.2 ≠ .cell
  loc : ∀ y ∈ scope.names, y.2 = .local → y.1 = pa
  par : scope.names.lookup pa = some .local
  out : pa ∉ N
  free : ∀ y ∈ scope.names, y.2 = .free → sc.names.lookup y.1 = some .cell ∨ sc.names.lookup y.1 = some .free
def lamPB (N : List Str) (sc scope : Scope) (pa : Str) : Bool := decide (scope.kind = .function) && (!scope.isCoroutine && (!scope.isGenerator && (scope.names.all (fun y => !decide (y.2 = .cell)) && (scope.names.all (fun y => !decide (y.2 = .local) || decide (y.1 = pa)) && (decide (scope.names.lookup pa = some .local) && (!decide (pa ∈ N) &&
  scope.names.all fun y => !decide (y.2 = .free) || decide (sc.names.lookup y.1 = some .cell) || decide (sc.names.lookup y.1 = some .free)))))))
theorem lamP_by {N : List Str} {sc scope : Scope} {pa : Str} (h : lamPB N sc scope pa = true) : LamP N sc scope pa := by
  unfold lamPB at h
  simp only [Bool.and_eq_true, Bool.or_eq_true, Bool.not_eq_true', decide_eq_true_eq, decide_eq_false_iff_not, List.all_eq_true] at h
  obtain ⟨h1, h2, h3, h4, h5, h6, h7, h8⟩ := h
  refine ⟨h1, h2, h3, h4, fun y hy e => (h5 y hy).elim (fun z => absurd e z) id, h6, h7, fun y hy e => ?_⟩
  rcases h8 y hy with (z | z) | z
  · exact absurd e z
  · exact .inl z
  · exact .inr z
section
variable {X : Cx} {pins : List (Addr × Obj)} {σ : L2.St} {H HZ : Hp} {s s1 : Shared}
theorem LamP.has {scope : Scope} {pa : Str} (L : LamP X.N X.env.scope scope pa) (ok : X.Ok) : ∀ y ∈ scope.names, y.2 = .free → ∃ c, X.env.cells.lookup y.1 = some c := fun y hy e => (L.free y hy e).elim (fun k => ok.has _ (.inl k)) fun k => ok.has _ (.inr k)
theorem lam_startP {A : Around} {outer : List Env} {E : XK} {scope : Scope} {f c' : Addr} {h₁ : Heap} {tk : Nat} {pa : Str} {m : Str → Option Value} (I : Inv X pins σ H s) (L : LamP X.N X.env.scope scope pa) (e0 : Env0 X.prog X.w X.K X.mg X.base A outer s1 HZ) (hd : A.handled = none)
    (un : Un (frs X.stack) [] H HZ s.heap s1.heap) (hns : h₁.Ns s1.heap.objs.size m) (kp : ∀ b o, s1.heap.get? b = some o → h₁.get? b = some o) :
    Inv (lamCx X A outer s1 HZ E scope f c') [] σ HZ { s1 with heap := h₁, toks := tk } := by
  have hfree := L.has I.ok
  have cm : ∀ {y c}, (cloFrom X.env.cells scope.names []).lookup y = some c → X.env.cells.lookup y = some c := fun {y c} e => by
    rcases cloFrom_mem (PySem.mem_of_lookup e) with hm | ⟨h1, h2⟩
    · cases hm
    · obtain ⟨c1, hc⟩ := hfree _ h1 rfl
      have hc : X.env.cells.lookup y = some c1 := hc
      have e2 : c = c1 := by rw [h2, hc] <;> rfl
      rw [e2]
      exact hc
  have look : ∀ {y}, scope.names.lookup y = some .free → ∃ c, (cloFrom X.env.cells scope.names []).lookup y = some c := fun {y} hl => by
    have hy : (y, NameKind.free) ∈ scope.names := PySem.mem_of_lookup hl
    exact mem_lookup (cloFrom_has (cells := X.env.cells) (acc := []) hy)
  have cellK : ∀ {c : Addr} {v : Option Value}, H c = none → s.heap.IsCell c v → h₁.IsCell c v := fun {c v} n ⟨o, ho, hd⟩ => by
    obtain ⟨sl, q⟩ := un.any ho n (by simp)
    exact ⟨_, kp _ _ q, hd⟩
  have noA : ∀ b : Addr, b ∉ (lamCx X A outer s1 HZ E scope f c').ex := fun b z => by cases (show b ∈ ([] : List Addr) from z)
  exact {
    ok := { mod := e0.mod, kind := L.kind, glob := rfl, blt := rfl, above := Nat.le_refl _, inj := fun y z c e1 e2 => I.ok.inj y z c (cm e1) (cm e2),
            has := fun y hy => (by
              have hy : scope.names.lookup y = some .cell ∨ scope.names.lookup y = some .free := hy
              rcases hy with hy | hy
              · exact absurd rfl (L.cell _ (PySem.mem_of_lookup hy))
              · exact look hy),
            cab := fun y c z _ => (by cases (show false = true from z)), hd := fun _ => hd, frames := Around.frames_deeper e0.frames, stk := .inr ⟨rfl, rfl⟩, exf := fun b z => absurd z (noA b), bs := e0.bs, bsz := e0.bsz, noex := fun b _ _ => noA b, exfs := fun b z => absurd z (noA b), funs := e0.funs, frf := e0.frf },
    os := rfl, bare := e0.bare, base := Un.kept kp,
    loc := ⟨m, hns, fun i y v e1 e2 e3 => (by
      have e3 : Vis scope y := e3
      rcases e3 with k | k | k
      · exact absurd (L.loc _ (PySem.mem_of_lookup k) rfl ▸ List.mem_of_getElem? e1) L.out
      · exact absurd rfl (L.cell _ (PySem.mem_of_lookup k))
      · obtain ⟨m, hn, hl⟩ := I.loc
        have hvis : Vis X.env.scope y := (L.free _ (PySem.mem_of_lookup k) rfl).elim (fun k => .inr (.inl k)) (fun k => .inr (.inr k))
        obtain ⟨w', r, q⟩ := hl i y v e1 e2 hvis
        obtain ⟨c2, h2⟩ := look k
        refine ⟨w', r, .inr ⟨.inr k, c2, h2, ?_⟩⟩
        have c1 := cm h2
        rcases q with ⟨k', _⟩ | ⟨_, c3, e', z⟩
        · have k' : X.env.scope.names.lookup y = some .local := k'
          rcases L.free _ (PySem.mem_of_lookup k) rfl with k2 | k2 <;> rw [show X.env.scope.names.lookup y = _ from k2] at k' <;> cases k'
        · rw [c1] at e'
          cases e'
          exact cellK (I.freeC y _ c1) z)⟩,
    cell := fun y c e => (by
      obtain ⟨w', z⟩ := I.cell y c (cm e)
      exact ⟨w', cellK (I.freeC y c (cm e)) z⟩),
    free := e0.hok.fresh (Nat.le_refl _),
    freeC := fun y c e => (by
      obtain ⟨v, o, ho, hd⟩ := I.cell y c (cm e)
      exact un.free c o ho (I.freeC y c (cm e)) (by simp)),
    pin := fun q hq => (by cases (show q ∈ ([] : List (Addr × Obj)) ++ [] from hq)), hok := e0.hok.kept kp, len := I.len }
end
end G
namespace G
open PySem PySem.Spec L2 LamX
open PyProof.Rows hiding St
section
variable {X : Cx} {pins : List (Addr × Obj)} {σ : L2.St} {H : Hp} {s : Shared}
/-- a(), in the def that got a lambda with a default -/
theorem pe_actP {CXg : CXT} {Eg : XK} {Ng : List Str} {qg : Str} {sg : Scope} {g f c' T0 : Addr} {cdg : Value} {L : Lam} {k i : Nat} {a pa : Str} {dv : Int} {pn : List (Addr × Obj)} {xe : Value → Shared → Prop} {W : WX} {E : XK} {tb : TE} {p1 p2 : Pos}
    (I : Inv X pins σ H s) (hL : LamP X.N X.env.scope L.scope pa)
    (hbind : ∀ (q : Str) (cl : List (Str × Addr)) (T0 : Addr) (doc pm cv ctv u : Value), ∃ k, bindArgs (PySem.W.kdv_fn "<lambda>" q L.params (.expr L.body) L.scope cl (.ref T0) doc pm cv ctv) ⟨[], []⟩ = seqItems? (.ref T0) >>= k ∧ k (some #[u]) = pure [(pa, u)])
    (tk : Takes ((cxOf CXg X.prog X.w X.K X.mg X.base Ng qg sg g cdg X.A X.stack s H Eg).tr pn xe) W) (hW : ∀ cls d σ' H', E cls d H' → W cls d σ' H') (hr : Room (k + 1) (X.A.deeper (envOfC qg sg s.heap.objs.size g cdg)))
    (hbody : ∀ (A : Around) (outer : List Env) (s : Shared) (H : Hp), Room k (A.deeper (lamEnv X L.scope s.heap.objs.size f c')) → PE (lamCx X A outer s H E L.scope f c') L.body tb)
    (hN : Ng[i]? = some a) (hv : Vis sg a) (hd : (a == ("__debug__" : Str)) = false := by decide) (hcd : (a == ("__classdict__" : Str)) = false := by decide) :
    PE ((cxOf CXg X.prog X.w X.K X.mg X.base Ng qg sg g cdg X.A X.stack s H Eg).tr pn xe) (.Call (.Name a p1) [] [] p2)
      (fun σZ HZ Q => σZ[i]? = some (some (.ref f)) ∧ HZ f = some (LamOD X L f c' T0) ∧ HZ T0 = some (.tup [.int dv]) ∧ HZ c' = some (CodeO c' (lamQ X)) ∧ tb σ HZ Q) := by
  refine ⟨fun pinsZ sZ σZ HZ Q IZ ⟨hs, hf, hT, hc, ht⟩ => ?_⟩
  refine wpAny_Call_Name_kw (thn ((pe_var (pos := p1) (i := i) hN hv hd hcd).run pinsZ sZ σZ HZ (fun v H1 => v = .ref f ∧ H1 = HZ) IZ ⟨.ref f, hs, rfl, rfl⟩) fun u s1 ⟨v, H1, I1, r1, ev, eH⟩ => ?_)
  subst ev
  subst eH
  obtain rfl : u = Value.ref f := r1
  obtain ⟨⟨pm, doc, ctv, of1⟩, _, _⟩ := I1.hok f _ hf
  obtain ⟨_, its, rits, oT, hoT, _, nT, hdT⟩ := I1.hok T0 _ hT
  obtain ⟨uT, eits⟩ : ∃ u, its = [u] := by
    cases rits with
    | cons h t => cases t; exact ⟨_, rfl⟩
  subst eits
  refine PySem.W.callWith_F0 ⟨_, _, _, _, of1⟩ ?_
  have un : Un (frs X.stack) [] H H1 s.heap s1.heap := I1.base
  obtain ⟨⟨oc, vs, t, hoc, hdc, hvc⟩, _, _⟩ := I1.hok c' _ hc
  have rc : codeAny (model X.prog X.w) (X.A.deeper (envOfC qg sg s.heap.objs.size g cdg)) (.call (.ref f) ⟨[], []⟩) (CR (L2.CX X.prog X.w) (envOfC qg sg s.heap.objs.size g cdg :: X.stack) X.prog X.w H1 s1 Q E) s1 := by
    refine PySem.W.kla_callFunE hr.depth of1 rfl hL.co hL.gen rfl ⟨c', oc, vs, t, rfl, hoc, hdc, hvc⟩ ?_
    obtain ⟨kk, b1, b2⟩ := hbind (lamQ X) (cloFrom X.env.cells L.scope.names []) T0 doc pm (.ref c') ctv uT
    refine BindsTo.of_defaults (T := T0) rfl hoT hdT b1 b2 _ _ _ _ ?_
    refine wpAny_newFunctionEnv hL.cell (fun y hy => by rw [List.mem_singleton.mp hy]; exact hL.par) (fun h₁ hns hsb => ⟨I1.nolimit.fresh _ hsb, ?_⟩) hL.kind
    show codeAny _ _ (.expr L.body (lamEnv X L.scope s1.heap.objs.size f c')) _ _
    have kp : ∀ b o, s1.heap.get? b = some o → h₁.get? b = some o := fun b o e => hsb.extBut b o (Nat.ne_of_lt (Heap.lt_size e)) (Heap.get?_push_of_some _ e)
    have J := lam_startP (E := E) (f := f) (c' := c') (tk := s1.toks + ([(pa, uT)] : List (Str × Value)).length) I hL I1.env0 hr.hd un hns kp
    refine PySem.W.kla_codeExpr (wpAny_mono ((hbody _ _ s1 H1 (hr.deeper _)).run [] _ _ H1 Q J ht) (fun v s' hq => ?_) fun e s' hq => hq)
    obtain ⟨w', H', J', rv, q⟩ := hq
    exact ⟨w', H', J'.os, J'.bare, J'.base, J'.hok, rv, q⟩
  have hx : Passes (L2.CX X.prog X.w) ((cxOf CXg X.prog X.w X.K X.mg X.base Ng qg sg g cdg X.A X.stack s H Eg).tr pn xe) E := passes_call tk hW
  refine wpAny_call (codeAny_mono rc fun r s' hq => ?_)
  cases r with
  | error e => exact hx pinsZ σZ H1 s1 e s' I1 hq
  | ok fl =>
    cases fl with
    | ret u => exact I1.after hq
    | next => exact False.elim hq
    | brk => exact False.elim hq
    | cont => exact False.elim hq
end
/-- a lambda with a default as a value -/
theorem ev_lamD {X : Cx} {g : Cf} {W : XK} {T : List Addr} {He : Hp} {j jc : Nat} {c P : Addr} {L : Lam} {pos pc : Pos} {d : Int} {pa : Str} (TB : TabB X.base X.mg c P) (hcode : X.env.code = .ref c) (hm : (P, lamQ X) ∈ g.fd.tb) (hu : ∀ p ∈ g.fd.tb, p.1 = P → p.2 = lamQ X) (hdf : L.params.defaults = [.Constant (.int d) jc pc]) (hkd : L.params.kw_defaults = []) (hko : L.params.kwonlyargs = [])
    (hL : LamP X.N X.env.scope L.scope pa) (hT : ∀ a ∈ T, g.fd.mv a) (hj : ∀ f H, LamT X L f H → g.fd.lm j f H) : EV X g W T He (.Lambda L.params L.body L.scope pos) (sLam j) := by
  refine ⟨fun pins s σ H Q I ⟨Γ, S, rl, w⟩ => ?_⟩
  refine lam_makeD I TB hcode hm hu rl.okd.tb hdf hkd hko (hL.has I.ok) fun f c' T0 H1 s' I1 k T1 nf nt hf ht hc oc => ?_
  obtain ⟨ps, hP, _⟩ : TabS H P (lamQ X) := rl.okd.tb _ hm
  have ex : Ext g.fd H H1 := by
    refine ⟨fun b o n e => k b o (fun z => n (by rw [z]; exact .inr ⟨_, hm⟩)) e, fun p l e => ?_, T1⟩
    obtain ⟨ns, i, c, s, h1, h2, r⟩ := rl.okd.fd p l e
    exact ⟨ns, i, c, s, k _ _ (fun z => by rw [z, hP] at h1; cases h1) h1, k _ _ (fun z => by rw [z, hP] at h2; cases h2) h2, r⟩
  have ncode : ∀ a, a ∈ T ++ S → H a ≠ some (CodeO a (lamQ X)) := fun a ha z => by
    rcases List.mem_append.mp ha with h | h
    · rcases hT a h with ⟨l, q⟩ | ⟨q', q⟩
      · obtain ⟨_, _, _, _, h1, _⟩ := rl.okd.fd a l q
        rw [h1] at z
        cases z
      · obtain ⟨ps, h1, _⟩ := rl.okd.tb _ q
        rw [h1] at z
        exact codeO_ne ps (Option.some.inj z).symm
    · obtain ⟨u, h1, h2⟩ := rl.tk a h
      rw [h1] at z
      exact h2 _ _ (Option.some.inj z)
  have nc : c' ∉ T ++ S := fun h => oc.elim (fun z => rl.tkTS h z) (ncode c' h)
  refine ⟨.ref f, H1, I1, rfl, w (.ref f) H1 ex (Rp.fn (hj f _ ⟨c', by rw [off_ne nc]; exact hc, ?_⟩))⟩
  rw [hdf]
  exact ⟨T0, d, by rw [off_ne (rl.freeTS nf)]; exact hf, by rw [off_ne (rl.freeTS nt)]; exact ht⟩
end G
namespace G
open PySem PySem.Spec L2 LamX
open PyProof.Rows hiding St
/-! ### a def that calls the lambda it got -/
section
variable {X : Cx} {pins : List (Addr × Obj)} {σ : L2.St} {H : Hp} {s : Shared}
/-- a(), in the def that got the lambda -/
theorem pe_actT {CXg : CXT} {Eg : XK} {Ng : List Str} {qg : Str} {sg : Scope} {g f c' : Addr} {cdg : Value} {L : Lam} {k i : Nat} {a : Str} {pn : List (Addr × Obj)} {xe : Value → Shared → Prop} {W : WX} {E : XK} {tb : TE} {p1 p2 : Pos}
    (I : Inv X pins σ H s) (hL : LamS X.env.scope L.scope) (hbind : ∀ (q : Str) (cl : List (Str × Addr)) (pm cv ctv : Value), bindArgs (PySem.W.kla_fn "<lambda>" q L.params L.body L.scope cl pm cv ctv) ⟨[], []⟩ = pure [])
    (tk : Takes ((cxOf CXg X.prog X.w X.K X.mg X.base Ng qg sg g cdg X.A X.stack s H Eg).tr pn xe) W) (hW : ∀ cls d σ' H', E cls d H' → W cls d σ' H') (hr : Room (k + 1) (X.A.deeper (envOfC qg sg s.heap.objs.size g cdg)))
    (hbody : ∀ (A : Around) (outer : List Env) (s : Shared) (H : Hp), Room k (A.deeper (lamEnv X L.scope s.heap.objs.size f c')) → PE (lamCx X A outer s H E L.scope f c') L.body tb)
    (hN : Ng[i]? = some a) (hv : Vis sg a) (hd : (a == ("__debug__" : Str)) = false := by decide) (hcd : (a == ("__classdict__" : Str)) = false := by decide) :
    PE ((cxOf CXg X.prog X.w X.K X.mg X.base Ng qg sg g cdg X.A X.stack s H Eg).tr pn xe) (.Call (.Name a p1) [] [] p2)
      (fun σZ HZ Q => σZ[i]? = some (some (.ref f)) ∧ HZ f = some (LamO X L f c') ∧ HZ c' = some (CodeO c' (lamQ X)) ∧ tb σ HZ Q) := by
  refine ⟨fun pinsZ sZ σZ HZ Q IZ ⟨hs, hf, hc, ht⟩ => ?_⟩
  refine wpAny_Call_Name_kw (thn ((pe_var (pos := p1) (i := i) hN hv hd hcd).run pinsZ sZ σZ HZ (fun v H1 => v = .ref f ∧ H1 = HZ) IZ ⟨.ref f, hs, rfl, rfl⟩) fun u s1 ⟨v, H1, I1, r1, ev, eH⟩ => ?_)
  subst ev
  subst eH
  obtain rfl : u = Value.ref f := r1
  obtain ⟨⟨pm, ctv, of1⟩, _, _⟩ := I1.hok f _ hf
  refine PySem.W.callWith_F0 ⟨_, _, _, _, of1⟩ ?_
  have un : Un (frs X.stack) [] H H1 s.heap s1.heap := I1.base
  obtain ⟨⟨oc, vs, t, hoc, hdc, hvc⟩, _, _⟩ := I1.hok c' _ hc
  have rc : codeAny (model X.prog X.w) (X.A.deeper (envOfC qg sg s.heap.objs.size g cdg)) (.call (.ref f) ⟨[], []⟩) (CR (L2.CX X.prog X.w) (envOfC qg sg s.heap.objs.size g cdg :: X.stack) X.prog X.w H1 s1 Q E) s1 := by
    refine PySem.W.kla_callFunE hr.depth of1 rfl hL.co hL.gen rfl ⟨c', oc, vs, t, rfl, hoc, hdc, hvc⟩ ?_
    rw [hbind]
    refine wpAny_pure (wpAny_newFunctionEnv (fun y hy => (hL.own y hy).2) (fun y hy => absurd hy (by simp)) (fun h₁ hns hsb => ⟨I1.nolimit.fresh _ hsb, ?_⟩) hL.kind)
    show codeAny _ _ (.expr L.body (lamEnv X L.scope s1.heap.objs.size f c')) _ _
    have kp : ∀ b o, s1.heap.get? b = some o → h₁.get? b = some o := fun b o e => hsb.extBut b o (Nat.ne_of_lt (Heap.lt_size e)) (Heap.get?_push_of_some _ e)
    have J := lam_start2 (E := E) (f := f) (c' := c') (tk := s1.toks + ([] : List (Str × Value)).length) I hL I1.env0 hr.hd un hns kp
    refine PySem.W.kla_codeExpr (wpAny_mono ((hbody _ _ s1 H1 (hr.deeper _)).run [] _ _ H1 Q J ht) (fun v s' hq => ?_) fun e s' hq => hq)
    obtain ⟨w', H', J', rv, q⟩ := hq
    exact ⟨w', H', J'.os, J'.bare, J'.base, J'.hok, rv, q⟩
  have hx : Passes (L2.CX X.prog X.w) ((cxOf CXg X.prog X.w X.K X.mg X.base Ng qg sg g cdg X.A X.stack s H Eg).tr pn xe) E := passes_call tk hW
  refine wpAny_call (codeAny_mono rc fun r s' hq => ?_)
  cases r with
  | error e => exact hx pinsZ σZ H1 s1 e s' I1 hq
  | ok fl =>
    cases fl with
    | ret u => exact I1.after hq
    | next => exact False.elim hq
    | brk => exact False.elim hq
    | cont => exact False.elim hq
end
/-- the def x calls what it got: a; RD: what it makes of the lambda's reading -/
def GivesT (X : Cx) (Ng : List Str) (x : Str) (sg : Scope) (g : Addr) (cdg : Value) (bg : List Stmt) (a : Str) (RD : (XK → Hp → VK → Prop) → Hp → VK → Prop) : Prop :=
  ∀ (f : Addr) (PT : Hp → Prop) (s : Shared) (H : Hp) (Q : VK) (tl : XK → Hp → VK → Prop),
    (∀ (W : WX) (pn : List (Addr × Obj)) (xe : Value → Shared → Prop) (E : XK) (p1 p2 : Pos), Takes ((cxOf C8.CX0 X.prog X.w X.K X.mg X.base Ng x sg g cdg X.A X.stack s H C8.E0).nox.tr pn xe) W → (∀ cls d σ' H', E cls d H' → W cls d σ' H') →
      PE ((cxOf C8.CX0 X.prog X.w X.K X.mg X.base Ng x sg g cdg X.A X.stack s H C8.E0).nox.tr pn xe) (.Call (.Name a p1) [] [] p2) (fun σZ HZ Q => σZ[0]? = some (some (.ref f)) ∧ PT HZ ∧ tl E HZ Q)) →
    PT H → RD tl H Q →
    ∃ t, PSs (cxOf C8.CX0 X.prog X.w X.K X.mg X.base Ng x sg g cdg X.A X.stack s H C8.E0).nox bg t ∧ t { nx := fun _ H' => Q .non H', rt := Q } (L2.start Ng [.ref f]) H
/-- the lambdas: their words, what is read of their bodies -/
abbrev Lams := Nat → Option (Lam × (XK → TE))
def tTryC (X : Cx) (lams : Lams) (RD : (XK → Hp → VK → Prop) → Hp → VK → Prop) (te : TE) : TE := fun σ H Q => te σ H fun v H1 => ∃ f j L t, v = .ref f ∧ lams j = some (L, t) ∧ LamT X L f H1 ∧ RD (fun E H' Q' => t E σ H' Q') H1 Q
structure LamOk (X : Cx) (k : Nat) (L : Lam) (t : XK → TE) : Prop where
  sc : match L.params.defaults with
    | [] => LamS X.env.scope L.scope ∧ ∀ (q : Str) (cl : List (Str × Addr)) (pm cv ctv : Value), bindArgs (PySem.W.kla_fn "<lambda>" q L.params L.body L.scope cl pm cv ctv) ⟨[], []⟩ = pure []
    | _ => ∃ pa, LamP X.N X.env.scope L.scope pa ∧ ∀ (q : Str) (cl : List (Str × Addr)) (T0 : Addr) (doc pm cv ctv u : Value), ∃ k, bindArgs (PySem.W.kdv_fn "<lambda>" q L.params (.expr L.body) L.scope cl (.ref T0) doc pm cv ctv) ⟨[], []⟩ = seqItems? (.ref T0) >>= k ∧ k (some #[u]) = pure [(pa, u)]
  body : ∀ (A : Around) (outer : List Env) (s : Shared) (H : Hp) (E : XK) (f c' : Addr), Room k (A.deeper (lamEnv X L.scope s.heap.objs.size f c')) → PE (lamCx X A outer s H E L.scope f c') L.body (t E)
theorem pe_actL {X : Cx} {pins : List (Addr × Obj)} {σ : L2.St} {H : Hp} {s : Shared} {CXg : CXT} {Eg : XK} {Ng : List Str} {qg : Str} {sg : Scope} {g f : Addr} {cdg : Value} {L : Lam} {k i : Nat} {a : Str} {pn : List (Addr × Obj)} {xe : Value → Shared → Prop} {W : WX} {E : XK} {t : XK → TE} {p1 p2 : Pos}
    (I : Inv X pins σ H s) (LO : LamOk X k L t) (tk : Takes ((cxOf CXg X.prog X.w X.K X.mg X.base Ng qg sg g cdg X.A X.stack s H Eg).tr pn xe) W) (hW : ∀ cls d σ' H', E cls d H' → W cls d σ' H') (hr : Room (k + 1) (X.A.deeper (envOfC qg sg s.heap.objs.size g cdg)))
    (hN : Ng[i]? = some a) (hv : Vis sg a) (hd : (a == ("__debug__" : Str)) = false) (hcd : (a == ("__classdict__" : Str)) = false) :
    PE ((cxOf CXg X.prog X.w X.K X.mg X.base Ng qg sg g cdg X.A X.stack s H Eg).tr pn xe) (.Call (.Name a p1) [] [] p2) (fun σZ HZ Q => σZ[i]? = some (some (.ref f)) ∧ LamT X L f HZ ∧ t E σ HZ Q) := by
  refine ⟨fun pinsZ sZ σZ HZ Q IZ ⟨hs, ⟨c', hc, hf⟩, ht⟩ => ?_⟩
  have sc := LO.sc
  cases hdf : L.params.defaults with
  | nil =>
    simp only [hdf] at hf sc
    exact (pe_actT (i := i) I sc.1 sc.2 tk hW hr (fun A outer s H hr2 => LO.body A outer s H E f c' hr2) hN hv hd hcd).run pinsZ sZ σZ HZ Q IZ ⟨hs, hf, hc, ht⟩
  | cons x r =>
    simp only [hdf] at hf sc
    obtain ⟨pa, h1, h2⟩ := sc
    obtain ⟨T0, d, h3, h4⟩ := hf
    exact (pe_actP (i := i) I h1 h2 tk hW hr (fun A outer s H hr2 => LO.body A outer s H E f c' hr2) hN hv hd hcd).run pinsZ sZ σZ HZ Q IZ ⟨hs, h3, h4, hc, ht⟩
section
variable {X : Cx}
/-- x(e): e is a lambda -/
theorem pe_tryc {lams : Lams} {RD : (XK → Hp → VK → Prop) → Hp → VK → Prop} {x a : Str} {g : Addr} {k : Nat} {pg : Arguments} {bg : List Stmt} {sg : Scope} {dV kV doc pm cdv ct oc : Value} {an od : Option Addr} {osl : Array (Option Value)} {Ng : List Str} {e : Expr} {te : TE} {p pos : Pos}
    (hg : Gl X x) (hm : X.mg x = some (.ref g)) (hk : PySem.W.keepIn X.K (.ref g) = true)
    (lk : X.K.lookup g = some ⟨oc, od, .func (PySem.W.fnOf x x pg bg sg dV kV doc pm an cdv ct), osl⟩) (hcg : PySem.W.codeIn X.K cdv x = true) (hb : L2.Binds X.K (PySem.W.fnOf x x pg bg sg dV kV doc pm an cdv ct) [a] []) (Sg : FnScope Ng [a] sg) (hNg : Ng[0]? = some a) (hva : Vis sg a)
    (hG : GivesT X Ng x sg g cdv bg a RD) (hr : Room (k + 2) X.A) (hl : ∀ j L t, lams j = some (L, t) → LamOk X k L t) (he : PE X e te) (hs : starEach [e] X.env = (false, eval e X.env) :: starEach [] X.env)
    (hdb : (x == ("__debug__" : Str)) = false := by decide) (hd : (a == ("__debug__" : Str)) = false := by decide) (hcd : (a == ("__classdict__" : Str)) = false := by decide) :
    PE X (.Call (.Name x p) [e] [] pos) (tTryC X lams RD te) := by
  refine ⟨fun pins s σ H Q I h => ?_⟩
  refine wpAny_Call_Name_kw (ld_glob I hg hm ?_ hdb)
  refine PySem.W.callWith_K (h₀ := X.base) I.ok.mod.kin hk ?_ (by rw [hs]) (by rfl)
  show wpAny _ _ (spliced (backTo pos (starEach [e] X.env))) _ _ s
  rw [hs]
  show wpAny _ _ (spliced ((false, eval e X.env) :: backTo pos (starEach [] X.env))) _ _ s
  refine Calls.spliced_cons (thn (he.run pins s σ H _ I h) fun u s1 ⟨v, H1, I1, r1, f, j, L, t, ev, hj, htk, hRD⟩ => ?_)
  subst ev
  obtain rfl : u = Value.ref f := r1
  refine Calls.spliced_nil ⟨I1.kIn, ?_⟩
  have LO := hl j L t hj
  have rc : codeAny (model X.prog X.w) X.A (.call (.ref g) ⟨[.ref f], []⟩) (CR C8.CX0 X.stack X.prog X.w H1 s1 Q C8.E0) s1 := by
    refine run_ofS (N := Ng) (ps := [a]) (us := [.ref f]) (vs := [.ref f]) lk hcg Sg hr I1.env0 (hb s1 [.ref f] I1.kIn rfl) (.cons rfl .nil) rfl fun hr' => ?_
    obtain ⟨t', ht', hq'⟩ := hG f (LamT X L f) s1 H1 Q (fun E H' Q' => t E σ H' Q') (fun W pn xe E p1 p2 tk hW => pe_actL (CXg := C8.CX0) (Eg := C8.E0) (i := 0) I1 LO tk hW hr' hNg hva hd hcd) htk hRD
    exact ⟨t', ht'.nox, hq'⟩
  refine wpAny_call (codeAny_mono rc fun r s2 hq => ?_)
  cases r with
  | error e => exact (show False from hq).elim
  | ok fl =>
    cases fl with
    | ret u => exact I1.after hq
    | next => exact False.elim hq
    | brk => exact False.elim hq
    | cont => exact False.elim hq
end
end G
namespace G
open PySem PySem.Spec L2 LamX
open PyProof.Rows hiding St
/-! ### what a clause hands back of the exception it caught -/
inductive HV where
  | non | fld (f : Str) | tup (a b : HV)
inductive HvE (n : Str) : Expr → HV → Prop
  | non {j p} : HvE n (.Constant .none j p) .non
  | fld {p p' f} : HvE n (.Attribute (.Name n p) f p') (.fld f)
  | tup {e1 e2 h1 h2 k p} : HvE n e1 h1 → HvE n e2 h2 → HvE n (.Tuple [e1, e2] k p) (.tup h1 h2)
def tXfE (K : PySem.W.Frag) (a : Addr) (cls : Value) (d : Option Addr) (f : Str) (te : TE) : TE := fun σ H Q => te σ H fun x H1 => x = .ref a ∧ ∃ C : Addr, cls = .ref C ∧ XfC K C ∧ PySem.W.findIn K (.ref C) f = some none ∧ ∃ (dd : Addr) (fs : List (Str × V)) (v : V), d = some dd ∧ H1 dd = some (.xd fs) ∧ fs.lookup f = some v ∧ Q v H1
theorem pe_xfE {X : Cx} {a : Addr} {oe : Obj} {cls : Value} {d : Option Addr} {pn : List (Addr × Obj)} {e : Expr} {te : TE} {pos : Pos} {n : Str} (hz : Zc cls d oe) (hf : ∃ vs, oe.data = .fields vs) (he : PE (X.suite a ((a, oe) :: pn)) e te) (hb : attributeBase e n X.env (eval e X.env) = eval e X.env := by rfl) :
    PE (X.suite a ((a, oe) :: pn)) (.Attribute e n pos) (tXfE X.K a cls d n te) := by
  refine ⟨fun pins s σ H Q I h => ?_⟩
  refine attr_of hb (thn (he.run pins s σ H _ I h) fun u s1 ⟨x, H1, I1, rx, ex, C, ec, T, hno, dd, fs, v, ed, ea, l, q⟩ => ?_)
  subst ex
  obtain rfl : u = Value.ref a := rx
  subst ec
  subst ed
  obtain ⟨ha, _⟩ := I1.pin (a, oe) (List.mem_append_left _ List.mem_cons_self)
  obtain ⟨vs, hd⟩ := hf
  obtain ⟨mA, hns, hr⟩ : ObjOk X.prog X.w H1 s1.heap dd (.xd fs) := I1.hok dd _ ea
  obtain ⟨od, ho, hl⟩ := lookIn_ns hns
  obtain ⟨u, hu, ru⟩ := RelO.some_of (v := v) (o := mA n) (by rw [← l]; exact hr n)
  have J : PySem.W.InstAt s1.heap a oe C (some od) := ⟨ha, hz.1, by unfold PySem.W.notCls; rw [hd] <;> rfl, by rw [hz.2]; exact ho⟩
  exact HandSPX.exc_get I1.kIn J T.ga T.gg T.exC (PySem.W.findObj_own T.hdC hno rfl (by rw [hl, hu])) (handed_of ru) ⟨v, H1, I1.tok _, ru, q⟩
def HV.rd (K : PySem.W.Frag) (i : Nat) (a : Addr) (cls : Value) (d : Option Addr) : HV → TE
  | .non => tC .non
  | .fld f => tXfE K a cls d f (tVar i)
  | .tup x y => tTup (tCons (x.rd K i a cls d) (tCons (y.rd K i a cls d) tNil))
theorem HvE.star {n : Str} {e : Expr} {h : HV} (r : HvE n e h) (es : List Expr) (env : Env) : starEach (e :: es) env = (false, eval e env) :: starEach es env := by cases r <;> rfl
theorem HvE.pe {X : Cx} {n : Str} {i : Nat} {a : Addr} {oe : Obj} {cls : Value} {d : Option Addr} {pn : List (Addr × Obj)} (hz : Zc cls d oe) (hf : ∃ vs, oe.data = .fields vs) (hN : X.N[i]? = some n) (hv : Vis X.env.scope n) (hd : (n == ("__debug__" : Str)) = false) (hcd : (n == ("__classdict__" : Str)) = false) :
    ∀ {e : Expr} {h : HV}, HvE n e h → PE (X.suite a ((a, oe) :: pn)) e (h.rd X.K i a cls d)
  | _, _, .non => pe_non
  | _, _, .fld => pe_xfE hz hf (pe_var (X := X.suite a ((a, oe) :: pn)) hN hv hd hcd)
  | _, _, .tup r1 r2 => pe_tup (pa_cons (HvE.pe hz hf hN hv hd hcd r1) (pa_cons (HvE.pe hz hf hN hv hd hcd r2) pa_nil (r2.star _ _)) (r1.star _ _))
/-- as data -/
def HV.sem (ns : List Str) (fs : List D) : HV → Option D
  | .non => some .non
  | .fld f => (ns.zip fs).lookup f
  | .tup x y => match x.sem ns fs, y.sem ns fs with
    | some a, some b => some (.tup [a, b])
    | _, _ => none
def HV.names : HV → List Str
  | .non => []
  | .fld f => [f]
  | .tup x y => x.names ++ y.names
theorem zip_look {f : Str} {e : D} : ∀ {ns : List Str} {fs : List D}, (ns.zip fs).lookup f = some e → ∃ i : Nat, ns[i]? = some f ∧ fs[i]? = some e
  | [], _, h => by simp at h
  | _ :: _, [], h => by simp at h
  | n :: ns, x :: fs, h => by
    rw [List.zip_cons_cons, List.lookup_cons] at h
    split at h
    · rename_i q
      cases h
      exact ⟨0, by rw [beq_iff_eq.mp q]; rfl, rfl⟩
    · obtain ⟨i, h1, h2⟩ := zip_look h
      exact ⟨i + 1, h1, h2⟩
section
variable {g : Cf} {T : List Addr} {H0 : Hp} {C : Nat} {fs : List D} {d : Addr} {a : Addr} {i : Nat} {σ : St}
theorem HV.ok (hs : σ[i]? = some (some (.ref a))) (hx : XfC g.K (g.ae C)) (tk : ∀ a ∈ T, H0 a ≠ none) : ∀ {h : HV} {dd : D} {H : Hp} {Q : VK}, Same H0 H → XdOk g T H d C fs → (∀ f ∈ h.names, PySem.W.findIn g.K (.ref (g.ae C)) f = some none) → h.sem (g.xn C) fs = some dd →
    (∀ v H', Same H H' → Rp g (off H' T) v dd → Q v H') → h.rd g.K i a (.ref (g.ae C)) (some d) σ H Q
  | .non, dd, H, Q, sm, xd, hn, e, q => by
    cases e
    exact q _ _ (Same.refl _) .non
  | .fld f, dd, H, Q, sm, xd, hn, e, q => by
    obtain ⟨k, h1, h2⟩ := zip_look e
    obtain ⟨fv, x1, x2, x3⟩ := xd
    obtain ⟨v, e', y1, y2, y3⟩ := x3 k f h1
    rw [h2] at y2
    cases y2
    exact ⟨.ref a, hs, rfl, g.ae C, rfl, hx, hn f (List.mem_singleton.mpr rfl), d, fv, v, rfl, x1, y1, q v H (Same.refl _) y3⟩
  | .tup x y, dd, H, Q, sm, xd, hn, e, q => by
    simp only [HV.sem] at e
    cases e1 : x.sem (g.xn C) fs with
    | none => rw [e1] at e; cases e
    | some d1 =>
      cases e2 : y.sem (g.xn C) fs with
      | none => rw [e1, e2] at e; cases e
      | some d2 =>
        rw [e1, e2] at e
        cases e
        refine HV.ok (h := x) hs hx tk sm xd (fun f hf => hn f (show f ∈ x.names ++ y.names from List.mem_append_left _ hf)) e1 fun v1 H1 s1 r1 => ?_
        have xd1 : XdOk g T H1 d C fs := by
          obtain ⟨fv, x1, x2, x3⟩ := xd
          refine ⟨fv, s1 _ _ x1, x2, fun k f hk => ?_⟩
          obtain ⟨v, e, y1, y2, y3⟩ := x3 k f hk
          exact ⟨v, e, y1, y2, y3.mono (s1.offT T) _⟩
        refine HV.ok (h := y) hs hx tk (sm.trans s1) xd1 (fun f hf => hn f (show f ∈ x.names ++ y.names from List.mem_append_right _ hf)) e2 fun v2 H2 s2 r2 => ?_
        refine ⟨by show 2 ≤ sizeLine; decide, fun p hp => ?_⟩
        have s3 : Same H2 (upd H2 p (.tup [v1, v2])) := Same.newT hp
        by_cases hpT : p ∈ T
        · obtain ⟨u, hu⟩ := Option.ne_none_iff_exists'.mp (tk p hpT)
          rw [(sm.trans s1).trans s2 p u hu] at hp
          cases hp
        · exact q _ _ ((s1.trans s2).trans s3) (.tup (SqT.of (by rw [off_ne hpT]; exact upd_same)) (.cons (r1.mono ((s2.trans s3).offT T) _) (.cons (r2.mono (s3.offT T) _) .nil)))
end
end G
namespace G
open PySem PySem.Spec L2 LamX
open PyProof.Rows hiding St
/-! ### try: return ('', a()) / except (..) as e: return .. -/
abbrev HvL := List (List Value × HV)
def Pick (K : PySem.W.Frag) (cls : Value) : HvL → HV → Prop
  | [], _ => False
  | (cs, h) :: r, hv => (PySem.W.exmAny K cls cs = some true ∧ h = hv) ∨ (PySem.W.exmAny K cls cs = some false ∧ Pick K cls r hv)
inductive HvH (X : Cx) (n : Str) : List ExceptHandler → HvL → Prop
  | nil : HvH X n [] []
  | cons {te : Expr} {cs : List Value} {e : Expr} {hv : HV} {p pos' : Pos} {hds : List ExceptHandler} {l : HvL} (hc : ClT X te cs) (he : HvE n e hv) (r : HvH X n hds l) : HvH X n (.ExceptHandler (some te) (some n) [.Return (some e) p] pos' :: hds) ((cs, hv) :: l)
def clzOf (K : PySem.W.Frag) (i : Nat) : HvL → List Clz
  | [] => []
  | (cs, hv) :: r => (cs, fun a cls d => tRet (hv.rd K i a cls d)) :: clzOf K i r
theorem HvH.hds {X : Cx} {n : Str} {i : Nat} (hN : X.N[i]? = some n) (hv : Vis X.env.scope n) (hd : (n == ("__debug__" : Str)) = false) (hcd : (n == ("__classdict__" : Str)) = false) : ∀ {hds : List ExceptHandler} {l : HvL}, HvH X n hds l → HdsT X n hds (clzOf X.K i l)
  | _, _, .nil => .nil
  | _, _, .cons hc he r => .cons hc (fun a oe cls d pn hz hf => pss_one (ps_ret (he.pe hz hf hN hv hd hcd))) (HvH.hds hN hv hd hcd r)
def endsQ (Q : VK) : Ends := { nx := fun _ H' => Q .non H', rt := Q }
theorem wTry_ok {K : PySem.W.Frag} {i : Nat} {cls : Value} {d : Option Addr} {H : Hp} {Q : VK} {hv : HV} {W0 : WX} (hr : ∀ (a : Addr) (σ : St), σ[i]? = some (some (.ref a)) → hv.rd K i a cls d σ H Q) :
    ∀ {l : HvL} {σ : St}, Pick K cls l hv → i < σ.length → wTry K i W0 (endsQ Q) (clzOf K i l) cls d σ H
  | [], _, p, _ => p.elim
  | (cs, h) :: r, σ, p, hi => by
    rcases p with ⟨e, rfl⟩ | ⟨e, p⟩
    · exact ⟨true, e, fun _ a _ => hr a _ (by rw [List.getElem?_set_self hi]), fun z => by cases z⟩
    · exact ⟨false, e, (fun z => by cases z), fun _ => wTry_ok hr p hi⟩
def rdTry (K : PySem.W.Frag) (i n : Nat) (l : HvL) : (XK → Hp → VK → Prop) → Hp → VK → Prop := fun tl H Q =>
  tl (fun cls d H' => ∀ σ : St, σ.length = n → wTry K i (fun _ _ _ _ => False) (endsQ Q) (clzOf K i l) cls d σ H') H fun v H' => [V.str "", v].length ≤ sizeLine ∧ ∀ q, H' q = none → Q (.ref q) (upd H' q (.tup [.str "", v]))
theorem try_gives {X : Cx} {Ng : List Str} {x a n : Str} {sg : Scope} {g : Addr} {cdg : Value} {i j k : _} {p1 p2 p3 p4 p5 p6 : Pos} {h₀ : ExceptHandler} {hds : List ExceptHandler} {l : HvL} (hN : Ng.Nodup) (hi : Ng[i]? = some n) (hln : sg.names.lookup n = some .local) (hd : (n == ("__debug__" : Str)) = false) (hcd : (n == ("__classdict__" : Str)) = false)
    (hh : ∀ Z : Cx, Z.env.scope = sg → Z.mg = X.mg → HvH Z n (h₀ :: hds) l) (h0 : ∀ f : Addr, (L2.start Ng [V.ref f])[0]? = some (some (V.ref f))) :
    GivesT X Ng x sg g cdg [.Try [.Return (some (.Tuple [.Constant (.str "") j p1, .Call (.Name a p2) [] [] p3] k p4)) p5] (h₀ :: hds) [] [] p6] a (rdTry X.K i Ng.length l) := by
  intro f PT s H Q tl act hP hRD
  refine ⟨_, pss_one (ps_tryT (X := (cxOf C8.CX0 X.prog X.w X.K X.mg X.base Ng x sg g cdg X.A X.stack s H C8.E0).nox) (i := i) (l := clzOf X.K i l) (Wout := fun _ _ _ _ => False)
      (tb := fun W D σ H => ∃ E : XK, (∀ cls d σ' H', E cls d H' → W cls d σ' H') ∧ σ[0]? = some (some (.ref f)) ∧ PT H ∧ tl E H fun v H' => [V.str "", v].length ≤ sizeLine ∧ ∀ q, H' q = none → D.rt (.ref q) (upd H' q (.tup [.str "", v])))
      rfl rfl hN hi hln takes0 (fun W pn xe tk _ => ?_) (HvH.hds (X := (cxOf C8.CX0 X.prog X.w X.K X.mg X.base Ng x sg g cdg X.A X.stack s H C8.E0).nox) (i := i) hi (.inl hln) hd hcd (hh (cxOf C8.CX0 X.prog X.w X.K X.mg X.base Ng x sg g cdg X.A X.stack s H C8.E0).nox rfl rfl))), ?_⟩
  · refine pss_one ⟨fun pins s' σ H' D I ⟨E, hW, h1, h2, h3⟩ => ?_⟩
    have hp := act W pn xe E p2 p3 tk hW
    have hq := ps_ret (pos := p5) (pe_tup (pos := p4) (x1 := k) (pa_cons (pe_str (x := "") (j := j) (pos := p1)) (pa_cons hp pa_nil)))
    exact hq.run pins s' σ H' D I ⟨h1, h2, h3⟩
  · exact ⟨_, fun cls d σ' H' h hl => h σ' hl, h0 f, hP, hRD⟩
/-! ### runs that catch -/
def X.mk (tt : Bool) (d : D) : X := if tt then .t d else .p d
def tryM (tt : Bool) (hnd : Nat → List D → Option D) : M X → M X
  | .ret x => .ret (X.mk tt (.tup [.str "", x.toD]))
  | .fail => .fail
  | .draw m k => .draw m fun r => tryM tt hnd (k r)
  | .thr C fs => match hnd C fs with
    | some d => .ret (X.mk tt d)
    | none => .fail
theorem tryM_wp {tt : Bool} {hnd : Nat → List D → Option D} {E : XD} {Q : X → Prop} : ∀ {m : M X}, (tryM tt hnd m).wp E Q → m.wp (fun C fs => ∃ d, hnd C fs = some d ∧ Q (X.mk tt d)) fun x => Q (X.mk tt (.tup [.str "", x.toD]))
  | .ret x, w => w
  | .fail, w => w
  | .draw m k, w => fun r hr => tryM_wp (w r hr)
  | .thr C fs, w => by
    simp only [tryM] at w
    cases h : hnd C fs with
    | none => rw [h] at w; exact w.elim
    | some d => rw [h] at w; exact ⟨d, h, w⟩
/-- what a lambda sees of the frame's names -/
def lamG (tt : Bool) (Γ : List Sl) : List Sl := Γ.map fun s => match s with
  | .v d => .v d
  | .c o => if tt then .v o.toD else .no
  | .no => .no
theorem lamG_c {tt : Bool} {Γ : List Sl} {i : Nat} {o : O} : (lamG tt Γ)[i]? ≠ some (.c o) := fun h => by
  unfold lamG at h
  rw [List.getElem?_map, Option.map_eq_some_iff] at h
  obtain ⟨s, _, e⟩ := h
  cases s with
  | no => cases e
  | v d => cases e
  | c o' => cases tt <;> cases e
def hndP (hv : Nat → Option HV) (xn : Nat → List Str) : Nat → List D → Option D := fun C fs => match hv C with
  | some h => h.sem (xn C) fs
  | none => none
structure HndOk (K : PySem.W.Frag) (g : Cf) (l : HvL) (hv : Nat → Option HV) : Prop where
  ok : ∀ C h, hv C = some h → Pick K (.ref (g.ae C)) l h ∧ XfC K (g.ae C) ∧ ∀ f ∈ h.names, PySem.W.findIn K (.ref (g.ae C)) f = some none
/-- the lambdas' bodies; may they see the frame's own objects? -/
abbrev LamB := Nat → Option (Bool × Se X)
def sTry (bs : LamB) (hnd : Nat → List D → Option D) (f : Se X) : Se X := fun Γ => (f Γ).bind fun x => match x with
  | .p (.fn j) => (match bs j with
    | some (tt, te) => tryM tt hnd (te (lamG tt Γ))
    | none => .fail)
  | _ => .fail
section
variable {g : Cf} {W : XK} {T S : List Addr} {He H : Hp} {Γ : List Sl} {σ : St}
theorem Rl.lam (tt : Bool) (r : Rl g T He S H Γ σ) : Rl g (TS T S tt) H [] H (lamG tt Γ) σ := by
  refine ⟨by unfold lamG; rw [List.length_map]; exact r.len, fun i s h => ?_, fun i j o o' a h1 => absurd h1 lamG_c, (fun a h => by cases h), (fun a h => by cases h), ⟨(r.fokB tt).fd.1, fun p l h => (r.okd.fd p l h).tkl⟩, (r.fokB tt).tk, Ext.of_same (Same.refl _) r.okd, r.s0⟩
  unfold lamG at h
  rw [List.getElem?_map, Option.map_eq_some_iff] at h
  obtain ⟨s0, h0, e⟩ := h
  have q := r.sl i s0 h0
  rw [← e]
  cases s0 with
  | no => trivial
  | v d =>
    obtain ⟨v, h1, h2⟩ := q
    refine ⟨v, h1, ?_⟩
    rw [List.append_nil]
    cases tt
    · exact h2
    · exact off_off (fun b h => List.mem_append_left _ h) h2
  | c o =>
    cases tt
    · trivial
    · obtain ⟨a, h1, h2, h3⟩ := q
      refine ⟨.ref a, h1, ?_⟩
      rw [List.append_nil]
      exact h3.toD (fun b h => List.mem_append_left _ h) (r.nT h2)
abbrev rdL (g : Cf) (te : Se X) : XK → TE := fun E σ H Q => ∃ T', rdE g E T' H te σ H Q
theorem mk_ok {tt : Bool} {H0 H : Hp} {v : V} {d : D} (r : Rp g (off H (TS T S tt)) v d) : RpX g T S H0 H v (X.mk tt d) := by
  cases tt
  · exact r
  · exact r
variable {X : Cx}
theorem ev_tryc {lamL : Nat → Option (Lam × Bool × Se G.X)} {hv : Nat → Option HV} {xn : Nat → List Str} {l : HvL} {n i : Nat} {x a : Str} {gf : Addr} {k : Nat} {pg : Arguments} {bg : List Stmt} {sg : Scope} {dV kV doc pm cdv ct oc : Value} {an od : Option Addr} {osl : Array (Option Value)} {Ng : List Str} {e : Expr} {f : Se G.X} {p pos : Pos}
    (hK : X.K = g.K) (hg : Gl X x) (hm : X.mg x = some (.ref gf)) (hk : PySem.W.keepIn X.K (.ref gf) = true)
    (lk : X.K.lookup gf = some ⟨oc, od, .func (PySem.W.fnOf x x pg bg sg dV kV doc pm an cdv ct), osl⟩) (hcg : PySem.W.codeIn X.K cdv x = true) (hb : L2.Binds X.K (PySem.W.fnOf x x pg bg sg dV kV doc pm an cdv ct) [a] []) (Sg : FnScope Ng [a] sg) (hNg : Ng[0]? = some a) (hva : Vis sg a)
    (hG : GivesT X Ng x sg gf cdv bg a (rdTry X.K i n l)) (hin : i < n) (ho : HndOk g.K g l hv) (hxn : g.xn = xn) (hr : RT (k + 2) X W) (hl : ∀ j L tt te, lamL j = some (L, tt, te) → LamOk X k L (rdL g te) ∧ ∀ f H, g.fd.lm j f H → LamT X L f H)
    (he : EV X g W T He e f) (hs : starEach [e] X.env = (false, eval e X.env) :: starEach [] X.env := by rfl)
    (hdb : (x == ("__debug__" : Str)) = false := by decide) (hd : (a == ("__debug__" : Str)) = false := by decide) (hcd : (a == ("__classdict__" : Str)) = false := by decide) :
    EV X g W T He (.Call (.Name x p) [e] [] pos) (sTry (fun j => (lamL j).map Prod.snd) (hndP hv xn) f) :=
  pe_w (pe_tryc (lams := fun j => (lamL j).map fun q => (q.1, rdL g q.2.2)) hg hm hk lk hcg hb Sg hNg hva hG hr.room (fun j L t e => by
    obtain ⟨⟨L', tt, te⟩, h1, h2⟩ := Option.map_eq_some_iff.mp e
    cases h2
    exact (hl j L' tt te h1).1) he hs hdb hd hcd) fun σ H Q ⟨Γ, S, rl, w⟩ => by
    simp only [sTry, M.wp_bind] at w
    refine rdE.use rl (M.wp_mono (fun x w v H1 e1 l1 x1 => ?_) w)
    split at w
    rotate_left
    · exact w.elim
    rename_i j
    cases hj : lamL j with
    | none => rw [hj] at w; exact w.elim
    | some q =>
      obtain ⟨L, tt, te⟩ := q
      rw [hj] at w
      simp only [Option.map_some] at w
      have r1 : Rp g (off H1 (T ++ S)) v (.fn j) := x1
      cases r1 with
      | @fn a _ hlm =>
        refine ⟨a, j, L, rdL g te, rfl, by simp [hj], (hl j L tt te hj).2 _ _ (g.fd.mono (off_same _ _) hlm), TS T S tt, lamG tt Γ, [], l1.lam tt, M.wp_monoE (fun x q v H2 e2 rx => ?_) (fun C fs ⟨d, hd, q⟩ dd H2 e2 xd => ?_) (tryM_wp w)⟩
        · have l2 := (l1.lam tt).mono e2
          refine ⟨by show 2 ≤ sizeLine; decide, fun q' hq => ?_⟩
          have nT : q' ∉ TS T S tt := fun z => l2.tkT z hq
          have s3 : Same H2 (upd H2 q' (.tup [.str "", v])) := Same.newT hq
          exact q _ _ ((e1.trans e2).same s3) (mk_ok (.tup (SqT.of (by rw [off_ne nT]; exact upd_same)) (.cons (.str _ (by decide +kernel)) (.cons (rx.toD.mono (s3.offT _) _) .nil))))
        · unfold hndP at hd
          cases hh : hv C with
          | none => rw [hh] at hd; cases hd
          | some h =>
            rw [hh] at hd
            obtain ⟨p1, p2, p3⟩ := ho.ok C h hh
            have l2 := (l1.lam tt).mono e2
            intro σ' hl'
            rw [hK]
            exact wTry_ok (fun a σ hσ => HV.ok hσ p2 (fun b hb => l2.tkT hb) (Same.refl _) xd p3 (by rw [hxn]; exact hd) fun v H3 s3 r3 => q v H3 ((e1.trans e2).same s3) (mk_ok r3)) p1 (by omega)
end
end G
namespace G
open PySem PySem.Spec L2 NdefX
open PyProof.Rows hiding St
/-! ### __init__(self, p..): super().__init__('X'); self.p = p; ..; self.code = 'X' -/
abbrev supS (p0 p1 p2 p3 p4 p5 : Pos) (z : Str) (j : Nat) : Stmt := .Expr (.Call (.Attribute (.Call (.Name "super" p0) [] [] p1) "__init__" p2) [.Constant (.str z) j p3] [] p4) p5
abbrev stN (p : Str) (q0 q1 q2 q3 : Pos) : Stmt := .Assign [.Attribute (.Name "self" q0) p q1] (.Name p q2) q3
abbrev stC (code : Str) (j : Nat) (q0 q1 q2 q3 : Pos) : Stmt := .Assign [.Attribute (.Name "self" q0) "code" q1] (.Constant (.str code) j q2) q3
section
variable {P : Program} {w : World} {K : PySem.W.Frag} {mg : Str → Option Value} {base : Heap} {C f cc : Addr} {F : NF} {x p q z code : Str} {j j' : Nat} {p0 p1 p2 p3 p4 p5 a0 a1 a2 a3 b0 b1 b2 b3 c0 c1 c2 c3 : Pos}
theorem xmk1 (T : SxC P K C f cc F ["self", p, "__class__"] ["self", p]) (hm : mg x = some (.ref C)) (hmg : mg "super" = none) (hbody : F.body = [supS p0 p1 p2 p3 p4 p5 z j, stN p a0 a1 a2 a3, stC code j' c0 c1 c2 c3])
    (hev : ∀ L, SupEv p0 p1 p2 p3 p4 z j (envF F f L)) (hd : (p == ("__debug__" : Str)) = false) (hcd : (p == ("__classdict__" : Str)) = false) (n1 : PySem.W.findIn K (.ref C) p = some none) (n2 : PySem.W.findIn K (.ref C) "code" = some none)
    (hb : ∀ kV doc pm an ct, L2.Binds K (PySem.W.fnX F.name F.qual F.params F.body F.scope F.cl .none kV doc pm an (.ref F.c) ct) ["self", p] []) : XMk P w K mg base x C 1 fun vs => [("code", .str code), (p, vs.headD .non)] := by
  have v0 : Vis F.scope "self" := .inl (T.sc.par _ (by simp))
  have v1 : Vis F.scope p := .inl (T.sc.par _ (by simp))
  obtain ⟨fd, ⟨kV, doc, pm, an, ct, rfl⟩, FO⟩ := sx_fn (w := w) (mg := mg) (base := base) (t := tSeq (tOst K p (tVar 0) (tVar 1)) (tOst K "code" (tVar 0) (tC (.str code)))) T hmg (by simp) hbody hev (fun L => rfl) (fun L => by simp [interactive, T.sc.kind]) (fun A outer s H E =>
    pss_cons (ps_ost (pe_var (x := "self") (i := 0) rfl v0) (pe_var (i := 1) rfl v1 hd hcd)) (pss_one (ps_ost (f := "code") (pe_var (x := "self") (i := 0) rfl v0) (pe_str (x := code) (j := j')))))
  refine ⟨hm, f, _, _, _, T.ox, T.ini, T.ity, FO, hb _ _ _ _ _, fun vs a H Q E hl ha k => ?_⟩
  obtain ⟨v, rfl⟩ : ∃ v, vs = [v] := by
    match vs, hl with
    | [v], _ => exact ⟨v, rfl⟩
  refine ⟨rfl, a, [v], rfl, ha, ?_⟩
  refine sx_st1 T.ox n1 (rdAt_var rfl) (rdAt_var rfl) ha fun d hd ne => ?_
  exact sx_st2 T.ox n2 (rdAt_var rfl) rdAt_c ne (by simp) (k d hd ne)
theorem xmk2 (T : SxC P K C f cc F ["self", p, q, "__class__"] ["self", p, q]) (hm : mg x = some (.ref C)) (hmg : mg "super" = none) (hbody : F.body = [supS p0 p1 p2 p3 p4 p5 z j, stN p a0 a1 a2 a3, stN q b0 b1 b2 b3, stC code j' c0 c1 c2 c3])
    (hev : ∀ L, SupEv p0 p1 p2 p3 p4 z j (envF F f L)) (hd : (p == ("__debug__" : Str)) = false) (hcd : (p == ("__classdict__" : Str)) = false) (hd' : (q == ("__debug__" : Str)) = false) (hcd' : (q == ("__classdict__" : Str)) = false)
    (n1 : PySem.W.findIn K (.ref C) p = some none) (n3 : PySem.W.findIn K (.ref C) q = some none) (n2 : PySem.W.findIn K (.ref C) "code" = some none)
    (hb : ∀ kV doc pm an ct, L2.Binds K (PySem.W.fnX F.name F.qual F.params F.body F.scope F.cl .none kV doc pm an (.ref F.c) ct) ["self", p, q] []) : XMk P w K mg base x C 2 fun vs => [("code", .str code), (q, (vs.drop 1).headD .non), (p, vs.headD .non)] := by
  have v0 : Vis F.scope "self" := .inl (T.sc.par _ (by simp))
  have v1 : Vis F.scope p := .inl (T.sc.par _ (by simp))
  have v2 : Vis F.scope q := .inl (T.sc.par _ (by simp))
  obtain ⟨fd, ⟨kV, doc, pm, an, ct, rfl⟩, FO⟩ := sx_fn (w := w) (mg := mg) (base := base) (t := tSeq (tOst K p (tVar 0) (tVar 1)) (tSeq (tOst K q (tVar 0) (tVar 2)) (tOst K "code" (tVar 0) (tC (.str code))))) T hmg (by simp) hbody hev (fun L => rfl) (fun L => by simp [interactive, T.sc.kind]) (fun A outer s H E =>
    pss_cons (ps_ost (pe_var (x := "self") (i := 0) rfl v0) (pe_var (i := 1) rfl v1 hd hcd)) (pss_cons (ps_ost (pe_var (x := "self") (i := 0) rfl v0) (pe_var (i := 2) rfl v2 hd' hcd')) (pss_one (ps_ost (f := "code") (pe_var (x := "self") (i := 0) rfl v0) (pe_str (x := code) (j := j'))))))
  refine ⟨hm, f, _, _, _, T.ox, T.ini, T.ity, FO, hb _ _ _ _ _, fun vs a H Q E hl ha k => ?_⟩
  obtain ⟨v, u, rfl⟩ : ∃ v u, vs = [v, u] := by
    match vs, hl with
    | [v, u], _ => exact ⟨v, u, rfl⟩
  refine ⟨rfl, a, [v, u], rfl, ha, ?_⟩
  refine sx_st1 T.ox n1 (rdAt_var rfl) (rdAt_var rfl) ha fun d hd ne => ?_
  refine sx_st2 T.ox n3 (rdAt_var rfl) (rdAt_var rfl) ne (by simp) ?_
  exact sx_st2 T.ox n2 (rdAt_var rfl) rdAt_c ne (by simp) (k d hd ne)
end
end G
namespace G
open PySem PySem.Spec L2 LamX
open PyProof.Rows hiding St
/-! ### facts of except clauses; fields of raised exceptions -/
section
variable {K : PySem.W.Frag} {cls : Value} {C : Addr} {b b' : Bool} {cs : List Value} {c : Value}
theorem exm1 (h1 : PySem.W.subIn K (.ref C) (.type "BaseException") = some true) (h2 : PySem.W.isClsIn K C = true) (h3 : PySem.W.typeIn K (.ref C) = some (.type "type")) (h4 : PySem.W.subIn K cls (.ref C) = some b) : PySem.W.exmOne K cls (.ref C) = some b := by
  have e1 : (PySem.W.subIn K (.ref C) (.type "BaseException") == some true) = true := by rw [h1] <;> rfl
  have e2 : ((PySem.W.clsIn K C).isSome && PySem.W.typeIn K (.ref C) == some (.type "type")) = true := by
    have h2' : (PySem.W.clsIn K C).isSome = true := h2
    rw [h2', h3] <;> rfl
  show (if (PySem.W.subIn K (.ref C) (.type "BaseException") == some true) = true then (if ((PySem.W.clsIn K C).isSome && PySem.W.typeIn K (.ref C) == some (.type "type")) = true then PySem.W.subIn K cls (.ref C) else none) else none) = some b
  rw [if_pos e1, if_pos e2]
  exact h4
theorem exa_nil : PySem.W.exmAny K cls [] = some false := rfl
theorem exa_cons (h1 : PySem.W.exmOne K cls c = some b) (h2 : PySem.W.exmAny K cls cs = some b') : PySem.W.exmAny K cls (c :: cs) = some (b || b') := by
  unfold PySem.W.exmAny
  rw [h1, h2]
end
theorem rel1 {g : Cf} {p code : Str} (hp : (p == ("code" : Str)) = false) (hc : PyData.strOk code = true) : ∀ (H : Hp) (vs : List V) (ds : List D), RpA g H vs ds → ds.length = 1 → FieldsOk g H [p, "code"] [("code", .str code), (p, vs.headD .non)] [ds.headD .non, .str code] := fun H vs ds r hl => by
  cases r with
  | nil => cases hl
  | @cons v d vs ds h t =>
    refine ⟨rfl, fun i f hf => ?_⟩
    match i, hf with
    | 0, hf => cases hf; exact ⟨v, d, by rw [List.lookup_cons, hp, List.lookup_cons_self]; rfl, rfl, h⟩
    | 1, hf => cases hf; exact ⟨.str code, .str code, by rw [List.lookup_cons_self], rfl, .str _ hc⟩
theorem rel2 {g : Cf} {p q code : Str} (hp : (p == ("code" : Str)) = false) (hq : (q == ("code" : Str)) = false) (hpq : (p == q) = false) (hc : PyData.strOk code = true) : ∀ (H : Hp) (vs : List V) (ds : List D), RpA g H vs ds → ds.length = 2 →
    FieldsOk g H [p, q, "code"] [("code", .str code), (q, (vs.drop 1).headD .non), (p, vs.headD .non)] [ds.headD .non, (ds.drop 1).headD .non, .str code] := fun H vs ds r hl => by
  match r, hl with
  | @RpA.cons _ _ v d _ _ h (@RpA.cons _ _ v2 d2 _ _ h2 .nil), _ =>
    refine ⟨rfl, fun i f hf => ?_⟩
    match i, hf with
    | 0, hf => cases hf; exact ⟨v, d, by rw [List.lookup_cons, hp, List.lookup_cons, hpq, List.lookup_cons_self]; rfl, rfl, h⟩
    | 1, hf => cases hf; exact ⟨v2, d2, by rw [List.lookup_cons, hq, List.lookup_cons_self]; rfl, rfl, h2⟩
    | 2, hf => cases hf; exact ⟨.str code, .str code, by rw [List.lookup_cons_self], rfl, .str _ hc⟩
/-! ### the law's frame: its lambdas -/
abbrev LamL := Nat → Option (Lam × Bool × Se X)
structure LawFd (X : Cx) (g : Cf) (T : List Addr) (ls : LamL) : Prop where
  tab : ∃ cA PA, TabB X.base X.mg cA PA ∧ X.env.code = .ref cA ∧ (PA, lamQ X) ∈ g.fd.tb ∧ ∀ p ∈ g.fd.tb, p.1 = PA → p.2 = lamQ X
  mv : ∀ a ∈ T, g.fd.mv a
  lm : ∀ j L tt te, ls j = some (L, tt, te) → ∀ f H, g.fd.lm j f H ↔ LamT X L f H
section
variable {X : Cx} {g : Cf} {W : XK} {T : List Addr} {He : Hp}
theorem ev_lamL {j : Nat} {L : Lam} {tt : Bool} {te : Se G.X} {ls : LamL} {pos : Pos} (lf : LawFd X g T ls) (hj : ls j = some (L, tt, te)) (hdef : defaultsOf L.params X.env = ([], [])) (hd0 : L.params.defaults = []) (hL : LamS X.env.scope L.scope) : EV X g W T He (.Lambda L.params L.body L.scope pos) (sLam j) := by
  obtain ⟨cA, PA, h1, h2, h3, h4⟩ := lf.tab
  exact ev_lam h1 h2 h3 h4 hdef hd0 hL lf.mv fun f H => (lf.lm j L tt te hj f H).mpr
theorem ev_lamLD {j jc : Nat} {L : Lam} {tt : Bool} {te : Se G.X} {ls : LamL} {pos pc : Pos} {d : Int} {pa : Str} (lf : LawFd X g T ls) (hj : ls j = some (L, tt, te)) (hdf : L.params.defaults = [.Constant (.int d) jc pc]) (hkd : L.params.kw_defaults = []) (hko : L.params.kwonlyargs = []) (hL : LamP X.N X.env.scope L.scope pa) : EV X g W T He (.Lambda L.params L.body L.scope pos) (sLam j) := by
  obtain ⟨cA, PA, h1, h2, h3, h4⟩ := lf.tab
  exact ev_lamD h1 h2 h3 h4 hdf hkd hko hL lf.mv fun f H => (lf.lm j L tt te hj f H).mpr
theorem lam_okD {k : Nat} {L : Lam} {te : Se G.X} {pa : Str} {x : Expr} {r : List Expr} (df : L.params.defaults = x :: r) (sc : LamP X.N X.env.scope L.scope pa)
    (bind : ∀ (q : Str) (cl : List (Str × Addr)) (T0 : Addr) (doc pm cv ctv u : Value), ∃ k, bindArgs (PySem.W.kdv_fn "<lambda>" q L.params (.expr L.body) L.scope cl (.ref T0) doc pm cv ctv) ⟨[], []⟩ = seqItems? (.ref T0) >>= k ∧ k (some #[u]) = pure [(pa, u)])
    (hE : ∀ (A : Around) (outer : List Env) (s : Shared) (H : Hp) (E : XK) (f c' : Addr) (T' : List Addr) (He' : Hp), RT k (lamCx X A outer s H E L.scope f c') E → EV (lamCx X A outer s H E L.scope f c') g E T' He' L.body te) : LamOk X k L (rdL g te) :=
  ⟨by rw [df]; exact ⟨pa, sc, bind⟩, fun A outer s H E f c' hr => ⟨fun pins s1 σ H1 Q I ⟨T', h⟩ => (hE A outer s H E f c' T' H1 ⟨hr, takes_of rfl rfl rfl rfl⟩).run pins s1 σ H1 Q I h⟩⟩
theorem lam_ok {k : Nat} {L : Lam} {te : Se G.X} (sc : LamS X.env.scope L.scope) (df : L.params.defaults = []) (bind : ∀ (q : Str) (cl : List (Str × Addr)) (pm cv ctv : Value), bindArgs (PySem.W.kla_fn "<lambda>" q L.params L.body L.scope cl pm cv ctv) ⟨[], []⟩ = pure [])
    (hE : ∀ (A : Around) (outer : List Env) (s : Shared) (H : Hp) (E : XK) (f c' : Addr) (T' : List Addr) (He' : Hp), RT k (lamCx X A outer s H E L.scope f c') E → EV (lamCx X A outer s H E L.scope f c') g E T' He' L.body te) : LamOk X k L (rdL g te) :=
  ⟨by rw [df]; exact ⟨sc, bind⟩, fun A outer s H E f c' hr => ⟨fun pins s1 σ H1 Q I ⟨T', h⟩ => (hE A outer s H E f c' T' H1 ⟨hr, takes_of rfl rfl rfl rfl⟩).run pins s1 σ H1 Q I h⟩⟩
/-- _law_try(e) -/
theorem ev_try {ls : LamL} {hv : Nat → Option HV} {xn : Nat → List Str} {l : HvL} {n i k : Nat} {x a : Str} {st : Stmt} {Ng : List Str} {e : Expr} {f : Se G.X} {p pos : Pos} (D : Df X.K X.mg x st) (S : FnScope Ng [a] (defScope st)) (hNg : Ng[0]? = some a) (hva : Vis (defScope st) a)
    (hb : ∀ (kV doc pm : Value) (an : Option Addr) (cdv ct : Value) (us : List Value), us.length = 1 → bindArgs (PySem.W.fnOf x x (defArgs st) (defBody st) (defScope st) .none kV doc pm an cdv ct) ⟨us, []⟩ = pure (([a] : List Str).zip us))
    (hG : ∀ gf cdv, GivesT X Ng x (defScope st) gf cdv (defBody st) a (rdTry X.K i n l)) (hK : X.K = g.K) (hg : Gl X x) (hin : i < n) (ho : HndOk g.K g l hv) (hxn : g.xn = xn) (hr : RT (k + 2) X W) (lf : LawFd X g T ls)
    (hl : ∀ j L tt te, ls j = some (L, tt, te) → LamOk X k L (rdL g te)) (he : EV X g W T He e f) {bs : LamB} (hbs : (fun j => (ls j).map Prod.snd) = bs) (hs : starEach [e] X.env = (false, eval e X.env) :: starEach [] X.env := by rfl)
    (hdb : (x == ("__debug__" : Str)) = false := by decide) (hd : (a == ("__debug__" : Str)) = false := by decide) (hcd : (a == ("__classdict__" : Str)) = false := by decide) :
    EV X g W T He (.Call (.Name x p) [e] [] pos) (sTry bs (hndP hv xn) f) := by
  subst hbs
  obtain ⟨gf, fd, F, hm⟩ := D.ex
  have bi := F.binds (ps := [a]) hb
  have kp := F.kp
  obtain ⟨oc, od, kV, doc, pm, an, cdv, ct, osl, rfl, lk, hcd'⟩ := F.ex
  exact ev_tryc hK hg hm kp lk hcd' bi S hNg hva (hG gf cdv) hin ho hxn hr (fun j L tt te h => ⟨hl j L tt te h, fun f H => (lf.lm j L tt te h f H).mp⟩) he hs hdb hd hcd
end
theorem gl_of {Z : Cx} {sg : Scope} {x : Str} (hs : Z.env.scope = sg) (h : sg.names.lookup x = some .globalImplicit) : Gl Z x := by
  show Z.env.scope.names.lookup x = _
  rw [hs]
  exact h
/-! ### where a lambda stands -/
def nvD : Expr := .Constant .none 0 ⟨0, 0, 0, 0⟩
def nvP : Stmt := .Pass ⟨0, 0, 0, 0⟩
def nvSE : Stmt → Expr
  | .Assign _ e _ => e
  | .For _ e _ _ _ => e
  | .If e _ _ _ => e
  | .While e _ _ _ => e
  | .Return (some e) _ => e
  | .Expr e _ => e
  | .AugAssign _ _ e _ => e
  | _ => nvD
def nvSB (b : Bool) : Stmt → List Stmt
  | .For _ _ x y _ => if b then y else x
  | .If _ x y _ => if b then y else x
  | .While _ x y _ => if b then y else x
  | _ => []
def nvE (i : Nat) : Expr → Expr
  | .Call f as ks _ => (f :: (as ++ ks.map fun k => k.value)).getD i nvD
  | .UnaryOp _ e _ => e
  | .BinOp a _ b _ => [a, b].getD i nvD
  | .BoolOp _ vs _ => vs.getD i nvD
  | .Compare a _ cs _ => (a :: cs).getD i nvD
  | .List es _ => es.getD i nvD
  | .Tuple es _ _ => es.getD i nvD
  | .IfExp a b c _ => [a, b, c].getD i nvD
  | .Attribute e _ _ => e
  | .Subscript a b _ => [a, b].getD i nvD
  | .Starred e _ => e
  | .ListComp e gs _ _ => (e :: gs.map fun g => g.iter).getD i nvD
  | _ => nvD
def lamOf : Expr → Lam
  | .Lambda p b s _ => ⟨p, b, s⟩
  | e => ⟨⟨[], [], none, [], [], none, []⟩, e, default⟩
end G
namespace G
open PySem PySem.Spec PySem.Calls L2
open PyProof.Rows hiding St
/-! ### a comprehension whose element leans on the def's own names: the def's context is known at the block's start -/
section
variable {X : Cx}
theorem lc_own {pins : List (Addr × Obj)} {s : Shared} {σ : St} {H : Hp} {Q : VK} {elt tg iter : Expr} {scope : Scope} {own : List (Str × Nat)} {pos : Pos} {wi : TI} {g : TG} {te : TE}
    (hc : X.calm = true) (hN : X.N.Nodup) (I : Inv X pins σ H s) (hi : PI X tg iter wi) (ok : BlkOk X.N X.env.scope scope own)
    (hg : ∀ (s : Shared) (H : Hp) (C : Addr) (cl : List (Str × Addr)) (fp : List Addr), PG (X.blk s H scope (compEnvC scope cl C X.env) fp) tg g)
    (he : ∀ (s : Shared) (H : Hp) (C : Addr) (cl : List (Str × Addr)) (fp : List Addr), Inv X pins σ H s → (∀ b ∈ fp, FpOk X pins H b) → PE (X.blk s H scope (compEnvC scope cl C X.env) fp) elt te)
    (hs : ∀ x, foldedSetIterable iter X.env x = pure x) (h : tLc wi g tYes te (own.map (·.2)) σ H Q) :
    wpAny (model X.prog X.w) X.A (eval (.ListComp elt [⟨tg, iter, [], 0⟩] scope pos) X.env) (EP X pins σ Q) X.xe s := by
  have free : ∀ y ∈ scope.names, y.2 = .free → ∃ c, X.env.cells.lookup y.1 = some c := fun y hy e => (ok.free y hy e).elim (fun k => I.ok.has _ (.inl k)) fun k => I.ok.has _ (.inr k)
  rw [eval_ListComp]
  refine wpAny_comprehension_free (use := none) rfl hs (closure_ok free) ok.kind (fun y hy e => by rw [ok.uniq y hy, e]) (thn (hi.run pins s σ H _ I h) fun _ _ hx => thn hx fun _ s2 ⟨it, fp, tn, J, H2, e, I2, T, st2, f2, q⟩ => ?_)
  subst e
  refine wpAny_newObj_type (newEnv_comp ?_) (by show 0 ≤ sizeLine; decide)
  have nD : H2 s2.heap.objs.size = none := I2.hok.fresh (Nat.le_refl _)
  obtain ⟨W, ⟨m0, w0⟩, turn⟩ := q _ nD
  have I3 : Inv X pins σ (upd H2 s2.heap.objs.size (.lst [])) { s2 with heap := s2.heap.push { cls := .type "list", data := .seq ([] : List Value).toArray } } :=
    I2.laid (t' := s2.toks) (fun b o e => Heap.get?_push_of_some _ e) (Nat.le_refl _) ⟨Nat.zero_le _, [], 0, .nil, Heap.get?_push_size _ rfl⟩
  generalize hD : s2.heap.objs.size = D at nD w0 turn I3 ⊢
  have small : ∀ b ∈ fp, b < D := fun b hb => by
    obtain ⟨o, e, _⟩ := T.obj _ _ st2 b hb
    rw [← hD]
    exact Heap.lt_size e
  have st3 : tn 0 (s2.heap.push { cls := .type "list", data := .seq ([] : List Value).toArray }) := T.keep _ _ _ st2 fun b _ o e => Heap.get?_push_of_some _ e
  generalize hs3 : ({ s2 with heap := s2.heap.push { cls := .type "list", data := .seq ([] : List Value).toArray } } : Shared) = s3 at I3 ⊢
  have hh : s3.heap = s2.heap.push { cls := .type "list", data := .seq ([] : List Value).toArray } := by rw [← hs3]
  have f3 : ∀ b ∈ fp, FpOk X pins (upd H2 D (.lst [])) b ∧ b < s3.heap.objs.size := fun b hb => by
    refine ⟨⟨?_, (f2 b hb).2⟩, by rw [hh, Heap.size_push, hD]; exact Nat.lt_succ_of_lt (small b hb)⟩
    rw [upd_ne (Nat.ne_of_lt (small b hb))]
    exact (f2 b hb).1
  rw [← hh] at st3
  generalize hH3 : upd H2 D (.lst []) = H3 at I3 f3 w0
  have I4 := block_start I3 ok hN f3
  have pg := hg s3 H3 s3.heap.objs.size (cellsFrom (s3.heap.objs.size + 1) scope.names (cloFrom X.env.cells scope.names [])) fp
  have pe := he s3 H3 s3.heap.objs.size (cellsFrom (s3.heap.objs.size + 1) scope.names (cloFrom X.env.cells scope.names [])) fp I3 fun b hb => (f3 b hb).1
  show codeAny _ _ (.compStart (.ListComp elt [⟨tg, iter, [], 0⟩] scope pos) 0 (.ref it) (.ref D) (compEnvC scope (cellsFrom (s3.heap.objs.size + 1) scope.names (cloFrom X.env.cells scope.names [])) s3.heap.objs.size X.env)) (compPost (model X.prog X.w) X.A X.xe none (EP X pins σ Q) (.ref D) s3.heap.objs.size) { s3 with heap := pushCells (s3.heap.push { cls := .type "dict", data := .dict #[] }) scope.names }
  generalize hce : compEnvC scope (cellsFrom (s3.heap.objs.size + 1) scope.names (cloFrom X.env.cells scope.names [])) s3.heap.objs.size X.env = ce at I4 pg pe ⊢
  have cL : ce.locals = s3.heap.objs.size := by subst hce; rfl
  generalize hs4 : ({ s3 with heap := pushCells (s3.heap.push { cls := .type "dict", data := .dict #[] }) scope.names } : Shared) = s4 at I4 ⊢
  have st4 : tn 0 s4.heap := T.keep _ _ _ st3 fun b _ o e => by rw [← hs4]; exact pushCells_keeps _ _ _ _ (Heap.get?_push_of_some _ e)
  have stat : ∀ {σ' : St} {H' : Hp} {s' : Shared}, Inv (X.blk s3 H3 scope ce fp) [] σ' H' s' → (∀ b ∈ fp, H' b = none) → ∀ b ∈ fp, FpOk (X.blk s3 H3 scope ce fp) [] H' b := fun {σ' H' s'} I' n b hb =>
    ⟨n b hb, (I'.ok.exf b hb).1, I'.ok.exfs b hb, .inl hb, fun x c e => (I'.ok.exf b hb).2 x c e, fun p hp => by cases (show p ∈ ([] : List (Addr × Obj)) ++ [] from hp)⟩
  refine codeAny_compStart_list ?_ (T.self X.A 0 _ _ _ st4 ?_)
  rotate_left
  all_goals
    refine compLoop_any (fun n s' => ∃ i H', Inv (X.blk s3 H3 scope ce fp) [] (L2.wipe σ (own.map (·.2))) H' s' ∧ tn i s'.heap ∧ (∀ b ∈ fp, H' b = none) ∧ W i n H') ?_ m0 ⟨0, H3, I4, st4, fun b hb => (f3 b hb).1.1, w0⟩
    rintro n s5 ⟨i, H5, I5, st5, n5, w5⟩
    rcases turn i n H5 w5 with ⟨stop, qq⟩ | ⟨go, Nx, hNx, step⟩
    · refine thnF (T.done (X.blk s3 H3 scope ce fp) rfl rfl rfl hc i [] s5 _ H5 (fun _ _ => False) I5 (stat I5 n5) st5 stop) fun r s6 ⟨hr, I6⟩ => ?_
      subst hr
      have I7 : Inv X pins σ H5 s6 := I3.call' (ch := fp) I6.os I6.base I6.hok I6.bare fun b hb => ⟨(f3 b hb).1.2.2.2.1, (f3 b hb).1.2.1, (f3 b hb).1.2.2.2.2.1, (f3 b hb).1.2.2.2.2.2⟩
      obtain ⟨m, hn, _⟩ := I6.loc
      have hn : s6.heap.Ns ce.locals m := hn
      have z : H5 ce.locals = none := I6.free
      rw [cL] at hn z
      refine ⟨m, hn, fun h'' sb => ?_⟩
      obtain ⟨k0, k1, k2, k3, k4, k5⟩ := I3.fpOk (H' := H5) (Nat.le_refl _) z
      exact ⟨.ref D, H5, I7.turned (t' := s6.toks) (fun b o hb e => (sb.2 b hb).trans e) k0 k1 k3 k4 k5, rfl, qq⟩
    · refine thnF (T.item (X.blk s3 H3 scope ce fp) rfl rfl rfl hc i [] s5 _ H5 (fun _ _ => False) I5 (stat I5 n5) st5 go) fun r s6 ⟨u, hr, h6⟩ => ?_
      subst hr
      refine thnF h6 fun _ s7 ⟨x, H7, I7, r7, y7, st7, n7⟩ => ?_
      refine thnF (pg.run _ s7 _ H7 x u _ (I7.pinned (stat I7 n7) (T.obj _ _ st7)) r7 (step x H7 y7)) fun _ s8 ⟨σ8, H8, I8, hw8, q8⟩ => ?_
      refine wpAny_tests_nil ?_
      simp only [if_true]
      have q8 : te σ8 H8 _ := q8
      refine thnF (pe.run _ s8 σ8 H8 _ I8 q8) fun z s10 ⟨yv, H10, I10, r10, acc, hD10, hz10, nx⟩ => ?_
      refine app_ok (X := X.blk s3 H3 scope ce fp) I10 hD10 hz10 r10 fun s11 I11 => ?_
      obtain ⟨m', hm, w'⟩ := hNx _ nx
      have pin : ∀ b ∈ fp, ∀ o, s7.heap.get? b = some o → s11.heap.get? b = some o ∧ upd H10 D (.lst (acc ++ [yv])) b = none := fun b hb o e =>
        let z := I11.pin (b, o) (List.mem_append_right _ (List.mem_append_right _ (mem_pinsAt hb e)))
        ⟨z.1, z.2.1⟩
      refine ⟨m', hm, i + 1, _, (I11.unpinned (pins := [])).weak (by rw [← hw8, L2.wipe_length]) (fun j v e => by rw [← hw8] at e; exact (wipe_some e).1), T.keep _ _ _ st7 fun b hb o e => (pin b hb o e).1, fun b hb => ?_, w'⟩
      obtain ⟨o, e, _⟩ := T.obj _ _ st7 b hb
      exact (pin b hb o e).2
end
end G
namespace G
open PySem PySem.Spec PySem.Calls L2 LamX
open PyProof.Rows hiding St
/-! ### [_law_try(a) for a in e] -/
section
variable {g : Cf} {W : XK} {T S : List Addr} {He H : Hp} {Γ : List Sl} {σ : St} {X : Cx}
/-- a lambda's frame over any part of the frame's own -/
theorem Rl.lamT {T' : List Addr} (tt : Bool) (r : Rl g T He S H Γ σ) (h1 : ∀ b ∈ T, b ∈ T') (h2 : ∀ b ∈ T', b ∈ T ++ S) (h3 : tt = true → ∀ (i : Nat) (o : O) (a : Addr), Γ[i]? = some (.c o) → σ[i]? = some (some (.ref a)) → a ∉ T') : Rl g T' H [] H (lamG tt Γ) σ := by
  refine ⟨by unfold lamG; rw [List.length_map]; exact r.len, fun i s h => ?_, fun i j o o' a h1 => absurd h1 lamG_c, (fun a h => by cases h), (fun a h => by cases h), ⟨fun p h => h1 p (r.t p h), fun p l h => (r.okd.fd p l h).tkl⟩, fun a h => r.tkTS (h2 a h), Ext.of_same (Same.refl _) r.okd, r.s0⟩
  unfold lamG at h
  rw [List.getElem?_map, Option.map_eq_some_iff] at h
  obtain ⟨s0, h0, e⟩ := h
  have q := r.sl i s0 h0
  rw [← e]
  cases s0 with
  | no => trivial
  | v d =>
    obtain ⟨v, q1, q2⟩ := q
    refine ⟨v, q1, ?_⟩
    rw [List.append_nil]
    exact off_off h2 q2
  | c o =>
    cases tt
    · trivial
    · obtain ⟨a, q1, q2, q3⟩ := q
      refine ⟨.ref a, q1, ?_⟩
      rw [List.append_nil]
      refine q3.toD h2 (h3 rfl i o a h0 ?_)
      cases w : σ[i]? with
      | none => rw [w] at q1; cases q1
      | some x => rw [w] at q1; exact congrArg some q1
/-- what the def makes of a lambda's run -/
theorem try_rd {T' : List Addr} {tt : Bool} {te : Se G.X} {hv : Nat → Option HV} {xn : Nat → List Str} {l : HvL} {n i : Nat} {Γ' : List Sl} {E0 : XD} {Q : VK} (hK : X.K = g.K) (hin : i < n) (ho : HndOk g.K g l hv) (hxn : g.xn = xn) (r : Rl g T' H [] H Γ' σ)
    (w : (tryM tt (hndP hv xn) (te Γ')).wp E0 fun x => ∀ v H', Ext g.fd H H' → Rp g (off H' T') v x.toD → Q v H') : rdTry X.K i n l (fun E H' Q' => rdL g te E σ H' Q') H Q := by
  have mkD : ∀ d : D, (G.X.mk tt d).toD = d := fun d => by cases tt <;> rfl
  refine ⟨T', Γ', [], r, M.wp_monoE (fun x q v H2 e2 rx => ?_) (fun C fs ⟨d, hd, q⟩ dd H2 e2 xd => ?_) (tryM_wp w)⟩
  · have l2 := r.mono e2
    refine ⟨by show 2 ≤ sizeLine; decide, fun q' hq => ?_⟩
    have nT : q' ∉ T' := fun z => l2.tkT z hq
    have s3 : Same H2 (upd H2 q' (.tup [.str "", v])) := Same.newT hq
    refine q _ _ (e2.same s3) ?_
    rw [mkD]
    exact .tup (SqT.of (by rw [off_ne nT]; exact upd_same)) (.cons (.str _ (by decide +kernel)) (.cons (rx.toD.mono (s3.offT _) _) .nil))
  · unfold hndP at hd
    cases hh : hv C with
    | none => rw [hh] at hd; cases hd
    | some h =>
      rw [hh] at hd
      obtain ⟨p1, p2, p3⟩ := ho.ok C h hh
      have l2 := r.mono e2
      intro σ' hl'
      rw [hK]
      refine wTry_ok (fun a σ hσ => HV.ok hσ p2 (fun b hb => l2.tkT hb) (Same.refl _) xd p3 (by rw [hxn]; exact hd) fun v H3 s3 r3 => q v H3 (e2.same s3) ?_) p1 (by omega)
      rw [mkD]
      exact r3
/-- the call, the def's context being known -/
theorem try_rc {RD : (XK → Hp → VK → Prop) → Hp → VK → Prop} {x a : Str} {gf : Addr} {k : Nat} {pg : Arguments} {bg : List Stmt} {sg : Scope} {dV kV doc pm cdv ct oc : Value} {an od : Option Addr} {osl : Array (Option Value)} {Ng : List Str} {pins : List (Addr × Obj)} {s1 : Shared} {H1 : Hp} {f : Addr} {L : Lam} {t : XK → TE} {Q : VK}
    (lk : X.K.lookup gf = some ⟨oc, od, .func (PySem.W.fnOf x x pg bg sg dV kV doc pm an cdv ct), osl⟩) (hcg : PySem.W.codeIn X.K cdv x = true) (hb : L2.Binds X.K (PySem.W.fnOf x x pg bg sg dV kV doc pm an cdv ct) [a] []) (Sg : FnScope Ng [a] sg) (hNg : Ng[0]? = some a) (hva : Vis sg a)
    (hG : GivesT X Ng x sg gf cdv bg a RD) (hr : Room (k + 2) X.A) (LO : LamOk X k L t) (I1 : L2.Inv X pins σ H1 s1) (tk : LamT X L f H1) (hRD : RD (fun E H' Q' => t E σ H' Q') H1 Q) (hd : (a == ("__debug__" : Str)) = false) (hcd : (a == ("__classdict__" : Str)) = false) :
    codeAny (model X.prog X.w) X.A (.call (.ref gf) ⟨[.ref f], []⟩) (CR C8.CX0 X.stack X.prog X.w H1 s1 Q C8.E0) s1 := by
  refine run_ofS (N := Ng) (ps := [a]) (us := [.ref f]) (vs := [.ref f]) lk hcg Sg hr I1.env0 (hb s1 [.ref f] I1.kIn rfl) (.cons rfl .nil) rfl fun hr' => ?_
  obtain ⟨t', ht', hq'⟩ := hG f (LamT X L f) s1 H1 Q (fun E H' Q' => t E σ H' Q') (fun W pn xe E p1 p2 tk hW => pe_actL (CXg := C8.CX0) (Eg := C8.E0) (i := 0) I1 LO tk hW hr' hNg hva hd hcd) tk hRD
  exact ⟨t', ht'.nox, hq'⟩
/-- x(y) within a comprehension's block -/
theorem pe_tryB {lams : Lams} {RD : (XK → Hp → VK → Prop) → Hp → VK → Prop} {x y a : Str} {gf : Addr} {iy k : Nat} {pg : Arguments} {bg : List Stmt} {sg : Scope} {dV kV doc pm cdv ct oc : Value} {an od : Option Addr} {osl : Array (Option Value)} {Ng : List Str} {pins0 : List (Addr × Obj)} {σ0 : St} {s0 : Shared} {H0 : Hp} {scope : Scope} {ce : Env} {fp : List Addr} {p p1 pos : Pos}
    (I0 : L2.Inv X pins0 σ0 H0 s0) (hfp : ∀ b ∈ fp, FpOk X pins0 H0 b) (hg : Gl (X.blk s0 H0 scope ce fp) x) (hm : X.mg x = some (.ref gf)) (hk : PySem.W.keepIn X.K (.ref gf) = true) (hN : X.N[iy]? = some y) (hv : Vis ce.scope y)
    (lk : X.K.lookup gf = some ⟨oc, od, .func (PySem.W.fnOf x x pg bg sg dV kV doc pm an cdv ct), osl⟩) (hcg : PySem.W.codeIn X.K cdv x = true) (hb : L2.Binds X.K (PySem.W.fnOf x x pg bg sg dV kV doc pm an cdv ct) [a] []) (Sg : FnScope Ng [a] sg) (hNg : Ng[0]? = some a) (hva : Vis sg a)
    (hG : GivesT X Ng x sg gf cdv bg a RD) (hr : Room (k + 2) X.A) (hl : ∀ j L t, lams j = some (L, t) → LamOk X k L t)
    (hdb : (x == ("__debug__" : Str)) = false) (hyd : (y == ("__debug__" : Str)) = false) (hyc : (y == ("__classdict__" : Str)) = false) (hd : (a == ("__debug__" : Str)) = false) (hcd : (a == ("__classdict__" : Str)) = false) :
    PE (X.blk s0 H0 scope ce fp) (.Call (.Name x p) [.Name y p1] [] pos) (fun σ1 H1 Q => ∃ f j L t, σ1[iy]? = some (some (.ref f)) ∧ lams j = some (L, t) ∧ LamT X L f H1 ∧ RD (fun E H' Q' => t E σ0 H' Q') H1 Q) := by
  refine ⟨fun pins s σ1 H Q I ⟨f, j, L, t, hs, hj, tk, hRD⟩ => ?_⟩
  refine wpAny_Call_Name_kw (ld_glob I hg hm ?_ hdb)
  refine PySem.W.callWith_K (h₀ := X.base) I.ok.mod.kin hk ?_ (by rfl) (by rfl)
  show wpAny _ _ (spliced ((false, eval (.Name y p1) ce) :: backTo pos (starEach [] ce))) _ _ s
  refine Calls.spliced_cons (thn ((pe_var (X := X.blk s0 H0 scope ce fp) (pos := p1) (i := iy) hN hv hyd hyc).run pins s σ1 H (fun v H1 => v = .ref f ∧ H1 = H) I ⟨.ref f, hs, rfl, rfl⟩) fun u s1 ⟨v, H1, I1, r1, ev, eH⟩ => ?_)
  subst ev
  subst eH
  obtain rfl : u = Value.ref f := r1
  refine Calls.spliced_nil ⟨I1.kIn, ?_⟩
  have IX : L2.Inv X pins0 σ0 H1 s1 := I0.call' (ch := fp) I1.os I1.base I1.hok I1.bare fun b hb => ⟨(hfp b hb).2.2.2.1, (hfp b hb).2.1, (hfp b hb).2.2.2.2.1, (hfp b hb).2.2.2.2.2⟩
  have rc := try_rc (X := X) lk hcg hb Sg hNg hva hG hr (hl j L t hj) IX tk hRD hd hcd
  refine wpAny_call (codeAny_mono rc fun r s2 hq => ?_)
  cases r with
  | error e => exact (show False from hq).elim
  | ok fl =>
    cases fl with
    | ret u => exact I1.after hq
    | next => exact False.elim hq
    | brk => exact False.elim hq
    | cont => exact False.elim hq
end
end G
namespace G
open PySem PySem.Spec PySem.Calls L2 LamX
open PyProof.Rows hiding St
def mapT (bs : LamB) (hnd : Nat → List D → Option D) (Γ : List Sl) : List D → M (List D)
  | [] => .ret []
  | d :: ds => match d with
    | .fn j => (match bs j with
      | some (tt, te) => (tryM tt hnd (te (lamG tt Γ))).bind fun x => (mapT bs hnd Γ ds).bind fun r => .ret (x.toD :: r)
      | none => .fail)
    | _ => .fail
/-- [_law_try(a) for a in ..]; a's slot is i -/
def sTryL (i : Nat) (bs : LamB) (hnd : Nat → List D → Option D) (fi : Se (Bool × List D)) : Se X := fun Γ => (fi Γ).bind fun p => if p.2.length ≤ 100000 ∧ i < Γ.length then (mapT bs hnd Γ p.2).bind fun r => .ret (.t (.lst r)) else .fail
section
variable {g : Cf} {W : XK} {T : List Addr} {He : Hp} {X : Cx}
theorem rdTryL {ls : LamL} {hv : Nat → Option HV} {xn : Nat → List Str} {l : HvL} {n ie i : Nat} {vs : List Nat} {fi : Se (Bool × List D)} {σ : St} {H : Hp} {Q : VK} (hK : X.K = g.K) (hin : ie < n) (ho : HndOk g.K g l hv) (hxn : g.xn = xn) (hi : i ∈ vs)
    (hlm : ∀ j L tt te, ls j = some (L, tt, te) → ∀ f H, g.fd.lm j f H → LamT X L f H) (h : rdE g W T He (sTryL i (fun j => (ls j).map Prod.snd) (hndP hv xn) fi) σ H Q) :
    tLc (rdI g W T He fi) (gName i) tYes (fun σ1 H1 Q => ∃ f j L t, σ1[i]? = some (some (.ref f)) ∧ (ls j).map (fun q => (q.1, rdL g q.2.2)) = some (L, t) ∧ LamT X L f H1 ∧ rdTry X.K ie n l (fun E H' Q' => t E σ H' Q') H1 Q) vs σ H Q := by
  obtain ⟨Γ, S, rl, w⟩ := h
  simp only [sTryL, M.wp_bind] at w
  refine ⟨Γ, S, rl, M.wp_mono (fun p w J H1 e1 itc _ D hD => ?_) w⟩
  split at w
  rotate_left
  · exact w.elim
  rename_i hz
  obtain ⟨hz, hil⟩ := hz
  simp only [M.wp_bind, M.wp_ret] at w
  have l1 := rl.mono e1
  have nTS : D ∉ T ++ S := l1.freeTS hD
  have nS : D ∉ S := fun z => nTS (List.mem_append_right _ z)
  have nT : D ∉ T := fun z => nTS (List.mem_append_left _ z)
  have nfd : ¬ g.fd.mv D := fun h => nT (l1.t D h)
  have nl : ∀ p l, g.fd.f = some (p, l) → l ≠ D := fun p l hp z => (l1.feed hp).tkl (by rw [z]; exact hD)
  have ok : ∀ {H2 : Hp}, Ext g.fd H1 H2 → H2 D ≠ none → okC g T S H1 H2 (T ++ (D :: S)) := fun {H2} e hd => ⟨e, (off_free hD).trans (e.off fun p h => List.mem_append_left _ (l1.t p h)), fun b hb => by
    rcases List.mem_append.mp hb with z | z
    · exact (l1.mono e).tkT z
    · rcases List.mem_cons.mp z with rfl | z
      · exact hd
      · exact ((l1.mono e).tk b z).ne⟩
  have sl : ∀ (i : Nat) (o : O) (a : Addr), Γ[i]? = some (.c o) → σ[i]? = some (some (.ref a)) → a ∈ S := fun i o a h1 h2 => by
    obtain ⟨a', q1, q2, _⟩ := l1.sl i _ h1
    rw [h2] at q1
    cases q1
    exact q2
  refine ⟨fun i m H2 => m = p.2.length - i ∧ i ≤ p.2.length ∧ Ext g.fd H1 H2 ∧ Rl g T He (D :: S) H2 Γ σ ∧ ∃ vacc acc, H2 D = some (.lst vacc) ∧ RpA g (off H2 (D :: T)) vacc acc ∧ acc.length ≤ i ∧
      (mapT (fun j => (ls j).map Prod.snd) (hndP hv xn) Γ (p.2.drop i)).wp (xp g W T He) fun r => ∀ v H', Ext g.fd H H' → RpX g T S H H' v (.t (.lst (acc ++ r))) → Q v H', ⟨p.2.length, by simp, Nat.zero_le _, l1.ext_new hD, l1.more hD _ (fun φ z => by cases z), [], [], upd_same, .nil, Nat.le_refl _, by simpa using w⟩, ?_⟩
  rintro i' m H2 ⟨rfl, hi', e2, l2, vacc, acc, hD2, hacc, hlen, w2⟩
  by_cases hlt : i' < p.2.length
  · obtain ⟨d, hd⟩ : ∃ d, p.2[i']? = some d := ⟨p.2[i'], by simp [hlt]⟩
    obtain ⟨g1, g2⟩ := itc.go H2 _ (ok e2 (by rw [hD2]; intro z; cases z)) i' d hd
    refine .inr ⟨g1, fun H' => Ext g.fd H1 H' ∧ Rl g T He (D :: S) H' Γ σ ∧ ∃ vacc acc, H' D = some (.lst vacc) ∧ RpA g (off H' (D :: T)) vacc acc ∧ acc.length ≤ i' + 1 ∧
      (mapT (fun j => (ls j).map Prod.snd) (hndP hv xn) Γ (p.2.drop (i' + 1))).wp (xp g W T He) fun r => ∀ v H', Ext g.fd H H' → RpX g T S H H' v (.t (.lst (acc ++ r))) → Q v H', fun H' h => ⟨p.2.length - (i' + 1), by omega, rfl, hlt, h⟩, fun x H3 y => ?_⟩
    obtain ⟨s3, r3⟩ := g2 x H3 y
    have e3 : Ext g.fd H2 H3 := l2.same s3
    have l3 := l2.mono e3
    rw [List.drop_eq_getElem_cons hlt] at w2
    have ed : p.2[i'] = d := by rw [List.getElem?_eq_getElem hlt] at hd; exact Option.some.inj hd
    rw [ed] at w2
    simp only [mapT] at w2
    cases r3 with
    | @fn a j hlmj =>
      simp only at w2
      cases hj : ls j with
      | none => rw [hj] at w2; exact w2.elim
      | some q =>
        obtain ⟨L, tt, te⟩ := q
        rw [hj] at w2
        simp only [Option.map_some, M.wp_bind] at w2
        refine ⟨wipe_idem (ws := [(i, .ref a)]) (fun k hk => by rw [List.mem_singleton.mp hk]; exact hi), ?_⟩
        unfold tYes
        dsimp only
        rw [if_pos rfl]
        have hlσ : i < (L2.wipe σ vs).length := by rw [L2.wipe_length, ← rl.len]; exact hil
        refine ⟨a, j, L, rdL g te, by rw [List.getElem?_set_self hlσ], by rw [hj]; rfl, hlm j L tt te hj _ _ (g.fd.mono (off_same _ _) hlmj), ?_⟩
        refine try_rd (T' := if tt then D :: T else T ++ (D :: S)) (Γ' := lamG tt Γ) (tt := tt) hK hin ho hxn (l3.lamT tt (fun b hb => ?_) (fun b hb => ?_) fun ht k o a h1 h2 => ?_) (M.wp_mono (fun x w3 v H5 e5 r5 => ?_) w2)
        · cases tt
          · exact List.mem_append_left _ hb
          · exact List.mem_cons_of_mem _ hb
        · cases tt
          · exact hb
          · rcases List.mem_cons.mp hb with rfl | hb
            · exact List.mem_append_right _ List.mem_cons_self
            · exact List.mem_append_left _ hb
        · subst ht
          have ha := sl k o a h1 h2
          intro z
          rcases List.mem_cons.mp z with rfl | z
          · exact nS ha
          · exact l1.nT ha z
        have e25 := e3.trans e5
        have keep : ∀ {Ha Hb : Hp} {o : HO}, Ext g.fd Ha Hb → Ha D = some o → Hb D = some o := fun e h => e.at l1.t nT h
        have hD5 := keep e25 hD2
        have tD : ∀ p, g.fd.mv p → p ∈ D :: T := fun p h => List.mem_cons_of_mem _ (l1.t p h)
        have hacc5 := RpA.mono (e25.off tD) _ hacc
        have r5' : Rp g (off H5 (D :: T)) v x.toD := off_off (fun b hb => by
          cases tt
          · rcases List.mem_cons.mp hb with rfl | hb
            · exact List.mem_append_right _ List.mem_cons_self
            · exact List.mem_append_left _ hb
          · exact hb) r5
        have oD : off (upd H5 D (.lst (vacc ++ [v]))) (D :: T) = off H5 (D :: T) := off_upd List.mem_cons_self
        have mem : D ∈ T ++ (D :: S) := List.mem_append_right _ List.mem_cons_self
        refine ⟨vacc, hD5, Nat.lt_of_le_of_lt (by rw [hacc.length]; omega : vacc.length ≤ 100000) (by decide), ?_, ?_, vacc ++ [v], acc ++ [x.toD], upd_same, by rw [oD]; exact hacc5.append (.cons r5' .nil), by rw [List.length_append]; show acc.length + 1 ≤ i' + 1; omega, ?_⟩
        · refine ⟨fun b o n hb => ?_, (e2.trans e25).2.put nfd nl (noCode hD5 fun f z => by cases z)⟩
          have nb : b ≠ D := fun z => by rw [z, hD] at hb; cases hb
          rw [upd_ne nb]
          exact (e2.trans e25).1 b o n hb
        · have l5' := l2.mono e25
          refine ⟨l5'.len, fun k s h => ?_, l5'.ne, fun b hb => ?_, l5'.nw, l5'.ft, l5'.tt, ?_, l5'.s0⟩
          · have q := l5'.sl k s h
            cases s with
            | no => trivial
            | v e => obtain ⟨v, q1, q2⟩ := q; exact ⟨v, q1, by rw [off_upd mem]; exact q2⟩
            | c o' =>
              obtain ⟨a, q1, q2, q3⟩ := q
              have na : a ≠ D := fun z => by
                obtain ⟨a', q1', q2', _⟩ := l1.sl k _ h
                rw [q1] at q1'
                cases q1'
                exact nS (z ▸ q2')
              exact ⟨a, q1, q2, q3.mono (fun o h => by rw [upd_ne na]; exact h) (by rw [off_upd mem]; exact Same.refl _)⟩
          · by_cases z : b = D
            · rw [z]; exact ⟨_, upd_same, fun c q z => by cases z⟩
            · obtain ⟨u, q, n⟩ := l5'.tk b hb
              exact ⟨u, by rw [upd_ne z]; exact q, n⟩
          · refine ⟨fun b o n hb => ?_, (e2.trans e25).2.put nfd nl (noCode hD5 fun f z => by cases z)⟩
            have nb : b ≠ D := fun z => by
              rw [z, l2.nw D List.mem_cons_self] at hb; cases hb
            rw [upd_ne nb]
            exact l5'.ex.1 b o n hb
        · refine M.wp_mono (fun r q v H' e h => q v H' e ?_) w3
          rw [List.append_assoc] at h
          exact h
    | _ => exact w2.elim
  · have e : i' = p.2.length := by omega
    subst e
    refine .inl ⟨itc.stop H2 _ (ok e2 (by rw [hD2]; intro z; cases z)), ?_⟩
    rw [List.drop_length] at w2
    simp only [mapT, M.wp_ret, List.append_nil] at w2
    exact w2 _ H2 (e1.trans e2) (Rp.lst (by rw [off_ne nT]; exact hD2) (RpA.mono (off_sub fun b hb => List.mem_cons_of_mem _ hb) _ hacc))
end
end G
namespace G
open PySem PySem.Spec PySem.Calls L2 LamX
open PyProof.Rows hiding St
section
variable {g : Cf} {W : XK} {T : List Addr} {He : Hp} {X : Cx}
/-- [_law_try(y) for y in iter] -/
theorem ev_lcTry {ls : LamL} {hv : Nat → Option HV} {xn : Nat → List Str} {l : HvL} {n ie i k : Nat} {x y a : Str} {st : Stmt} {Ng : List Str} {iter : Expr} {scope : Scope} {own : List (Str × Nat)} {fi : Se (Bool × List D)} {bs : LamB} {p p1 p2 pos1 pos : Pos}
    (D : Df X.K X.mg x st) (S : FnScope Ng [a] (defScope st)) (hNg : Ng[0]? = some a) (hva : Vis (defScope st) a)
    (hb : ∀ (kV doc pm : Value) (an : Option Addr) (cdv ct : Value) (us : List Value), us.length = 1 → bindArgs (PySem.W.fnOf x x (defArgs st) (defBody st) (defScope st) .none kV doc pm an cdv ct) ⟨us, []⟩ = pure (([a] : List Str).zip us))
    (hG : ∀ gf cdv, GivesT X Ng x (defScope st) gf cdv (defBody st) a (rdTry X.K ie n l)) (hK : X.K = g.K) (hin : ie < n) (ho : HndOk g.K g l hv) (hxn : g.xn = xn) (hr : RT (k + 2) X W) (lf : LawFd X g T ls)
    (hl : ∀ j L tt te, ls j = some (L, tt, te) → LamOk X k L (rdL g te)) (hbs : (fun j => (ls j).map Prod.snd) = bs)
    (hc : X.calm = true) (hN : X.N.Nodup) (hi : EI X g W T He (.Name y p2) iter fi) (ok : BlkOk X.N X.env.scope scope own) (hyN : X.N[i]? = some y) (him : i ∈ own.map (·.2)) (hyl : ∀ (C : Addr) (cl : List (Str × Addr)), (compEnvC scope cl C X.env).scope.names.lookup y = some .local) (hgx : ∀ (C : Addr) (cl : List (Str × Addr)), (compEnvC scope cl C X.env).scope.names.lookup x = some .globalImplicit)
    (hs : ∀ x, foldedSetIterable iter X.env x = pure x := by intro _; rfl)
    (hdb : (x == ("__debug__" : Str)) = false := by decide) (hyd : (y == ("__debug__" : Str)) = false := by decide) (hyc : (y == ("__classdict__" : Str)) = false := by decide) (hd : (a == ("__debug__" : Str)) = false := by decide) (hcd : (a == ("__classdict__" : Str)) = false := by decide) :
    EV X g W T He (.ListComp (.Call (.Name x p) [.Name y p1] [] pos1) [⟨.Name y p2, iter, [], 0⟩] scope pos) (sTryL i bs (hndP hv xn) fi) := by
  subst hbs
  obtain ⟨gf, fd, F, hm⟩ := D.ex
  have bi := F.binds (ps := [a]) hb
  have kp := F.kp
  obtain ⟨oc, od, kV, doc, pm, an, cdv, ct, osl, rfl, lk, hcd'⟩ := F.ex
  refine ⟨fun pins s σ H Q I h => ?_⟩
  refine lc_own hc hN I hi ok (g := gName i) (fun s0 H0 C cl fp => pg_name (i := i) hN hyN (.inl (hyl C cl)) (.inr (hyl C cl))) (fun s0 H0 C cl fp I0 hfp => pe_tryB (lams := fun j => (ls j).map fun q => (q.1, rdL g q.2.2)) (RD := rdTry X.K ie n l) I0 hfp (hgx C cl) hm kp hyN (.inl (hyl C cl)) lk hcd' bi S hNg hva (hG gf cdv) hr.room (fun j L t e => ?_) hdb hyd hyc hd hcd) hs
    (rdTryL hK hin ho hxn him (fun j L tt te e f H => (lf.lm j L tt te e f H).mp) h)
  obtain ⟨⟨L', tt, te⟩, h1, h2⟩ := Option.map_eq_some_iff.mp e
  cases h2
  exact hl j L' tt te h1
end
end G
namespace G
open PySem PySem.Spec L2
open PyProof.Rows hiding St
/-! ### powers, products -/
def powD : D → D → M R
  | .int i, .int j => if 0 ≤ j ∧ j ≤ 1000 ∧ i.natAbs < 2 ^ 64 then .ret (.at (.int (i ^ j.toNat))) else .fail
  | _, _ => .fail
def mulD : D → D → M R
  | .int i, .int j => if -(2 ^ 64) < i ∧ i < 2 ^ 64 then .ret (.at (.int (i * j))) else .fail
  | .lst a, .int k => if k ≤ 1000 ∧ -1000 ≤ k then lim (a.length * k.toNat) (.ret (.nw (.l (List.replicate k.toNat a).flatten))) else .fail
  | .tup a, .int k => if 2 ≤ k ∧ k ≤ 1000 ∧ a.length ≤ 1000 ∧ a ≠ [] then .ret (.dt (.tup (List.replicate k.toNat a).flatten)) else .fail
  | _, _ => .fail
section
variable {Z : Cx} {g : Cf} {H : Hp}
theorem RpA.rep {vs : List V} {ds : List D} (r : RpA g H vs ds) : ∀ n, RpA g H (List.replicate n vs).flatten (List.replicate n ds).flatten
  | 0 => .nil
  | n + 1 => by
    simp only [List.replicate_succ, List.flatten_cons]
    exact r.append (RpA.rep r n)
theorem pr_pow : Pr2 g (rI CPow fun i j => .int (i ^ j.toNat)) powD := fun T H v1 v2 d1 d2 Q f r1 r2 _ w => by
  cases d1 <;> cases d2 <;> first | exact w.elim | skip
  dsimp only [powD] at w
  split at w
  · rename_i h
    exact ⟨_, _, r1.int, r2.int, ⟨h.1, by omega, h.2.2⟩, w _ H f.refl (.int _)⟩
  · exact w.elim
def rMul (K : PySem.W.Frag) : R2 := fun x y H Q => rI CMul (fun i j => .int (i * j)) x y H Q ∨ rRep x y H Q ∨ rRepT K x y H Q
theorem op_Mul : OpR Z (binaryOp .Mult) (rMul Z.K) := OpR.or op_mul (OpR.or op_rep op_repT)
theorem pr_mul : Pr2 g (rMul g.K) mulD := fun T H v1 v2 d1 d2 Q f r1 r2 _ w => by
  cases d1 <;> cases d2 <;> first | exact w.elim | skip
  · dsimp only [mulD] at w
    split at w
    · rename_i h
      exact .inl ⟨_, _, r1.int, r2.int, .inl h, w _ H f.refl (.int _)⟩
    · exact w.elim
  · dsimp only [mulD] at w
    split at w
    · rename_i h
      obtain ⟨hl, w⟩ := lim_wp w
      obtain ⟨a, vs, rfl, h1, q1⟩ := r1.lst
      exact .inr (.inl ⟨_, _, _, rfl, r2.int, h1, by omega, by omega, big (by rw [q1.length]; exact hl), fun p hp => w _ _ (f.new hp) (new_lst f hp (q1.rep _))⟩)
    · exact w.elim
  · dsimp only [mulD] at w
    split at w
    · rename_i h
      obtain ⟨a, vs, rfl, h1, q1, z1⟩ := r1.tup
      exact .inr (.inr ⟨_, _, _, rfl, r2.int, h1, fun e => h.2.2.2 (by have := q1.length; rw [e] at this; exact List.eq_nil_of_length_eq_zero this.symm), h.1, h.2.1, by rw [q1.length]; exact h.2.2.1, fun p hp => w _ _ (f.new hp) (new_tup f hp (q1.rep _))⟩)
    · exact w.elim
end
end G
namespace G
open PySem PySem.Spec L2
open PyProof.Rows hiding St
/-! ### dicts, read -/
structure SdOk (P : Program) (w : World) (K : PySem.W.Frag) (dx : Dx) : Prop where
  hk : dx.hk = (nestedKind P w).hash
  sd : ∀ a kvs, (a, kvs) ∈ dx.sd → (a == sysModules) = false ∧ ∃ o vs, K.lookup a = some o ∧ KV kvs vs ∧ ∀ h : Heap, h.get? a = some o → h.DictOf (mixKind P w) a vs
def keyD : D → Option Key
  | .int i => some (.inl i)
  | .str x => some (.inr x)
  | _ => none
def lookK (ks : List Key) (ds : List D) (k : Key) : Option D := ((ks.zip ds).find? fun p => decide (p.1 = k)).map (·.2)
def lookN (ks ds : List D) (k : NestedKey) : Option D := ((ks.zip ds).find? fun p => decide (p.1.nk = some k)).map (·.2)
def keyN : D → Option NestedKey
  | .tup ds => match D.nk (.tup ds) with
    | some k => if k.depth ≤ 8 then some k else none
    | none => none
  | _ => none
theorem keyD_v {g : Cf} {H : Hp} {v : V} {d : D} {k : Key} (r : Rp g H v d) (h : keyD d = some k) : v = kV k := by
  cases r <;> simp only [keyD, Option.some.injEq] at h <;> first | (cases h; done) | (subst h; rfl)
theorem lookK_v {g : Cf} {H : Hp} {k : Key} {d : D} : ∀ {kvs : List (Key × V)} {ds : List D}, RpA g H (kvs.map Prod.snd) ds → lookK (kvs.map Prod.fst) ds k = some d → ∃ v, valV kvs k = some v ∧ Rp g H v d
  | [], _, r, h => by cases r; simp [lookK] at h
  | (k0, v0) :: kvs, _, r, h => by
    cases r with
    | cons r1 r2 =>
      unfold lookK at h
      simp only [List.map_cons, List.zip_cons_cons, List.find?_cons] at h
      unfold valV
      simp only [List.find?_cons]
      by_cases e : k0 = k
      · simp only [e, decide_true, Option.map_some, Option.some.injEq] at h ⊢
        subst h
        exact ⟨_, rfl, r1⟩
      · simp only [e, decide_false] at h ⊢
        exact lookK_v r2 h
section
variable {Z : Cx} {g : Cf} {dx : Dx} {pins : List (Addr × Obj)} {σ : St} {H : Hp} {s : Shared} {a : Addr}
theorem dkAt_rd (so : SdOk Z.prog Z.w Z.K dx) (I : Inv Z pins σ H s) {kvs : List (Key × V)} (h : DkAt dx H a kvs) : (a == sysModules) = false ∧ ∃ vs, KV kvs vs ∧ s.heap.DictOf (mixKind Z.prog Z.w) a vs := by
  rcases h with ⟨o, h⟩ | h
  · obtain ⟨_, h1, h2⟩ := dk_rd I.hok (.inr ⟨o, h⟩)
    exact ⟨h1, h2⟩
  · obtain ⟨h1, o, vs, h0, h2, h3⟩ := so.sd a kvs h
    exact ⟨h1, vs, h2, h3 _ (I.kIn _ _ h0)⟩
/-! keys that are tuples -/
mutual
theorem Rp.nested (I : Inv Z pins σ H s) (hK : Z.K = g.K) : ∀ (d : D) {v : V} {u : Value} {k : NestedKey}, Rp g H v d → RelV v u → d.nk = some k → NestedIs s.heap k u
  | .non, _, _, _, r, q, e => by cases r; cases q; simp only [D.nk, Option.some.injEq] at e; subst e; exact .none
  | .bl b, _, _, _, r, q, e => by cases r; cases q; simp only [D.nk, Option.some.injEq] at e; subst e; exact .bool rfl
  | .int i, _, _, _, r, q, e => by cases r; obtain ⟨t, rfl⟩ := q; simp only [D.nk, Option.some.injEq] at e; subst e; exact .int _ _
  | .str x, _, _, _, r, q, e => by
    cases r with
    | str _ _ => obtain ⟨t, rfl⟩ := q; simp only [D.nk, Option.some.injEq] at e; subst e; exact .text _ _
  | .tup ds, _, _, _, r, q, e => by
    cases r with
    | tup h1 h2 =>
      cases q
      simp only [D.nk, Option.map_eq_some_iff] at e
      obtain ⟨ks, e, rfl⟩ := e
      obtain ⟨its, rv, ⟨o, ho, hc, n, hd⟩, _⟩ := I.tuple (hK ▸ h1)
      exact .tup ho hc hd (RpA.nested I hK ds h2 (by simpa using rv) e)
  | .lst _, _, _, _, _, _, e => by simp only [D.nk] at e; cases e
  | .ins _ _, _, _, _, _, _, e => by simp only [D.nk] at e; cases e
  | .feed, _, _, _, _, _, e => by simp only [D.nk] at e; cases e
  | .fn _, _, _, _, _, _, e => by simp only [D.nk] at e; cases e
  | .dk _ _, _, _, _, _, _, e => by simp only [D.nk] at e; cases e
  | .dn _ _, _, _, _, _, _, e => by simp only [D.nk] at e; cases e
theorem RpA.nested (I : Inv Z pins σ H s) (hK : Z.K = g.K) : ∀ (ds : List D) {vs : List V} {us : List Value} {ks : List NestedKey}, RpA g H vs ds → Vals vs us → D.nks ds = some ks → NestedAll s.heap ks us
  | [], _, _, _, r, q, e => by cases r; cases q; simp only [D.nks, Option.some.injEq] at e; subst e; exact .nil
  | d :: ds, _, _, _, r, q, e => by
    cases r with
    | cons r1 r2 =>
      cases q with
      | cons q1 q2 =>
        simp only [D.nks] at e
        cases e1 : d.nk with
        | none => rw [e1] at e; cases e
        | some k =>
          cases e2 : D.nks ds with
          | none => rw [e1, e2] at e; cases e
          | some ks =>
            rw [e1, e2] at e
            simp only [Option.some.injEq] at e
            subst e
            exact .cons (Rp.nested I hK d r1 q1 e1) (RpA.nested I hK ds r2 q2 e2)
end
/-- the entries, as the library says them -/
def ysOf (xs : List (NestedKey × Addr)) (us : List Value) : List (NestedKey × Addr × Value) := (xs.zip us).map fun p => (p.1.1, p.1.2, p.2)
theorem RpA.keysAt (I : Inv Z pins σ H s) (hK : Z.K = g.K) : ∀ {xs : List (NestedKey × Addr)} {ks : List D}, RpA g H (xs.map fun p => V.ref p.2) ks → ks.map D.nk = xs.map (fun p => some p.1) → ∀ p ∈ xs, NestedIs s.heap p.1 (.ref p.2)
  | [], _, _, _, p, h => by cases h
  | x :: xs, _, r, e, p, h => by
    cases r with
    | cons r1 r2 =>
      simp only [List.map_cons, List.cons.injEq] at e
      rcases List.mem_cons.mp h with rfl | h
      · exact Rp.nested I hK _ r1 rfl e.1
      · exact RpA.keysAt I hK r2 e.2 p h
theorem zip_fst {α β : Type} : ∀ {xs : List α} {us : List β}, us.length = xs.length → (xs.zip us).map (·.1) = xs
  | [], us, h => by cases us <;> simp_all
  | x :: xs, [], h => by simp at h
  | x :: xs, u :: us, h => by simp [zip_fst (xs := xs) (us := us) (by simpa using h)]
theorem dn_rd (so : SdOk Z.prog Z.w Z.K dx) (I : Inv Z pins σ H s) (hK : Z.K = g.K) {xs : List (NestedKey × Addr)} {vs : List V} {ks : List D} (h : DnAt dx H xs vs a) (r : RpA g H (xs.map fun p => V.ref p.2) ks) (e : ks.map D.nk = xs.map (fun p => some p.1)) :
    (a == sysModules) = false ∧ ∃ us, Vals vs us ∧ us.length = xs.length ∧ s.heap.DictOfH (nestedKind Z.prog Z.w) a (ysOf xs us) := by
  obtain ⟨o', h⟩ := h
  obtain ⟨_, ⟨h1, o, es, ep, us, h2, h3, h4, h5, h6, h7, h8, h9⟩, _⟩ := (show ObjOk Z.prog Z.w H s.heap a (.frz o' (DnO dx.hk xs vs a)) from I.hok a _ h)
  refine ⟨h1, us, h5, h6, o, es, ep, h2, h3, h4, ?_, fun y hy => ?_, ?_⟩
  · rw [h7, so.hk]
    unfold ysOf
    rw [List.map_map]
    rfl
  · unfold ysOf at hy
    obtain ⟨p, hp, rfl⟩ := List.mem_map.mp hy
    have := List.of_mem_zip hp
    exact ⟨RpA.keysAt I hK r e p.1 this.1, h9 _ this.1⟩
  · unfold ysOf
    rw [List.map_map]
    have e2 : ((fun x : NestedKey × Addr × Value => x.1) ∘ fun p : (NestedKey × Addr) × Value => (p.1.1, p.1.2, p.2)) = (fun q : NestedKey × Addr => q.1) ∘ fun p : (NestedKey × Addr) × Value => p.1 := rfl
    rw [e2, ← List.map_map, zip_fst h6]
    exact h8
theorem lookN_v {H : Hp} {k : NestedKey} : ∀ {xs : List (NestedKey × Addr)} {vs : List V} {us : List Value} {ks ds : List D}, Vals vs us → us.length = xs.length → ks.map D.nk = xs.map (fun p => some p.1) → RpA g H vs ds → (∀ d, lookN ks ds k = some d → ∃ v u b, atKey (ysOf xs us) k = some (b, u) ∧ RelV v u ∧ Rp g H v d) ∧ (lookN ks ds k = none → atKey (ysOf xs us) k = none)
  | [], vs, us, ks, ds, q, hl, e, r => by
    cases us with
    | cons u us => simp at hl
    | nil =>
      cases q; cases r
      have : ks = [] := by simpa using e
      subst this
      exact ⟨fun d h => by simp [lookN] at h, fun _ => rfl⟩
  | (k0, b0) :: xs, vs, us, ks, ds, q, hl, e, r => by
    cases us with
    | nil => simp at hl
    | cons u us =>
      cases q with
      | cons q1 q2 =>
        cases r with
        | cons r1 r2 =>
          cases ks with
          | nil => simp at e
          | cons kd ks =>
            simp only [List.map_cons, List.cons.injEq] at e
            have ih := lookN_v (k := k) q2 (by simpa using hl) e.2 r2
            unfold lookN at ih ⊢
            unfold atKey ysOf at ih ⊢
            simp only [List.zip_cons_cons, List.map_cons, List.find?_cons, e.1, Option.some.injEq]
            by_cases z : k0 = k
            · simp only [z, decide_true, Option.map_some, Option.some.injEq]
              exact ⟨fun d h => by subst h; exact ⟨_, u, b0, rfl, q1, r1⟩, fun h => by cases h⟩
            · simp only [z, decide_false]
              exact ih
/-! ### d[k] -/
def ixD2 : D → D → M R
  | .dk ks ds, y => match keyD y with
    | some k => .of ((lookK ks ds k).map .dt)
    | none => .fail
  | .dn ks ds, y => match keyN y with
    | some k => .of ((lookN ks ds k).map .dt)
    | none => .fail
  | _, _ => .fail
def rIxDk (dx : Dx) : R2 := fun x y H Q => ∃ a kvs k v, x = .ref a ∧ y = kV k ∧ DkAt dx H a kvs ∧ valV kvs k = some v ∧ Q v H
theorem ix_dk (so : SdOk Z.prog Z.w Z.K dx) : IxR Z (rIxDk dx) := by
  intro value slice pins s σ H x y v u Q I rx ry h hs
  obtain ⟨a, kvs, k, z, rfl, rfl, hd, hv, q⟩ := h
  cases rx
  obtain ⟨h1, vs, rel, dd⟩ := dkAt_rd so I hd
  obtain ⟨w', hw, rw'⟩ := RelO.some_of (v := z) (o := valueAt vs k) (by rw [← hv]; exact rel.val k)
  exact tail_any dd.typeIs slot_dict_getitem.lookup (wpAny_getItem_of (kV_is ry) dd.mapOf hw ⟨z, H, I.tok _, rw', q⟩) hs
theorem keyN_at {y : V} {u : Value} {kd : D} {k : NestedKey} (I : Inv Z pins σ H s) (hK : Z.K = g.K) (r : Rp g H y kd) (ry : RelV y u) (h : keyN kd = some k) : ∃ b, y = .ref b ∧ u = .ref b ∧ (nestedKind Z.prog Z.w).is s.heap k b := by
  cases r with
  | tup h1 h2 =>
    rename_i a vs ds
    dsimp only [keyN] at h
    cases e : D.nk (.tup ds) with
    | none => rw [e] at h; cases h
    | some k' =>
      rw [e] at h
      dsimp only at h
      split at h
      · rename_i hd
        cases h
        cases ry
        exact ⟨a, rfl, rfl, Rp.nested I hK (.tup ds) (.tup h1 h2) rfl e, hd⟩
      · cases h
  | _ => cases h
theorem lookN_mem {xs : List (NestedKey × Addr)} {vs : List V} {us : List Value} {k : NestedKey} {u : Value} {b : Addr} (h : atKey (ysOf xs us) k = some (b, u)) : u ∈ us := by
  unfold atKey ysOf at h
  obtain ⟨p, hp, e⟩ := Option.map_eq_some_iff.mp h
  obtain ⟨q, hq, rfl⟩ := List.mem_map.mp (List.mem_of_find?_eq_some hp)
  cases e
  exact (List.of_mem_zip hq).2
end
section
variable {Z : Cx} {g : Cf}
def rIxDn2 (g : Cf) : R2 := fun x y H Q => ∃ (Hv : Hp) (a : Addr) (xs : List (NestedKey × Addr)) (vs : List V) (ks ds : List D) (kd : D) (k : NestedKey) (d : D), x = .ref a ∧ DnAt g.dx H xs vs a ∧ ks.map D.nk = xs.map (fun p => some p.1) ∧ RpA g H (xs.map fun p => V.ref p.2) ks ∧ RpA g Hv vs ds ∧
  Rp g H y kd ∧ keyN kd = some k ∧ lookN ks ds k = some d ∧ ∀ v, Rp g Hv v d → Q v H
theorem ix_dn (so : SdOk Z.prog Z.w Z.K g.dx) (hu : Z.A.units + 65 < cLine) (hK : Z.K = g.K) : IxR Z (rIxDn2 g) := by
  intro value slice pins s σ H x y v u Q I rx ry h hs
  obtain ⟨Hv, a, xs, vs, ks, ds, kd, k, d, rfl, h1, h2, h3, h4, h5, h6, h7, q⟩ := h
  cases rx
  obtain ⟨b, rfl, rfl, hk⟩ := keyN_at I hK h5 ry h6
  obtain ⟨hd, us, hv, hl, dd⟩ := dn_rd so I hK h1 h3 h2
  obtain ⟨w', u', b', e1, e2, e3⟩ := (lookN_v (k := k) hv hl h2 h4).1 d h7
  refine tail_any dd.typeIs slot_dict_getitem.lookup (wpAny_getItem_heap (knd := nestedKind Z.prog Z.w) (by show Z.A.units + 1 + 8 < cLine; omega) hk dd e1 ⟨w', H, I.tok _, e2, q _ e3⟩) hs
def rIx2 (g : Cf) : R2 := fun x y H Q => rIxDk g.dx x y H Q ∨ rIxDn2 g x y H Q
theorem ix_D2 (so : SdOk Z.prog Z.w Z.K g.dx) (hu : Z.A.units + 65 < cLine) (hK : Z.K = g.K) : IxR Z (rIx2 g) := (ix_dk so).or (ix_dn so hu hK)
theorem Rp1.dk {T : List Addr} {H : Hp} {v : V} {ks : List Key} {ds : List D} (r : Rp1 g T H v (.dk ks ds)) : Rp g (off H T) v (.dk ks ds) := by
  cases r with
  | of r => exact r
theorem Rp1.dn {T : List Addr} {H : Hp} {v : V} {ks ds : List D} (r : Rp1 g T H v (.dn ks ds)) : Rp g (off H T) v (.dn ks ds) := by
  cases r with
  | of r => exact r
theorem DkAt.on {dx : Dx} {H : Hp} {T : List Addr} {a : Addr} {kvs : List (Key × V)} (h : DkAt dx (off H T) a kvs) : DkAt dx H a kvs := h.imp (fun ⟨o, e⟩ => ⟨o, off_same H T _ _ e⟩) id
theorem DnAt.on {dx : Dx} {H : Hp} {T : List Addr} {a : Addr} {xs : List (NestedKey × Addr)} {vs : List V} (h : DnAt dx (off H T) xs vs a) : DnAt dx H xs vs a := let ⟨o, e⟩ := h; ⟨o, off_same H T _ _ e⟩
theorem pr_ix2 : Pr2 g (rIx2 g) ixD2 := fun T H v1 v2 d1 d2 Q f r1 r2 _ w => by
  cases d1 <;> first | exact w.elim | skip
  · rename_i ks ds
    dsimp only [ixD2] at w
    cases ek : keyD d2 with
    | none => rw [ek] at w; exact w.elim
    | some k =>
      rw [ek] at w
      dsimp only at w
      cases el : lookK ks ds k with
      | none => rw [el] at w; exact w.elim
      | some d =>
        rw [el] at w
        cases r1.dk with
        | dk h1 h2 h3 =>
          subst h2
          obtain ⟨v, hv, rv⟩ := lookK_v h3 el
          exact .inl ⟨_, _, k, v, rfl, keyD_v r2.on ek, h1.on, hv, w _ H f.refl rv⟩
  · rename_i ks ds
    dsimp only [ixD2] at w
    cases ek : keyN d2 with
    | none => rw [ek] at w; exact w.elim
    | some k =>
      rw [ek] at w
      dsimp only at w
      cases el : lookN ks ds k with
      | none => rw [el] at w; exact w.elim
      | some d =>
        rw [el] at w
        cases r1.dn with
        | dn h1 h2 h3 h4 =>
          exact .inr ⟨off H T, _, _, _, ks, ds, d2, k, d, rfl, h1.on, h2, RpA.mono (off_same H T) _ h3, h4, r2.on, ek, el, fun v rv => w v H f.refl rv⟩
end
end G
namespace G
open PySem PySem.Spec L2
open PyProof.Rows hiding St
/-! ### comprehensions of two -/
/-- no slot holds L as the frame's own -/
def CFree (L : Addr) (Γ : List Sl) (σ : St) : Prop := ∀ (j : Nat) (o : O), Γ[j]? = some (.c o) → σ[j]? ≠ some (some (.ref L))
theorem CFree.set_no {L : Addr} {Γ : List Sl} {σ : St} {i : Nat} {s : Sl} {x : Option V} (hs : ∀ o, s ≠ .c o) (h : CFree L Γ σ) : CFree L (Γ.set i s) (σ.set i x) := fun j o e => by
  by_cases q : i = j
  · subst q
    have hi : i < Γ.length := by
      have := (List.getElem?_eq_some_iff.mp e).1
      simpa using this
    rw [List.getElem?_set_self hi] at e
    exact absurd (Option.some.inj e) (hs o)
  · rw [List.getElem?_set_ne q] at e ⊢
    exact h j o e
theorem CFree.wipe {L : Addr} {Γ : List Sl} {σ : St} (h : CFree L Γ σ) : ∀ vs : List Nat, CFree L (wipeG Γ vs) (L2.wipe σ vs)
  | [] => h
  | v :: vs => (h.wipe vs).set_no fun _ z => by cases z
theorem CFree.setAll {L : Addr} : ∀ {as : List (Nat × D)} {ws : List (Nat × V)} {Γ : List Sl} {σ : St}, ws.map Prod.fst = as.map Prod.fst → CFree L Γ σ → CFree L (setG Γ as) (setS σ ws)
  | [], [], _, _, _, h => h
  | [], _ :: _, _, _, e, _ => by simp at e
  | _ :: _, [], _, _, e, _ => by simp at e
  | (i, d) :: as, (j, v) :: ws, Γ, σ, e, h => by
    simp only [List.map_cons, List.cons.injEq] at e
    obtain ⟨rfl, e⟩ := e
    exact CFree.setAll (Γ := Γ.set j (.v d)) (σ := σ.set j (some v)) e (h.set_no fun _ z => by cases z)
section
variable {Z : Cx} {g : Cf} {W : XK} {T : List Addr} {He : Hp}
/-- one more item in the list at L -/
theorem acc_put {S : List Addr} {H1 H5 : Hp} {Γ : List Sl} {σ : St} {L : Addr} {vacc vs' : List V} (nfd : ¬ g.fd.mv L) (nl : ∀ p l, g.fd.f = some (p, l) → l ≠ L) (hD1 : H1 L = none) (cf : CFree L Γ σ) (e : Ext g.fd H1 H5) (l5 : Rl g T He (L :: S) H5 Γ σ) (hD5 : H5 L = some (.lst vacc)) :
    Ext g.fd H1 (upd H5 L (.lst vs')) ∧ Rl g T He (L :: S) (upd H5 L (.lst vs')) Γ σ ∧ off (upd H5 L (.lst vs')) (T ++ (L :: S)) = off H5 (T ++ (L :: S)) := by
  have mem : L ∈ T ++ (L :: S) := List.mem_append_right _ List.mem_cons_self
  refine ⟨⟨fun b o n hb => ?_, e.2.put nfd nl (noCode hD5 fun f z => by cases z)⟩, ?_, off_upd mem⟩
  · have nb : b ≠ L := fun z => by rw [z, hD1] at hb; cases hb
    rw [upd_ne nb]
    exact e.1 b o n hb
  · refine ⟨l5.len, fun j s h => ?_, l5.ne, fun b hb => ?_, l5.nw, l5.ft, l5.tt, ?_, l5.s0⟩
    · have q := l5.sl j s h
      cases s with
      | no => trivial
      | v e => obtain ⟨v, q1, q2⟩ := q; exact ⟨v, q1, by rw [off_upd mem]; exact q2⟩
      | c o' =>
        obtain ⟨a, q1, q2, q3⟩ := q
        have na : a ≠ L := fun z => by
          refine cf j o' h ?_
          rw [← z]
          cases e2 : σ[j]? with
          | none => rw [e2] at q1; cases q1
          | some x => rw [e2] at q1; simp only [Option.join_some] at q1; rw [q1]
        exact ⟨a, q1, q2, q3.mono (fun o h => by rw [upd_ne na]; exact h) (by rw [off_upd mem]; exact Same.refl _)⟩
    · by_cases z : b = L
      · rw [z]; exact ⟨_, upd_same, fun c q z => by cases z⟩
      · obtain ⟨u, q, n⟩ := l5.tk b hb
        exact ⟨u, by rw [upd_ne z]; exact q, n⟩
    · refine ⟨fun b o n hb => ?_, e.2.put nfd nl (noCode hD5 fun f z => by cases z)⟩
      have nb : b ≠ L := fun z => by
        rw [z, l5.nw L List.mem_cons_self] at hb; cases hb
      rw [upd_ne nb]
      exact l5.ex.1 b o n hb
/-- the inner walk fills the list at L -/
theorem mapC_in {tgt : Tg} {vs : List Nat} {tt : Se Bool} {te : Se X} (h0 : ∀ i ∈ vs, g.ok0 i) (hv : ∀ i ∈ tgt.slots, i ∈ vs) {S : List Addr} {L : Addr} {H1 H4 : Hp} {Γ : List Sl} {σ : St} {J : It} {ds : List D} {acc0 : List D} {vacc0 : List V} {Nx : Hp → Prop}
    (nD : L ∉ T) (nfd : ¬ g.fd.mv L) (nl : ∀ p l, g.fd.f = some (p, l) → l ≠ L) (hD1 : H1 L = none) (cf : CFree L Γ σ) (tm : ∀ p, g.fd.mv p → p ∈ T)
    (e14 : Ext g.fd H1 H4) (l : Rl g T He (L :: S) H4 Γ σ) (itc : ItOk g (okF (T ++ (L :: S)) H4) J ds) (hD : H4 L = some (.lst vacc0)) (hacc : RpA g (off H4 (T ++ (L :: S))) vacc0 acc0) (hlen : acc0.length + ds.length ≤ 10000000)
    (w : (mapC tgt vs tt te Γ ds).wp (xp g W T He) fun r => r.length ≤ ds.length → ∀ H5, Ext g.fd H1 H5 → Same (off H4 (T ++ (L :: S))) (off H5 (T ++ (L :: S))) → Rl g T He (L :: S) H5 Γ σ → (∃ vacc, H5 L = some (.lst vacc) ∧ RpA g (off H5 (T ++ (L :: S))) vacc (acc0 ++ r)) → Nx H5) :
    ∃ W1 : Nat → Nat → Hp → Prop, (∃ m, W1 0 m H4) ∧ ∀ j k H, W1 j k H → (J.stop j H ∧ Nx H) ∨ (J.go j H ∧ ∃ Nx1 : Hp → Prop, (∀ H', Nx1 H' → ∃ k', k' < k ∧ W1 (j + 1) k' H') ∧ ∀ x H', J.yld j H x H' → rdG g T He tgt x (wipe σ vs) H' fun σ3 H5 => wipe σ3 vs = wipe σ vs ∧
      rdT g XN T He tt σ3 H5 fun b H6 => if b = true then rdE g XN T He te σ3 H6 fun y H7 => ∃ acc, H7 L = some (.lst acc) ∧ acc.length < sizeLine ∧ Nx1 (upd H7 L (.lst (acc ++ [y]))) else Nx1 H6) := by
  have mem : L ∈ T ++ (L :: S) := List.mem_append_right _ List.mem_cons_self
  have ok : ∀ {H2 : Hp}, Same (off H4 (T ++ (L :: S))) (off H2 (T ++ (L :: S))) → Rl g T He (L :: S) H2 Γ σ → okF (T ++ (L :: S)) H4 H2 (T ++ (L :: S)) := fun {H2} e l2 => ⟨e, fun b hb => l2.tkTS hb⟩
  refine ⟨fun i m H2 => m = ds.length - i ∧ i ≤ ds.length ∧ Ext g.fd H1 H2 ∧ Same (off H4 (T ++ (L :: S))) (off H2 (T ++ (L :: S))) ∧ Rl g T He (L :: S) H2 Γ σ ∧ ∃ vacc acc pre, H2 L = some (.lst vacc) ∧ RpA g (off H2 (T ++ (L :: S))) vacc acc ∧ acc = acc0 ++ pre ∧ pre.length ≤ i ∧
      (mapC tgt vs tt te Γ (ds.drop i)).wp (xp g W T He) fun r => r.length ≤ (ds.drop i).length → ∀ H5, Ext g.fd H1 H5 → Same (off H4 (T ++ (L :: S))) (off H5 (T ++ (L :: S))) → Rl g T He (L :: S) H5 Γ σ → (∃ vacc, H5 L = some (.lst vacc) ∧ RpA g (off H5 (T ++ (L :: S))) vacc (acc ++ r)) → Nx H5,
    ⟨ds.length, by simp, Nat.zero_le _, e14, Same.refl _, l, vacc0, acc0, [], hD, hacc, by simp, by simp, by simpa using w⟩, ?_⟩
  rintro i m H2 ⟨rfl, hi, e2, s2, l2, vacc, acc, pre, hD2, hacc2, hpre, hpl, w2⟩
  by_cases hlt : i < ds.length
  · obtain ⟨d, hd⟩ : ∃ d, ds[i]? = some d := ⟨ds[i], by simp [hlt]⟩
    obtain ⟨g1, g2⟩ := itc.go H2 _ (ok s2 l2) i d hd
    refine .inr ⟨g1, fun H' => Ext g.fd H1 H' ∧ Same (off H4 (T ++ (L :: S))) (off H' (T ++ (L :: S))) ∧ Rl g T He (L :: S) H' Γ σ ∧ ∃ vacc acc pre, H' L = some (.lst vacc) ∧ RpA g (off H' (T ++ (L :: S))) vacc acc ∧ acc = acc0 ++ pre ∧ pre.length ≤ i + 1 ∧
      (mapC tgt vs tt te Γ (ds.drop (i + 1))).wp (xp g W T He) fun r => r.length ≤ (ds.drop (i + 1)).length → ∀ H5, Ext g.fd H1 H5 → Same (off H4 (T ++ (L :: S))) (off H5 (T ++ (L :: S))) → Rl g T He (L :: S) H5 Γ σ → (∃ vacc, H5 L = some (.lst vacc) ∧ RpA g (off H5 (T ++ (L :: S))) vacc (acc ++ r)) → Nx H5,
      fun H' h => ⟨ds.length - (i + 1), by omega, rfl, hlt, h⟩, fun x H3 y => ?_⟩
    obtain ⟨s3, r3⟩ := g2 x H3 y
    have e3 : Ext g.fd H2 H3 := l2.same s3
    have l3 := l2.mono e3
    have hdl : (ds.drop i).length = (ds.drop (i + 1)).length + 1 := by simp only [List.length_drop]; omega
    rw [List.drop_eq_getElem_cons hlt] at w2
    have ed : ds[i] = d := by rw [List.getElem?_eq_getElem hlt] at hd; exact Option.some.inj hd
    rw [ed] at w2
    simp only [mapC] at w2
    cases ha : tgt.asg d with
    | none => rw [ha] at w2; exact w2.elim
    | some as =>
      rw [ha] at w2
      simp only [M.wp_bind] at w2
      refine ⟨wipeG Γ vs, L :: S, d, as, l3.wipe vs h0, r3, ha, fun ws hws l4 => ⟨wipe_idem fun i hi => hv i (by rw [hws, Tg.asg_slots ha] at hi; exact hi), ?_⟩⟩
      refine ⟨_, L :: S, l4, M.cut_wp (M.wp_mono (fun b w3 H4' e4 => ?_) w2)⟩
      have keep : ∀ {Ha Hb : Hp} {o : HO}, Ext g.fd Ha Hb → Ha L = some o → Hb L = some o := fun e h => e.at tm nD h
      have t' : ∀ p, g.fd.mv p → p ∈ T ++ (L :: S) := fun p h => List.mem_append_left _ (tm p h)
      cases b with
      | false =>
        simp only [Bool.false_eq_true, ↓reduceIte] at w3 ⊢
        have e24 := e3.trans e4
        refine ⟨e2.trans e24, s2.trans (e24.off t'), l2.mono e24, vacc, acc, pre, keep e24 hD2, RpA.mono (e24.off t') _ hacc2, hpre, by omega, M.wp_mono (fun r q hr => q ?_) w3⟩
        simp only [List.length_cons, List.length_drop] at hr ⊢
        omega
      | true =>
        simp only [↓reduceIte, M.wp_bind] at w3 ⊢
        refine rdE.use (l4.mono e4) (M.cut_wp (M.wp_mono (fun x w4 y H5 e5 l5 x5 => ?_) w3))
        have e25 := (e3.trans e4).trans e5
        split at w4
        · exact w4.elim
        rename_i htn
        have ry := x5.toD' (by simpa using htn)
        have hD5 := keep e25 hD2
        have hacc5 := RpA.mono (e25.off t') _ hacc2
        obtain ⟨p1, p2, p3⟩ := acc_put (vs' := vacc ++ [y]) nfd nl hD1 cf (e2.trans e25) (l2.mono e25) hD5
        refine ⟨vacc, hD5, ?_, p1, by rw [p3]; exact s2.trans (e25.off t'), p2, vacc ++ [y], acc ++ [x.toD], pre ++ [x.toD], upd_same, by rw [p3]; exact hacc5.append (.cons ry .nil), by rw [hpre, List.append_assoc], by rw [List.length_append]; show pre.length + 1 ≤ i + 1; omega, ?_⟩
        · rw [hacc2.length, hpre, List.length_append]
          have : (10000000 : Nat) < sizeLine := by decide
          omega
        · simp only [M.wp_bind, M.wp_ret] at w4
          refine M.wp_mono (fun r q hr H5 a1 a2 a3 a4 => q (by simp only [List.length_cons, List.length_drop] at hr ⊢; omega) H5 a1 a2 a3 ?_) w4
          obtain ⟨v5, b1, b2⟩ := a4
          rw [List.append_assoc] at b2
          exact ⟨v5, b1, b2⟩
  · have e : i = ds.length := by omega
    subst e
    refine .inl ⟨itc.stop H2 _ (ok s2 l2), ?_⟩
    rw [List.drop_length] at w2
    simp only [mapC, M.wp_ret, List.append_nil] at w2
    exact w2 (by simp) H2 e2 s2 l2 ⟨vacc, hD2, hacc2⟩
end
end G
namespace G
open PySem PySem.Spec L2
open PyProof.Rows hiding St
def mapC2 (tgt : Tg) (vs : List Nat) (tt : Se Bool) (fi1 : Se (Bool × List D)) (tgt1 : Tg) (vs1 : List Nat) (tt1 : Se Bool) (te : Se X) (Γ : List Sl) : List D → M (List D)
  | [] => .ret []
  | d :: ds => match tgt.asg d with
    | none => .fail
    | some as => (tt (setG (wipeG Γ vs) as)).cut.bind fun b => if b then (fi1 (setG (wipeG Γ vs) as)).cut.bind fun p => if p.1 = false ∧ p.2.length ≤ 1000 then (mapC tgt1 vs1 tt1 te (setG (wipeG Γ vs) as) p.2).bind fun r1 =>
        (mapC2 tgt vs tt fi1 tgt1 vs1 tt1 te Γ ds).bind fun r => .ret (r1 ++ r) else .fail
        else mapC2 tgt vs tt fi1 tgt1 vs1 tt1 te Γ ds
def sLc2 (fi : Se (Bool × List D)) (tgt : Tg) (vs : List Nat) (tt : Se Bool) (fi1 : Se (Bool × List D)) (tgt1 : Tg) (vs1 : List Nat) (tt1 : Se Bool) (te : Se X) : Se X := fun Γ => (fi Γ).bind fun p => if p.2.length ≤ 1000 then (mapC2 tgt vs tt fi1 tgt1 vs1 tt1 te Γ p.2).bind fun r => .ret (.c (.l r)) else .fail
section
variable {Z : Cx} {g : Cf} {W : XK} {T : List Addr} {He : Hp} {pos : Pos} {tg tg1 : Expr}
theorem rdLc2 {fi fi1 : Se (Bool × List D)} {tgt tgt1 : Tg} {vs vs1 : List Nat} {tt tt1 : Se Bool} {te : Se X} {σ : St} {H : Hp} {Q : VK} (h0 : ∀ i ∈ vs, g.ok0 i) (hv : ∀ i ∈ tgt.slots, i ∈ vs) (h01 : ∀ i ∈ vs1, g.ok0 i) (hv1 : ∀ i ∈ tgt1.slots, i ∈ vs1)
    (h : rdE g W T He (sLc2 fi tgt vs tt fi1 tgt1 vs1 tt1 te) σ H Q) : tLc2 (rdI g W T He fi) (rdG g T He tgt) (rdT g XN T He tt) (rdI g XN T He fi1) (rdG g T He tgt1) (rdT g XN T He tt1) (rdE g XN T He te) vs vs1 σ H Q := by
  obtain ⟨Γ, S, rl, w⟩ := h
  simp only [sLc2, M.wp_bind] at w
  refine ⟨Γ, S, rl, M.wp_mono (fun p w J H1 e1 itc _ L hD => ?_) w⟩
  split at w
  rotate_left
  · exact w.elim
  rename_i hz
  simp only [M.wp_bind, M.wp_ret] at w
  have l1 := rl.mono e1
  have nTS : L ∉ T ++ S := l1.freeTS hD
  have nfd : ¬ g.fd.mv L := fun h => nTS (List.mem_append_left _ (l1.t L h))
  have nl : ∀ p l, g.fd.f = some (p, l) → l ≠ L := fun p l hp z => (l1.feed hp).tkl (by rw [z]; exact hD)
  have nD : L ∉ T := fun z => nTS (List.mem_append_left _ z)
  have cf : CFree L Γ σ := fun j o hj hs => by
    obtain ⟨a, q1, q2, _⟩ := l1.sl j _ hj
    rw [hs] at q1
    cases q1
    exact nTS (List.mem_append_right _ q2)
  have ok : ∀ {H2 : Hp}, Ext g.fd H1 H2 → H2 L ≠ none → okC g T S H1 H2 (T ++ (L :: S)) := fun {H2} e hd => ⟨e, (off_free hD).trans (e.off fun p h => List.mem_append_left _ (l1.t p h)), fun b hb => by
    rcases List.mem_append.mp hb with z | z
    · exact (l1.mono e).tkT z
    · rcases List.mem_cons.mp z with rfl | z
      · exact hd
      · exact ((l1.mono e).tk b z).ne⟩
  refine ⟨fun i m H2 => m = p.2.length - i ∧ i ≤ p.2.length ∧ Ext g.fd H1 H2 ∧ Rl g T He (L :: S) H2 Γ σ ∧ ∃ vacc acc, H2 L = some (.lst vacc) ∧ RpA g (off H2 (T ++ (L :: S))) vacc acc ∧ acc.length ≤ 1000 * i ∧
      (mapC2 tgt vs tt fi1 tgt1 vs1 tt1 te Γ (p.2.drop i)).wp (xp g W T He) fun r => ∀ v H', Ext g.fd H H' → RpX g T S H H' v (.c (.l (acc ++ r))) → Q v H', ⟨p.2.length, by simp, Nat.zero_le _, l1.ext_new hD, l1.more hD _ (fun φ z => by cases z), [], [], upd_same, .nil, Nat.le_refl _, by simpa using w⟩, ?_⟩
  rintro i m H2 ⟨rfl, hi, e2, l2, vacc, acc, hD2, hacc, hlen, w2⟩
  by_cases hlt : i < p.2.length
  · obtain ⟨d, hd⟩ : ∃ d, p.2[i]? = some d := ⟨p.2[i], by simp [hlt]⟩
    obtain ⟨g1, g2⟩ := itc.go H2 _ (ok e2 (by rw [hD2]; intro z; cases z)) i d hd
    refine .inr ⟨g1, fun H' => Ext g.fd H1 H' ∧ Rl g T He (L :: S) H' Γ σ ∧ ∃ vacc acc, H' L = some (.lst vacc) ∧ RpA g (off H' (T ++ (L :: S))) vacc acc ∧ acc.length ≤ 1000 * (i + 1) ∧
      (mapC2 tgt vs tt fi1 tgt1 vs1 tt1 te Γ (p.2.drop (i + 1))).wp (xp g W T He) fun r => ∀ v H', Ext g.fd H H' → RpX g T S H H' v (.c (.l (acc ++ r))) → Q v H', fun H' h => ⟨p.2.length - (i + 1), by omega, rfl, hlt, h⟩, fun x H3 y => ?_⟩
    obtain ⟨s3, r3⟩ := g2 x H3 y
    have e3 : Ext g.fd H2 H3 := l2.same s3
    have l3 := l2.mono e3
    rw [List.drop_eq_getElem_cons hlt] at w2
    have ed : p.2[i] = d := by rw [List.getElem?_eq_getElem hlt] at hd; exact Option.some.inj hd
    rw [ed] at w2
    simp only [mapC2] at w2
    cases ha : tgt.asg d with
    | none => rw [ha] at w2; exact w2.elim
    | some as =>
      rw [ha] at w2
      simp only [M.wp_bind] at w2
      refine ⟨wipeG Γ vs, L :: S, d, as, l3.wipe vs h0, r3, ha, fun ws hws l4 => ⟨wipe_idem fun i hi => hv i (by rw [hws, Tg.asg_slots ha] at hi; exact hi), ?_⟩⟩
      have cf2 : CFree L (setG (wipeG Γ vs) as) (setS (L2.wipe σ vs) ws) := CFree.setAll hws (cf.wipe vs)
      refine ⟨_, L :: S, l4, M.cut_wp (M.wp_mono (fun b w3 H4 e4 => ?_) w2)⟩
      have keep : ∀ {Ha Hb : Hp} {o : HO}, Ext g.fd Ha Hb → Ha L = some o → Hb L = some o := fun e h => e.at l1.t nD h
      have t' : ∀ p, g.fd.mv p → p ∈ T ++ (L :: S) := fun p h => List.mem_append_left _ (l1.t p h)
      cases b with
      | false =>
        simp only [Bool.false_eq_true, ↓reduceIte] at w3 ⊢
        have e24 := e3.trans e4
        exact ⟨e2.trans e24, l2.mono e24, vacc, acc, keep e24 hD2, RpA.mono (e24.off t') _ hacc, by omega, w3⟩
      | true =>
        simp only [↓reduceIte, M.wp_bind] at w3 ⊢
        refine ⟨_, L :: S, l4.mono e4, M.cut_wp (M.wp_mono (fun q w4 J1 H5 e5 _ itf => ?_) w3)⟩
        split at w4
        rotate_left
        · exact w4.elim
        rename_i hq
        have e25 := (e3.trans e4).trans e5
        have l5 := (l4.mono e4).mono e5
        have l25 := l2.mono e25
        simp only [M.wp_bind, M.wp_ret] at w4
        refine mapC_in h01 hv1 nD nfd nl hD cf2 l1.t (e2.trans e25) l5 (itf hq.1) (keep e25 hD2) (RpA.mono (e25.off t') _ hacc) (by have := hq.2; omega) (M.wp_mono (fun r1 w5 hr H6 x1 x2 x3 x4 => ?_) w4)
        obtain ⟨v6, y1, y2⟩ := x4
        have l6 : Rl g T He (L :: S) H6 Γ σ := by
          refine ⟨l25.len, fun j s h => ?_, l25.ne, x3.tk, x3.nw, x3.ft, x3.tt, x3.ex, l25.s0⟩
          have q := l1.sl j s h
          cases s with
          | no => trivial
          | v e =>
            obtain ⟨v, z1, z2⟩ := l25.sl j _ h
            exact ⟨v, z1, z2.mono x2⟩
          | c o' =>
            obtain ⟨a, z1, z2, z3⟩ := q
            have na : a ≠ L := fun z => nTS (List.mem_append_right _ (z ▸ z2))
            refine ⟨a, z1, List.mem_cons_of_mem _ z2, ?_⟩
            have sm : Same (off H1 (T ++ S)) (off H6 (T ++ (L :: S))) := (off_free hD).trans (x1.off fun p h => List.mem_append_left _ (l1.t p h))
            exact z3.mono (fun o h => x1.at l1.t (l1.nT z2) h) sm
        refine ⟨x1, l6, v6, acc ++ r1, y1, y2, by rw [List.length_append]; have := hq.2; omega, M.wp_mono (fun r w6 v H' e h => w6 v H' e ?_) w5⟩
        rw [List.append_assoc] at h
        exact h
  · have e : i = p.2.length := by omega
    subst e
    refine .inl ⟨itc.stop H2 _ (ok e2 (by rw [hD2]; intro z; cases z)), ?_⟩
    rw [List.drop_length] at w2
    simp only [mapC2, M.wp_ret, List.append_nil] at w2
    refine w2 _ H2 (e1.trans e2) ⟨L, rfl, e1.free hD nfd, nTS, vacc, hD2, RpA.mono (off_sub fun b hb => mem_mid.mp hb) _ hacc⟩
theorem ev_lc2 {elt iter iter1 : Expr} {ifs ifs1 : List Expr} {scope : Scope} {own : List (Str × Nat)} {vs1 : List Nat} {fi fi1 : Se (Bool × List D)} {tgt tgt1 : Tg} {tt tt1 : Se Bool} {te : Se X} (hc : Z.calm = true) (hN : Z.N.Nodup) (hi : EI Z g W T He tg iter fi) (ok : BlkOk Z.N Z.env.scope scope own) (hvs : ∀ i ∈ vs1, i ∈ own.map (·.2)) (h0 : ∀ i ∈ own.map (·.2), g.ok0 i) (hv : ∀ i ∈ tgt.slots, i ∈ own.map (·.2)) (hv1 : ∀ i ∈ tgt1.slots, i ∈ vs1)
    (hg : ∀ (s : Shared) (H : Hp) (C : Addr) (cl : List (Str × Addr)) (fp : List Addr), EG (Z.blk s H scope (compEnvC scope cl C Z.env) fp) g T He tg tgt) (ht : ∀ (s : Shared) (H : Hp) (C : Addr) (cl : List (Str × Addr)) (fp : List Addr), PTs (Z.blk s H scope (compEnvC scope cl C Z.env) fp) ifs (rdT g XN T He tt))
    (hi1 : ∀ (s : Shared) (H : Hp) (C : Addr) (cl : List (Str × Addr)) (fp : List Addr), EI (Z.blk s H scope (compEnvC scope cl C Z.env) fp) g XN T He tg1 iter1 fi1)
    (hg1 : ∀ (s : Shared) (H : Hp) (C : Addr) (cl : List (Str × Addr)) (fp : List Addr), EG (Z.blk s H scope (compEnvC scope cl C Z.env) fp) g T He tg1 tgt1) (ht1 : ∀ (s : Shared) (H : Hp) (C : Addr) (cl : List (Str × Addr)) (fp : List Addr), PTs (Z.blk s H scope (compEnvC scope cl C Z.env) fp) ifs1 (rdT g XN T He tt1))
    (he : ∀ (s : Shared) (H : Hp) (C : Addr) (cl : List (Str × Addr)) (fp : List Addr), EV (Z.blk s H scope (compEnvC scope cl C Z.env) fp) g XN T He elt te) (hs : ∀ x, foldedSetIterable iter Z.env x = pure x := by intro _; rfl) (hs1 : ∀ env x, foldedSetIterable iter1 env x = pure x := by intro _ _; rfl) :
    EV Z g W T He (.ListComp elt [⟨tg, iter, ifs, 0⟩, ⟨tg1, iter1, ifs1, 0⟩] scope pos) (sLc2 fi tgt (own.map (·.2)) tt fi1 tgt1 vs1 tt1 te) :=
  pe_w (pe_lc2 hc hN hi ok hvs hg ht hi1 hg1 ht1 he hs hs1) fun _ _ _ h => rdLc2 h0 hv (fun i hi => h0 i (hvs i hi)) hv1 h
/-- a fail: what is never reached -/
theorem ev_fail {e : Expr} : EV Z g W T He e (fun _ => .fail) := ⟨fun _ _ _ _ _ _ ⟨_, _, _, w⟩ => w.elim⟩
end
end G
namespace G
open PySem PySem.Spec L2
open PyProof.Rows hiding St
/-! ### the keys of a dict that stays as it is -/
def FxD (K : PySem.W.Frag) (H : Hp) (a : Addr) (o : Obj) : Prop := (∃ u, H a = some (.frz o u)) ∨ K.lookup a = some o
def Itw (K : PySem.W.Frag) (a : Addr) (o : Obj) (us : List V) : It :=
  ⟨fun i H => FxD K H a o ∧ i < us.length, fun i H x H' => H' = H ∧ us[i]? = some x, fun i H => FxD K H a o ∧ us.length ≤ i⟩
section
variable {X : Cx} {pins : List (Addr × Obj)} {σ : St} {H : Hp} {s : Shared} {a : Addr} {o : Obj}
theorem FxD.get (I : Inv X pins σ H s) (h : FxD X.K H a o) : s.heap.get? a = some o := by
  rcases h with ⟨u, h⟩ | h
  · exact (show ObjOk X.prog X.w H s.heap a (.frz o u) from I.hok a _ h).1
  · exact I.kIn _ _ h
theorem turn_raw {P : Program} {w : World} {K : PySem.W.Frag} {tg : Expr} {es : Array DictEntry} {ep : Nat} {us : List V} (it : Addr) (hod : o.data = .dict es ep) (hsz : es.size = us.length) (hes : ∀ (i : Nat) (u : V), us[i]? = some u → ∃ en, es[i]? = some en ∧ RelV u en.key) :
    Turn P w K tg (Itw K a o us) [it] it (fun i h => h.IsKeyIter it a i us.length ep) where
  mem := by simp
  obj := fun i h st b hb => by
    have e : b = it := by simpa using hb
    subst e
    obtain ⟨oi, e, c, dd⟩ := st
    exact ⟨oi, e, fun v z => by rw [dd] at z; cases z⟩
  keep := fun i h h' st k => st.at fun oi e => k it (by simp) oi e
  item := by
    intro X hP hw hK hc i pins s σ H E I hf st hg
    subst hP hw hK
    obtain ⟨hd, hi⟩ := hg
    obtain ⟨f0, f1, f2, f3, f4, f5⟩ := hf it (by simp)
    have hgd := hd.get I
    obtain ⟨u, hu⟩ : ∃ u, us[i]? = some u := ⟨us[i], List.getElem?_eq_getElem hi⟩
    obtain ⟨en, hen, hkey⟩ := hes i u hu
    refine next_key_item st hgd hod hsz hen fun h' st' sb => ?_
    have I1 : Inv X pins σ H { s with heap := h' } := I.turned (t' := s.toks) (fun b ob hb e => (sb.2 b hb).trans e) f0 f1 f3 f4 f5
    obtain ⟨oi, e, c, dd⟩ := id st'
    exact ⟨en.key, rfl, go_of (s := { s with heap := h' }) e c dd (by decide) ⟨u, H, I1, hkey, ⟨rfl, hu⟩, st', fun b hb => (hf b hb).1⟩⟩
  done := by
    intro X hP hw hK hc i pins s σ H E I hf st hg
    subst hP hw hK
    obtain ⟨hd, hi⟩ := hg
    obtain ⟨f0, f1, f2, f3, f4, f5⟩ := hf it (by simp)
    exact next_key_end (I.ok.hd hc) st (hd.get I) hod hsz hi fun h' eb => ⟨rfl, I.turned (t' := s.toks) (fun b ob hb e => eb b ob hb e) f0 f1 f3 f4 f5⟩
  self := fun A i s Q E st h => wpAny_pyIter_keyiter st h
/-- what is known of such a dict -/
def DKeys (dx : Dx) (H : Hp) (a : Addr) (us : List V) : Prop := (∃ kvs, DkAt dx H a kvs ∧ us = kvs.map fun q => kV q.1) ∨ ∃ xs vs, DnAt dx H xs vs a ∧ us = xs.map fun p => V.ref p.2
theorem keys_of_pairs {P : Program} {w : World} : ∀ {es : List DictEntry} {kvs : List (Key × V)} {vs : List (Key × Value)}, KV kvs vs → Pairs (mixKind P w) es vs → es.length = kvs.length ∧ ∀ (i : Nat) (u : V), (kvs.map fun q => kV q.1)[i]? = some u → ∃ en, es[i]? = some en ∧ RelV u en.key
  | _, _, _, .nil, .nil => ⟨rfl, fun i u h => by simp at h⟩
  | _, _, _, .cons (a := q) (b := r) h t, .cons k1 k2 k3 => by
    obtain ⟨l, ih⟩ := keys_of_pairs t k3
    refine ⟨congrArg Nat.succ l, fun i u e => ?_⟩
    cases i with
    | zero =>
      simp only [List.map_cons, List.getElem?_cons_zero, Option.some.injEq] at e
      subst e
      exact ⟨_, rfl, relV_key (by rw [h.1]; exact k1)⟩
    | succ i => exact ih i u (by simpa using e)
theorem dkeys_raw {dx : Dx} {us : List V} (so : SdOk X.prog X.w X.K dx) (I : Inv X pins σ H s) (h : DKeys dx H a us) :
    ∃ o es ep, FxD X.K H a o ∧ (a == sysModules) = false ∧ o.ExactDict ∧ o.data = .dict es ep ∧ es.size = us.length ∧ ∀ (i : Nat) (u : V), us[i]? = some u → ∃ en, es[i]? = some en ∧ RelV u en.key := by
  rcases h with ⟨kvs, h, rfl⟩ | ⟨xs, vs, ⟨o, h⟩, rfl⟩
  · have key : ∀ {o : Obj} {vs : List (Key × Value)}, FxD X.K H a o → (a == sysModules) = false → KV kvs vs → s.heap.DictOf (mixKind X.prog X.w) a vs → ∃ o es ep, FxD X.K H a o ∧ (a == sysModules) = false ∧ o.ExactDict ∧ o.data = .dict es ep ∧ es.size = (kvs.map fun q => kV q.1).length ∧ ∀ (i : Nat) (u : V), (kvs.map fun q => kV q.1)[i]? = some u → ∃ en, es[i]? = some en ∧ RelV u en.key := fun {o vs} hf hs rel dd => by
      obtain ⟨o', es, ep, h1, h2, h3, _, h5, _⟩ := dd
      have e := hf.get I
      rw [h1] at e
      cases e
      obtain ⟨l, q⟩ := keys_of_pairs rel h5
      refine ⟨_, es, ep, hf, hs, h2, h3, by rw [List.length_map, ← l, Array.length_toList], fun i u e => ?_⟩
      obtain ⟨en, q1, q2⟩ := q i u e
      exact ⟨en, by simpa using q1, q2⟩
    rcases h with ⟨o, h⟩ | h
    · obtain ⟨_, hs, vs, rel, dd⟩ := dk_rd I.hok (.inr ⟨o, h⟩)
      exact key (.inl ⟨_, h⟩) hs rel dd
    · obtain ⟨hs, o, vs, h0, rel, dd⟩ := so.sd a kvs h
      exact key (.inr h0) hs rel (dd _ (I.kIn _ _ h0))
  · obtain ⟨hg, ⟨h1, o', es, ep, us, h2, h3, h4, h5, h6, h7, h8, h9⟩, _⟩ := (show ObjOk X.prog X.w H s.heap a (.frz o (DnO dx.hk xs vs a)) from I.hok a _ h)
    rw [hg] at h2
    cases h2
    have hl : es.toList.length = xs.length := by rw [h7, List.length_map, List.length_zip, h6, Nat.min_self]
    refine ⟨_, es, ep, .inl ⟨_, h⟩, h1, h3, h4, by rw [List.length_map, ← hl, Array.length_toList], fun i u e => ?_⟩
    rw [List.getElem?_map] at e
    cases q : xs[i]? with
    | none => rw [q] at e; cases e
    | some p =>
      rw [q] at e
      simp only [Option.map_some, Option.some.injEq] at e
      subst e
      have hi : i < xs.length := (List.getElem?_eq_some_iff.mp q).1
      obtain ⟨r, hr⟩ : ∃ r, us[i]? = some r := ⟨us[i]'(by omega), List.getElem?_eq_getElem (by omega)⟩
      have hz : (xs.zip us)[i]? = some (p, r) := by rw [List.getElem?_zip_eq_some]; exact ⟨q, hr⟩
      refine ⟨⟨dx.hk p.1, .ref p.2, r⟩, ?_, rfl⟩
      rw [← Array.getElem?_toList, h7, List.getElem?_map, hz]
      rfl
end
section
variable {Z : Cx} {g : Cf} {W : XK} {T : List Addr} {He : Hp} {a b c : Expr} {f1 f2 f3 : Se X} {fs : Se (List X)} {pos p2 : Pos} {tg : Expr}
def iKs (K : PySem.W.Frag) (dx : Dx) (td : TE) : TI := fun σ H R => td σ H fun x H1 => ∃ a us, x = .ref a ∧ DKeys dx H1 a us ∧ ∀ o, FxD K H1 a o → ((∃ u, H1 a = some (.frz o u)) → K.lookup a = none) → R (Itw K a o us) H1
theorem pi_ks {dx : Dx} {e : Expr} {td : TE} (so : SdOk Z.prog Z.w Z.K dx) (he : PE Z e td) : PI Z tg e (iKs Z.K dx td) := by
  refine ⟨fun pins s σ H R I h => ?_⟩
  refine thn (he.run pins s σ H _ I h) fun u s1 ⟨x, H1, I1, rx, d, us, ex, q, r⟩ => ?_
  subst ex
  obtain rfl : u = Value.ref d := rx
  obtain ⟨o, es, ep, hf, hs, hx, hdt, hsz, hes⟩ := dkeys_raw so I1 q
  refine iter_keys hs (hf.get I1) hx hdt (pi_one (tk := s1.toks) I1 _ (turn_raw _ hdt hsz hes) ⟨_, Heap.get?_push_size _ rfl, rfl, ?_⟩ (r o hf fun ⟨u, hu⟩ => by
    cases e : Z.K.lookup d with
    | none => rfl
    | some o' => rw [(I1.bs _ _ (I1.mod.kin _ _ e)).2] at hu; cases hu))
  rw [hsz] <;> rfl
theorem it_w {ok : Hp → List Addr → Prop} {ad : Addr} {o : Obj} {us : List V} {ds : List D} (h : ∀ H U, ok H U → FxD g.K H ad o ∧ RpA g (off H U) us ds) : ItOk g ok (Itw g.K ad o us) ds where
  go := fun H U q i d hd => by
    obtain ⟨h1, h2⟩ := h H U q
    obtain ⟨v, h3, h4⟩ := h2.get hd
    refine ⟨⟨h1, (List.getElem?_eq_some_iff.mp h3).1⟩, fun x H' y => ?_⟩
    obtain ⟨rfl, y⟩ := y
    rw [h3] at y; cases y
    exact ⟨Same.refl _, h4⟩
  stop := fun H U q => by
    obtain ⟨h1, h2⟩ := h H U q
    exact ⟨h1, by rw [h2.length]; exact Nat.le_refl _⟩
def kD : Key → D
  | .inl i => .int i
  | .inr x => .str x
def keysD : D → Option (List D)
  | .dk ks _ => if ks.all (fun k => match k with | .inr x => PyData.strOk x | _ => true) then some (ks.map kD) else none
  | .dn ks _ => some ks
  | _ => none
def sKs (f : Se X) : Se (Bool × List D) := fun Γ => (f Γ).bind fun x => if x.tn then .fail else match keysD x.toD with
  | some ks => .ret (false, ks)
  | none => .fail
theorem keys_rp {H : Hp} : ∀ {ks : List Key}, ks.all (fun k => match k with | .inr x => PyData.strOk x | _ => true) = true → RpA g H (ks.map kV) (ks.map kD)
  | [], _ => .nil
  | .inl i :: ks, h => by
    rw [List.all_cons, Bool.and_eq_true] at h
    exact .cons (.int i) (keys_rp h.2)
  | .inr x :: ks, h => by
    rw [List.all_cons, Bool.and_eq_true] at h
    exact .cons (.str x h.1) (keys_rp h.2)
theorem ei_ks {l : Expr} (hK : Z.K = g.K) (so : SdOk Z.prog Z.w Z.K g.dx) (hl : EV Z g W T He l f1) : EI Z g W T He tg l (sKs f1) :=
  pi_w (pi_ks so hl) fun σ H R ⟨Γ, S, rl, w⟩ => by
    simp only [sKs, M.wp_bind] at w
    refine rdE.use rl (M.wp_mono (fun x w v1 H1 e1 l1 x1 => ?_) w)
    split at w
    · exact w.elim
    rename_i htn
    have r := x1.toD' (by simpa using htn)
    have fin : ∀ {ad : Addr} {us : List V} {ds : List D}, DKeys g.dx (off H1 (T ++ S)) ad us → RpA g (off H1 (T ++ S)) us ds → (∀ (J : It) (H' : Hp), Ext g.fd H H' → ItOk g (okC g T S H') J ds → (false = false → ItOk g (okF (T ++ S) H') J ds) → R J H') → ∃ a us', V.ref ad = .ref a ∧ DKeys g.dx H1 a us' ∧ ∀ o, FxD Z.K H1 a o → ((∃ u, H1 a = some (.frz o u)) → Z.K.lookup a = none) → R (Itw Z.K a o us') H1 := fun {ad us ds} dk ra q => by
      have sm := off_same H1 (T ++ S)
      refine ⟨ad, us, rfl, ?_, fun o hf hn => ?_⟩
      · rcases dk with ⟨kvs, h, e⟩ | ⟨xs, vs, h, e⟩
        · exact .inl ⟨kvs, h.on, e⟩
        · exact .inr ⟨xs, vs, h.on, e⟩
      · have fx : FxD g.K (off H1 (T ++ S)) ad o := by
          rcases hf with ⟨u, hu⟩ | hk
          · left
            refine ⟨u, ?_⟩
            rcases dk with ⟨kvs, h | h, e⟩ | ⟨xs, vs, ⟨o', h⟩, e⟩
            · obtain ⟨o', h⟩ := h
              have := sm _ _ h
              rw [hu] at this
              cases this
              exact h
            · obtain ⟨_, o2, _, h0, _⟩ := so.sd _ _ h
              rw [hn ⟨u, hu⟩] at h0
              cases h0
            · have := sm _ _ h
              rw [hu] at this
              cases this
              exact h
          · exact .inr (hK ▸ hk)
        have base : ∀ {H2 : Hp} {U : List Addr}, Same (off H1 (T ++ S)) (off H2 U) → FxD g.K H2 ad o ∧ RpA g (off H2 U) us ds := fun {H2 U} e => ⟨fx.imp (fun ⟨u, h⟩ => ⟨u, off_same H2 U _ _ (e _ _ h)⟩) id, RpA.mono e _ ra⟩
        rw [hK]
        exact q _ H1 e1 (it_w fun H2 U z => base z.2.1) fun _ => it_w fun H2 U z => base z.1
    cases hd : x.toD with
    | dk ks ds =>
      rw [hd] at w r
      dsimp only [keysD] at w
      split at w
      · rename_i ks' hk
        split at hk
        · rename_i hall
          cases hk
          cases r with
          | dk h1 h2 h3 =>
            subst h2
            exact fin (.inl ⟨_, h1, rfl⟩) (by have := keys_rp (g := g) (H := off H1 (T ++ S)) hall; rw [List.map_map] at this; exact this) w
        · cases hk
      · exact w.elim
    | dn ks ds =>
      rw [hd] at w r
      dsimp only [keysD] at w
      cases r with
      | dn h1 h2 h3 h4 => exact fin (.inr ⟨_, _, h1, rfl⟩) h3 w
    | _ => rw [hd] at w; exact w.elim
end
end G
namespace G
open PySem PySem.Spec L2
open PyProof.Rows hiding St
/-! ### d[k]; y = [.. for .. for ..]; dict displays -/
section
variable {Z : Cx} {g B : Cf} {W : XK} {T : List Addr} {He : Hp} {a b c : Expr} {f1 f2 f3 : Se X} {fs : Se (List X)} {pos p2 : Pos}
theorem SameB.so {P : Program} {w : World} {K : PySem.W.Frag} (h : SameB g B) (so : SdOk P w K B.dx) : SdOk P w K g.dx := h.dx.symm ▸ so
theorem ev_ix2 (hK : Z.K = g.K) (so : SdOk Z.prog Z.w Z.K g.dx) (hu : Z.A.units + 65 < cLine) (ha : EV Z g W T He a f1) (hb : EV Z g W T He b f2) (hs : PlainIx b := by exact fun _ _ => rfl) : EV Z g W T He (.Subscript a b pos) (s2 ixD2 f1 f2) :=
  pe_w (pe_ix (ix_D2 so hu hK) ha hb hs) fun _ _ _ ⟨_, _, rl, w⟩ => rd2 pr_ix2 rl w
theorem es_setLc2 {keep : Bool} {i : Nat} {y : Str} {py : Pos} {tg tg1 : Expr} {elt iter iter1 : Expr} {ifs ifs1 : List Expr} {scope : Scope} {own : List (Str × Nat)} {vs1 : List Nat} {spos : Pos} {fi fi1 : Se (Bool × List D)} {tgt tgt1 : Tg} {tt tt1 : Se Bool} {te : Se X} (h0 : g.ok0 i) (hc : Z.calm = true) (hN : Z.N.Nodup) (hy : Z.N[i]? = some y) (hyl : Z.env.scope.names.lookup y = some .local)
    (hsw : swapsWith (.ListComp elt [⟨tg, iter, ifs, 0⟩, ⟨tg1, iter1, ifs1, 0⟩] scope pos) (some (.Name y py)) spos.line Z.env = pure true) (hi : EI Z g W T He tg iter fi) (ok : BlkOk Z.N Z.env.scope scope own) (hvs : ∀ i ∈ vs1, i ∈ own.map (·.2)) (h00 : ∀ i ∈ own.map (·.2), g.ok0 i) (hv : ∀ i ∈ tgt.slots, i ∈ own.map (·.2)) (hv1 : ∀ i ∈ tgt1.slots, i ∈ vs1)
    (hg : ∀ (s : Shared) (H : Hp) (C : Addr) (cl : List (Str × Addr)) (fp : List Addr), EG (Z.blk s H scope (compEnvC scope cl C Z.env) fp) g T He tg tgt) (ht : ∀ (s : Shared) (H : Hp) (C : Addr) (cl : List (Str × Addr)) (fp : List Addr), PTs (Z.blk s H scope (compEnvC scope cl C Z.env) fp) ifs (rdT g XN T He tt))
    (hi1 : ∀ (s : Shared) (H : Hp) (C : Addr) (cl : List (Str × Addr)) (fp : List Addr), EI (Z.blk s H scope (compEnvC scope cl C Z.env) fp) g XN T He tg1 iter1 fi1)
    (hg1 : ∀ (s : Shared) (H : Hp) (C : Addr) (cl : List (Str × Addr)) (fp : List Addr), EG (Z.blk s H scope (compEnvC scope cl C Z.env) fp) g T He tg1 tgt1) (ht1 : ∀ (s : Shared) (H : Hp) (C : Addr) (cl : List (Str × Addr)) (fp : List Addr), PTs (Z.blk s H scope (compEnvC scope cl C Z.env) fp) ifs1 (rdT g XN T He tt1))
    (he : ∀ (s : Shared) (H : Hp) (C : Addr) (cl : List (Str × Addr)) (fp : List Addr), EV (Z.blk s H scope (compEnvC scope cl C Z.env) fp) g XN T He elt te) (hs : ∀ x, foldedSetIterable iter Z.env x = pure x := by intro _; rfl) (hs1 : ∀ env x, foldedSetIterable iter1 env x = pure x := by intro _ _; rfl) :
    ES Z g W T He (.Assign [.Name y py] (.ListComp elt [⟨tg, iter, ifs, 0⟩, ⟨tg1, iter1, ifs1, 0⟩] scope pos) spos) (sAsg keep i (sLc2 fi tgt (own.map (·.2)) tt fi1 tgt1 vs1 tt1 te)) :=
  ps_w (ps_setLc2 hc hN hy hyl hsw hi ok hvs hg ht hi1 hg1 ht1 he hs hs1) fun D σ H ⟨Γ, S, rl, w⟩ => by
    simp only [sAsg, M.wp_bind] at w
    exact rdLc2 h00 hv (fun i hi => h00 i (hvs i hi)) hv1 (rdE.use rl (M.wp_mono (fun x w v H1 e1 l1 x1 => asgX_use h0 rl e1 x1 (M.wp_bind.mpr w)) w))
/-! a dict stays as it is from here on -/
def tFrz (t : TE) : TE := fun σ H Q => t σ H fun v H1 => ∃ p kvs, v = .ref p ∧ H1 p = some (.dK kvs) ∧ ∀ o, Q v (upd H1 p (.frz o (.dK kvs)))
theorem pe_frz {e : Expr} {t : TE} (h : PE Z e t) : PE Z e (tFrz t) := by
  refine ⟨fun pins s σ H Q I hw => ?_⟩
  refine thn (h.run pins s σ _ _ I hw) fun v s1 ⟨x, H1, I1, r, p, kvs, ex, hp, q⟩ => ?_
  obtain ⟨o, I2⟩ := I1.lock hp (by trivial)
  exact ⟨x, _, I2, r, q o⟩
def sVals : List (Se X) → Se (List D)
  | [] => fun _ => .ret []
  | f :: fs => fun Γ => (f Γ).bind fun x => if x.tn then .fail else (sVals fs Γ).bind fun ds => .ret (x.toD :: ds)
/-- {k: e, ..} with written keys -/
def sDk (kfs : List (Key × Se X)) : Se X := fun Γ => (sVals (kfs.map Prod.snd) Γ).bind fun ds => .ret (.p (.dk (kfs.map Prod.fst) ds))
theorem rdPairs : ∀ (kfs : List (Key × Se X)) {S : List Addr} {H : Hp} {Γ : List Sl} {σ : St} {Q : List (V × V) → Hp → Prop}, Rl g T He S H Γ σ →
    (sVals (kfs.map Prod.snd) Γ).wp (xp g W T He) (fun ds => ∀ vs H', Ext g.fd H H' → Rl g T He S H' Γ σ → RpA g (off H' (T ++ S)) vs ds → vs.length = kfs.length → Q (((kfs.map Prod.fst).zip vs).map fun q => (kV q.1, q.2)) H') →
    tPairs (kfs.map fun q => (tC (kV q.1), rdE g W T He q.2)) σ H Q
  | [], S, H, Γ, σ, Q, rl, w => w [] H rl.fok.refl rl .nil rfl
  | (k, f) :: kfs, S, H, Γ, σ, Q, rl, w => by
    simp only [List.map_cons, sVals, M.wp_bind] at w
    refine rdE.use rl (M.wp_mono (fun x w v H1 e1 l1 x1 => ?_) w)
    split at w
    · exact w.elim
    rename_i htn
    have r := x1.toD' (by simpa using htn)
    simp only [M.wp_bind, M.wp_ret] at w
    refine rdPairs kfs l1 (M.wp_mono (fun ds w vs H2 e2 l2 ra hl => ?_) w)
    have t' : ∀ p, g.fd.mv p → p ∈ T ++ S := fun p h => List.mem_append_left _ (rl.t p h)
    have := w (v :: vs) H2 (e1.trans e2) l2 (.cons (r.mono (e2.off t') _) ra) (by rw [List.length_cons, List.length_cons, hl])
    simpa using this
theorem mergeK_new : ∀ (more acc : List (Key × V)), ((acc ++ more).map Prod.fst).Nodup → mergeK acc more = acc ++ more
  | [], acc, _ => by rw [List.append_nil]; rfl
  | (k, v) :: more, acc, h => by
    have hk : putK acc k v = acc ++ [(k, v)] := by
      unfold putK
      rw [if_neg]
      intro z
      obtain ⟨q, hq, e⟩ := List.any_eq_true.mp z
      have e := of_decide_eq_true e
      rw [List.map_append, List.nodup_append] at h
      exact h.2.2 q.1 (List.mem_map_of_mem hq) q.1 (by rw [List.map_cons, e]; exact List.mem_cons_self) rfl
    show mergeK (putK acc k v) more = _
    rw [hk, mergeK_new more _ (by rw [List.append_assoc]; exact h), List.append_assoc]
    rfl
theorem ev_dd {kfs : List (Key × Se X)} {keys : List (Option Expr)} {values : List Expr} (h : PPs Z pos keys values (kfs.map fun q => (tC (kV q.1), rdE g W T He q.2))) (nd : (kfs.map Prod.fst).Nodup) (hn : kfs.length ≤ 15) (hall : keys.all (·.isSome) = true := by rfl) (hl : keys.length = values.length := by rfl) (h0 : keys ≠ [] := by simp)
    (h15 : keys.length ≤ 15 := by decide) : EV Z g W T He (.Dict keys values pos) (sDk kfs) :=
  pe_w (pe_frz (pe_disp h hall hl h0 h15)) fun σ H Q ⟨Γ, S, rl, w⟩ => fun p hp => by
    simp only [sDk, M.wp_bind, M.wp_ret] at w
    have nTS : p ∉ T ++ S := rl.freeTS hp
    have nfd : ¬ g.fd.mv p := fun h => nTS (List.mem_append_left _ (rl.t p h))
    have nl : ∀ q l, g.fd.f = some (q, l) → l ≠ p := fun q l hq z => (rl.feed hq).tkl (by rw [z]; exact hp)
    have l1 : Rl g T He (p :: S) (upd H p (.dK [])) Γ σ := rl.more hp _ fun φ z => by cases z
    refine rdPairs kfs l1 (M.wp_mono (fun ds w vs H2 e2 l2 ra hl => ?_) w)
    have hp2 : H2 p = some (.dK []) := e2.at rl.t (fun z => nTS (List.mem_append_left _ z)) upd_same
    have hf : ((kfs.map Prod.fst).zip vs).map Prod.fst = kfs.map Prod.fst := by rw [List.map_fst_zip]; rw [List.length_map, hl]; exact Nat.le_refl _
    have hs : ((kfs.map Prod.fst).zip vs).map Prod.snd = vs := by rw [List.map_snd_zip]; rw [List.length_map, hl]; exact Nat.le_refl _
    have mk : mergeK [] ((kfs.map Prod.fst).zip vs) = (kfs.map Prod.fst).zip vs := mergeK_new _ [] (by rw [List.nil_append, hf]; exact nd)
    refine ⟨hp2, (kfs.map Prod.fst).zip vs, rfl, by rw [List.length_zip, List.length_map, hl, Nat.min_self]; exact hn, p, mergeK [] ((kfs.map Prod.fst).zip vs), rfl, upd_same, fun o => ?_⟩
    rw [mk, upd_upd]
    refine w _ _ ⟨fun b ob n hb => ?_, e2.2.put nfd nl (noCode hp2 fun f z => by cases z)⟩ ?_
    · have nb : b ≠ p := fun z => by rw [z, hp] at hb; cases hb
      rw [upd_ne nb]
      exact e2.1 b ob n (by rw [upd_ne nb]; exact hb)
    · have here : off (upd H2 p (.frz o (.dK ((kfs.map Prod.fst).zip vs)))) (T ++ S) p = some (.frz o (.dK ((kfs.map Prod.fst).zip vs))) := by rw [off_ne nTS]; exact upd_same
      have sm : Same (off H2 (T ++ (p :: S))) (off (upd H2 p (.frz o (.dK ((kfs.map Prod.fst).zip vs)))) (T ++ S)) := fun b ob hb => by
        have nb : b ∉ T ++ (p :: S) := fun z => by rw [off_in z] at hb; cases hb
        rw [off_ne nb] at hb
        have nbp : b ≠ p := fun z => nb (by rw [z]; exact List.mem_append_right _ List.mem_cons_self)
        rw [off_ne fun z => nb ((List.mem_append.mp z).elim (fun q => List.mem_append_left _ q) fun q => List.mem_append_right _ (List.mem_cons_of_mem _ q)), upd_ne nbp]
        exact hb
      exact Rp.dk (.inl ⟨o, here⟩) hf (by rw [hs]; exact RpA.mono sm _ ra)
end
end G
namespace G
open PySem PySem.Spec L2
open PyProof.Rows hiding St
/-! ### {key: value for .. in ..}, whatever the keys are: a dict that is new at L, and what one turn stores in it -/
/-- one turn's store, read as rd -/
def StoreOk (X : Cx) (L : Addr) (kx vx : Expr) (rd : St → Hp → (Hp → Prop) → Prop) : Prop := ∀ (pins : List (Addr × Obj)) (st : Shared) (σ : St) (H : Hp) (Nx : Hp → Prop), Inv X pins σ H st → rd σ H Nx →
  wpAny (model X.prog X.w) X.A (eval kx X.env) (fun kv st1 => wpAny (model X.prog X.w) X.A (eval vx X.env) (fun vv st2 => wpAny (model X.prog X.w) X.A (dictSet L kv vv) (fun _ st3 => ∃ H', Inv X pins σ H' st3 ∧ Nx H') X.xe st2) X.xe st1) X.xe st
def tDcG (mk : Addr → HO) (wi : TI) (gt : TG) (tt : TT) (rd : Addr → St → Hp → (Hp → Prop) → Prop) (vs : List Nat) : TE := fun σ H Q => wi σ H fun J H1 => ∀ L, H1 L = none → ∃ Wd : Nat → Nat → Hp → Prop, (∃ m, Wd 0 m (upd H1 L (mk L))) ∧
  ∀ i m Hi, Wd i m Hi → (J.stop i Hi ∧ Q (.ref L) Hi) ∨ (J.go i Hi ∧ ∃ Nx : Hp → Prop, (∀ Hn, Nx Hn → ∃ m', m' < m ∧ Wd (i + 1) m' Hn) ∧
    ∀ x Hy, J.yld i Hi x Hy → gt x (wipe σ vs) Hy fun σ2 H2 => wipe σ2 vs = wipe σ vs ∧ tt σ2 H2 fun b H3 => if b = true then rd L σ2 H3 Nx else Nx H3)
section
variable {X : Cx}
theorem pe_dcG {kx vx tg iter : Expr} {ifs : List Expr} {scope : Scope} {own : List (Str × Nat)} {pos : Pos} {wi : TI} {gt : TG} {tt : TT} {mk : Addr → HO} {rd : Addr → St → Hp → (Hp → Prop) → Prop}
    (new : ∀ (H : Hp) (h : Heap), sysModules < h.objs.size → ObjOk X.prog X.w H (h.push { cls := .type "dict", data := .dict #[] }) h.objs.size (mk h.objs.size))
    (calm : X.calm = true) (nd : X.N.Nodup) (hi : PI X tg iter wi) (ok : BlkOk X.N X.env.scope scope own)
    (hg : ∀ (s : Shared) (H : Hp) (C : Addr) (cl : List (Str × Addr)) (fp : List Addr), PG (X.blk s H scope (compEnvC scope cl C X.env) fp) tg gt)
    (ht : ∀ (s : Shared) (H : Hp) (C : Addr) (cl : List (Str × Addr)) (fp : List Addr), PTs (X.blk s H scope (compEnvC scope cl C X.env) fp) ifs tt)
    (hst : ∀ (L : Addr) (s : Shared) (H : Hp) (C : Addr) (cl : List (Str × Addr)) (fp : List Addr), StoreOk (X.blk s H scope (compEnvC scope cl C X.env) fp) L kx vx (rd L))
    (hfold : ∀ x, foldedSetIterable iter X.env x = pure x := by intro _; rfl) : PE X (.DictComp kx vx [⟨tg, iter, ifs, 0⟩] scope pos) (tDcG mk wi gt tt rd (own.map (·.2))) := by
  refine ⟨fun pins st σ H Q I want => ?_⟩
  rw [arm_eval_DictComp]
  -- the block's closed names
  have closed : ∀ y ∈ scope.names, y.2 = .free → ∃ c, X.env.cells.lookup y.1 = some c := fun y hy e => (ok.free y hy e).elim (fun k => I.ok.has _ (.inl k)) fun k => I.ok.has _ (.inr k)
  refine wpAny_comprehension_free (use := none) rfl hfold (closure_ok closed) ok.kind (fun y hy e => by rw [ok.uniq y hy, e]) (thn (hi.run pins st σ H _ I want) fun xv sA hA => thn hA fun itv sB hB => ?_)
  obtain ⟨it, fp, tn, J, HB, e, IB, T, tB, fpB, q⟩ := hB
  subst e
  refine wpAny_newObj_type (newEnv_comp ?_)
  obtain ⟨L, hL⟩ : ∃ L, L = sB.heap.objs.size := ⟨_, rfl⟩
  have freeL : HB L = none := IB.hok.fresh (Nat.le_of_eq hL.symm)
  obtain ⟨Wd, ⟨m0, start⟩, turn⟩ := q L freeL
  -- the new dict
  obtain ⟨sC, hC⟩ : ∃ sC : Shared, sC = { sB with heap := sB.heap.push { cls := .type "dict", data := .dict #[] } } := ⟨_, rfl⟩
  obtain ⟨HC, hHC⟩ : ∃ HC, HC = upd HB L (mk L) := ⟨_, rfl⟩
  rw [← hHC] at start
  have IC : Inv X pins σ HC sC := by
    rw [hC, hHC, hL]
    exact IB.laid (t' := sB.toks) (fun b o z => Heap.get?_push_of_some _ z) (Nat.le_refl _) (new _ _ IB.big)
  have heapC : sC.heap = sB.heap.push { cls := .type "dict", data := .dict #[] } := by rw [hC]
  have old : ∀ b ∈ fp, b < sB.heap.objs.size := fun b hb => let ⟨_, z, _⟩ := T.obj _ _ tB b hb; Heap.lt_size z
  have fpC : ∀ b ∈ fp, FpOk X pins HC b ∧ b < sC.heap.objs.size := fun b hb => by
    refine ⟨⟨?_, (fpB b hb).2⟩, by rw [heapC, Heap.size_push]; exact Nat.lt_succ_of_lt (old b hb)⟩
    rw [hHC, upd_ne (by rw [hL]; exact Nat.ne_of_lt (old b hb))]
    exact (fpB b hb).1
  have tC : tn 0 sC.heap := T.keep _ _ _ tB fun b _ o z => by rw [heapC]; exact Heap.get?_push_of_some _ z
  -- the block
  have ID := block_start IC ok nd fpC
  have g1 := hg sC HC sC.heap.objs.size (cellsFrom (sC.heap.objs.size + 1) scope.names (cloFrom X.env.cells scope.names [])) fp
  have t1 := ht sC HC sC.heap.objs.size (cellsFrom (sC.heap.objs.size + 1) scope.names (cloFrom X.env.cells scope.names [])) fp
  have s1 := hst L sC HC sC.heap.objs.size (cellsFrom (sC.heap.objs.size + 1) scope.names (cloFrom X.env.cells scope.names [])) fp
  rw [← hL, ← hC]
  show codeAny _ _ (.compStart (.DictComp kx vx [⟨tg, iter, ifs, 0⟩] scope pos) 0 (.ref it) (.ref L) (compEnvC scope (cellsFrom (sC.heap.objs.size + 1) scope.names (cloFrom X.env.cells scope.names [])) sC.heap.objs.size X.env)) (compPost (model X.prog X.w) X.A X.xe none _ (.ref L) sC.heap.objs.size) { sC with heap := pushCells (sC.heap.push { cls := .type "dict", data := .dict #[] }) scope.names }
  have freeFp : ∀ b ∈ fp, HC b = none := fun b hb => (fpC b hb).1.1
  generalize hce : compEnvC scope (cellsFrom (sC.heap.objs.size + 1) scope.names (cloFrom X.env.cells scope.names [])) sC.heap.objs.size X.env = ce at ID g1 t1 s1 ⊢
  have locC : ce.locals = sC.heap.objs.size := by subst hce; rfl
  generalize hsD : ({ sC with heap := pushCells (sC.heap.push { cls := .type "dict", data := .dict #[] }) scope.names } : Shared) = sD at ID ⊢
  have tD : tn 0 sD.heap := T.keep _ _ _ tC fun b _ o z => by rw [← hsD]; exact pushCells_keeps _ _ _ _ (Heap.get?_push_of_some _ z)
  have fpIn : ∀ {σ' : St} {H' : Hp} {s' : Shared}, Inv (X.blk sC HC scope ce fp) [] σ' H' s' → (∀ b ∈ fp, H' b = none) → ∀ b ∈ fp, FpOk (X.blk sC HC scope ce fp) [] H' b := fun {σ' H' s'} I' n b hb =>
    ⟨n b hb, (I'.ok.exf b hb).1, I'.ok.exfs b hb, .inl hb, fun x c z => (I'.ok.exf b hb).2 x c z, fun p hp => absurd (show p ∈ ([] : List (Addr × Obj)) ++ [] from hp) (by simp)⟩
  have loop : codeAny (model X.prog X.w) X.A (.compLoop (.DictComp kx vx [⟨tg, iter, ifs, 0⟩] scope pos) 0 (.ref it) (.ref L) ce) (compPost (model X.prog X.w) X.A X.xe none (fun v s' => EP X pins σ Q v s') (.ref L) sC.heap.objs.size) sD := by
    refine compLoop_anyD (fun n s' => ∃ i H', Inv (X.blk sC HC scope ce fp) [] (wipe σ (own.map (·.2))) H' s' ∧ tn i s'.heap ∧ (∀ b ∈ fp, H' b = none) ∧ Wd i n H') ?_ m0 ⟨0, HC, ID, tD, freeFp, start⟩
    rintro n sE ⟨i, HE, IE, tE, nE, wE⟩
    rcases turn i n HE wE with ⟨stop, qE⟩ | ⟨go, Nx, next, step⟩
    · -- no item is left: back in the def
      refine thnF (T.done (X.blk sC HC scope ce fp) rfl rfl rfl calm i [] sE _ HE (fun _ _ => False) IE (fpIn IE nE) tE stop) fun r sF ⟨er, IF⟩ => ?_
      subst er
      have IG : Inv X pins σ HE sF := IC.call' (ch := fp) IF.os IF.base IF.hok IF.bare fun b hb => let z := (fpC b hb).1.2; ⟨z.2.2.1, z.1, z.2.2.2.1, z.2.2.2.2⟩
      obtain ⟨m, hn, _⟩ := IF.loc
      have nC : HE sC.heap.objs.size = none := by
        have z : HE ce.locals = none := IF.free
        rwa [locC] at z
      have hn : sF.heap.Ns ce.locals m := hn
      rw [locC] at hn
      obtain ⟨f0, f1, f2, f3, f4, f5⟩ := IC.fpOk (Nat.le_refl _) nC
      exact ⟨m, hn, fun h2 sb => ⟨.ref L, HE, IG.turned (t' := sF.toks) (fun b o hb z => (sb.2 b hb).trans z) f0 f1 f3 f4 f5, rfl, qE⟩⟩
    · -- one turn
      refine thnF (T.item (X.blk sC HC scope ce fp) rfl rfl rfl calm i [] sE _ HE (fun _ _ => False) IE (fpIn IE nE) tE go) fun r sF ⟨u, er, hF⟩ => ?_
      subst er
      refine thnF hF fun _ sG ⟨x, HG, IG, rG, yG, tG, nG⟩ => ?_
      have IG' := IG.pinned (fpIn IG nG) (T.obj _ _ tG)
      refine thnF (g1.run _ sG _ HG x u _ IG' rG (step x HG yG)) fun _ sH ⟨σH, HH, IH, keepH, qH⟩ => ?_
      refine thnF (t1.run _ sH σH HH _ IH qH) fun b sI ⟨HI, II, qI⟩ => ?_
      have back : ∀ {s' : Shared} {H' : Hp}, Inv (X.blk sC HC scope ce fp) ([] ++ pinsAt fp sG.heap) σH H' s' → Nx H' → ∃ m, m < n ∧ ∃ i H', Inv (X.blk sC HC scope ce fp) [] (wipe σ (own.map (·.2))) H' s' ∧ tn i s'.heap ∧ (∀ b ∈ fp, H' b = none) ∧ Wd i m H' := fun {s' H'} I' nx => by
        obtain ⟨m', lt, w'⟩ := next H' nx
        have pinned : ∀ b ∈ fp, ∀ o, sG.heap.get? b = some o → s'.heap.get? b = some o ∧ H' b = none := fun b hb o z =>
          let y := I'.pin (b, o) (List.mem_append_right _ (List.mem_append_right _ (mem_pinsAt hb z))); ⟨y.1, y.2.1⟩
        have len : (wipe σ (own.map (·.2))).length = σH.length := by rw [← keepH, wipe_length]
        refine ⟨m', lt, i + 1, H', (I'.unpinned (pins := [])).weak len (fun j v z => ?_), T.keep _ _ _ tG fun b hb o z => (pinned b hb o z).1, fun b hb => ?_, w'⟩
        · rw [← keepH] at z
          exact (wipe_some z).1
        · obtain ⟨o, z, _⟩ := T.obj _ _ tG b hb
          exact (pinned b hb o z).2
      cases b with
      | false =>
        rw [if_neg (by decide)] at qI ⊢
        exact back II qI
      | true =>
        rw [if_pos rfl] at qI ⊢
        refine thnF (s1 _ sI σH HI Nx II qI) fun kv sJ hJ => thnF hJ fun vv sK hK => thnF hK fun _ sM ⟨HM, IM, qM⟩ => back IM qM
  exact codeAny_compStart_dict loop (T.self X.A 0 _ _ _ tD loop)
end
end G
namespace G
open PySem PySem.Spec L2
open PyProof.Rows hiding St
/-! ### {k: e for .. in ..}, the keys tuples -/
def tFrzU (t : TE) : TE := fun σ H Q => t σ H fun v H1 => ∃ p u, v = .ref p ∧ H1 p = some u ∧ Mut (some u) ∧ ∀ o, Q v (upd H1 p (.frz o u))
section
variable {Z : Cx} {g : Cf} {W : XK} {T : List Addr} {He : Hp} {pins : List (Addr × Obj)} {σ : St} {H : Hp} {s : Shared} {a : Addr}
theorem pe_frzU {e : Expr} {t : TE} (h : PE Z e t) : PE Z e (tFrzU t) := by
  refine ⟨fun pins s σ H Q I hw => ?_⟩
  refine thn (h.run pins s σ _ _ I hw) fun v s1 ⟨x, H1, I1, r, p, u, ex, hp, mu, q⟩ => ?_
  obtain ⟨o, I2⟩ := I1.lock hp mu
  exact ⟨x, _, I2, r, q o⟩
/-- while it is made -/
theorem dnO_rd {dx : Dx} (so : SdOk Z.prog Z.w Z.K dx) (I : Inv Z pins σ H s) (hK : Z.K = g.K) {xs : List (NestedKey × Addr)} {vs : List V} {ks : List D} (h : H a = some (DnO dx.hk xs vs a)) (r : RpA g H (xs.map fun p => V.ref p.2) ks) (e : ks.map D.nk = xs.map (fun p => some p.1)) :
    (a == sysModules) = false ∧ (∀ p ∈ xs, p.1.depth ≤ 8) ∧ (xs.map (·.1)).Nodup ∧ ∃ us, Vals vs us ∧ us.length = xs.length ∧ s.heap.DictOfH (nestedKind Z.prog Z.w) a (ysOf xs us) := by
  obtain ⟨⟨h1, o, es, ep, us, h2, h3, h4, h5, h6, h7, h8, h9⟩, _⟩ := (show ObjOk Z.prog Z.w H s.heap a (DnO dx.hk xs vs a) from I.hok a _ h)
  refine ⟨h1, h9, h8, us, h5, h6, o, es, ep, h2, h3, h4, ?_, fun y hy => ?_, ?_⟩
  · rw [h7, so.hk]
    unfold ysOf
    rw [List.map_map]
    rfl
  · unfold ysOf at hy
    obtain ⟨p, hp, rfl⟩ := List.mem_map.mp hy
    have := List.of_mem_zip hp
    exact ⟨RpA.keysAt I hK r e p.1 this.1, h9 _ this.1⟩
  · unfold ysOf
    rw [List.map_map]
    have e2 : ((fun x : NestedKey × Addr × Value => x.1) ∘ fun p : (NestedKey × Addr) × Value => (p.1.1, p.1.2, p.2)) = (fun q : NestedKey × Addr => q.1) ∘ fun p : (NestedKey × Addr) × Value => p.1 := rfl
    rw [e2, ← List.map_map, zip_fst h6]
    exact h8
theorem ysOf_new : ∀ {xs : List (NestedKey × Addr)} {us : List Value} {k : NestedKey}, us.length = xs.length → k ∉ xs.map (·.1) → atKey (ysOf xs us) k = none
  | [], us, k, h, _ => by cases us <;> simp_all [ysOf, atKey]
  | x :: xs, [], k, h, _ => by simp at h
  | x :: xs, u :: us, k, h, n => by
    simp only [List.map_cons, List.mem_cons, not_or] at n
    have ih := ysOf_new (xs := xs) (us := us) (k := k) (by simpa using h) n.2
    unfold atKey ysOf at ih ⊢
    simp only [List.zip_cons_cons, List.map_cons, List.find?_cons]
    rw [decide_eq_false (fun z => n.1 z.symm)]
    exact ih
theorem ysOf_app {xs : List (NestedKey × Addr)} {us : List Value} {k : NestedKey} {b : Addr} {r : Value} (h : us.length = xs.length) : ysOf (xs ++ [(k, b)]) (us ++ [r]) = ysOf xs us ++ [(k, b, r)] := by
  unfold ysOf
  rw [List.zip_append h.symm, List.map_append]
  rfl
def rdStore (g : Cf) (T : List Addr) (He : Hp) (fk fv : Se X) (L : Addr) : St → Hp → (Hp → Prop) → Prop := fun σ H Nx => rdE g XN T He fk σ H fun y H4 => rdE g XN T He fv σ H4 fun z H5 =>
  ∃ (xs : List (NestedKey × Addr)) (vs : List V) (ks : List D) (k : NestedKey) (b : Addr) (kd : D), y = .ref b ∧ H5 L = some (DnO g.dx.hk xs vs L) ∧ ks.map D.nk = xs.map (fun p => some p.1) ∧ RpA g H5 (xs.map fun p => V.ref p.2) ks ∧ Rp g H5 y kd ∧ keyN kd = some k ∧ k ∉ xs.map (·.1) ∧ xs.length ≤ 1000 ∧
    Nx (upd H5 L (DnO g.dx.hk (xs ++ [(k, b)]) (vs ++ [z]) L))
theorem store_dn {kx vx : Expr} {fk fv : Se X} {L : Addr} (so : SdOk Z.prog Z.w Z.K g.dx) (hu : Z.A.units + 65 < cLine) (hK : Z.K = g.K) (hk : EV Z g XN T He kx fk) (hv : EV Z g XN T He vx fv) : StoreOk Z L kx vx (rdStore g T He fk fv L) := by
  intro pins st σ H Nx I h
  refine thn (hk.run pins st σ H _ I h) fun u s1 ⟨y, H4, I4, ry, q4⟩ => ?_
  refine thn (hv.run pins s1 σ H4 _ I4 q4) fun r s2 ⟨z, H5, I5, rz, xs, vs, ks, k, b, kd, ey, hL, hnk, hks, hkd, hkn, hnew, hlen, nx⟩ => ?_
  obtain ⟨b', e1, e2, his⟩ := keyN_at I5 hK hkd ry hkn
  rw [ey] at e1
  cases e1
  subst e2
  obtain ⟨hd, h9, h8, us, hvs, hl, dd⟩ := dnO_rd so I5 hK hL hks hnk
  have hyl : (ysOf xs us).length = xs.length := by unfold ysOf; rw [List.length_map, List.length_zip, hl, Nat.min_self]
  refine wpAny_dictSet_heap (knd := nestedKind Z.prog Z.w) (by show Z.A.units + 8 < cLine; omega) his dd (fun h' hd' sb => ?_) (by rw [hyl, sizeLine_eq]; omega)
  rw [storedH_new (ysOf_new hl hnew)] at hd'
  obtain ⟨o, es, ep, h2, h3, h4, h5, h6, h7⟩ := hd'
  refine ⟨_, d_write (ob := DnO g.dx.hk (xs ++ [(k, b)]) (vs ++ [z]) L) I5 (by rw [hL]; trivial) sb ⟨o, h2⟩ ⟨⟨hd, o, es, ep, us ++ [r], h2, h3, h4, hvs.append (.cons rz .nil), by simp [hl], ?_, ?_, fun p hp => ?_⟩, ⟨o, h2⟩, fun h1' h2' p k => ?_⟩, nx⟩
  · rw [h5, so.hk, List.zip_append hl.symm, List.map_append, List.map_append]
    unfold ysOf
    rw [List.map_map]
    rfl
  · rw [List.map_append, List.nodup_append]
    refine ⟨h8, by simp, fun x hx y hy e => ?_⟩
    simp only [List.map_cons, List.map_nil, List.mem_singleton] at hy
    exact hnew (by rw [← hy, ← e]; exact hx)
  · rcases List.mem_append.mp hp with q | q
    · exact h9 p q
    · rw [List.mem_singleton.mp q]; exact his.2
  · obtain ⟨p1, o', es', ep', us', p2, p3⟩ := p
    exact ⟨p1, o', es', ep', us', k _ p2, p3⟩
theorem dn_new (hk : NestedKey → Int) (P : Program) (w : World) (H : Hp) (h : Heap) (hb : sysModules < h.objs.size) : ObjOk P w H (h.push { cls := .type "dict", data := .dict #[] }) h.objs.size (DnO hk [] [] h.objs.size) := by
  have hg : (h.push { cls := .type "dict", data := .dict #[] }).get? h.objs.size = some { cls := .type "dict", data := .dict #[] } := Heap.get?_push_size _ rfl
  refine ⟨⟨beq_eq_false_iff_ne.mpr (Ne.symm (Nat.ne_of_lt hb)), _, #[], 0, [], hg, ⟨rfl, rfl, rfl⟩, rfl, .nil, rfl, rfl, List.nodup_nil, fun p hp => by cases hp⟩, ⟨_, hg⟩, fun h1' h2' p k => ?_⟩
  obtain ⟨p1, o', es', ep', us', p2, p3⟩ := p
  exact ⟨p1, o', es', ep', us', k _ p2, p3⟩
end
/-! what it makes -/
def mapK (tgt : Tg) (vs : List Nat) (tt : Se Bool) (fk fv : Se X) (Γ : List Sl) : List NestedKey → List D → M (List (D × D))
  | _, [] => .ret []
  | acc, d :: ds => match tgt.asg d with
    | none => .fail
    | some as => (tt (setG (wipeG Γ vs) as)).cut.bind fun b => if b then (fk (setG (wipeG Γ vs) as)).cut.bind fun x => (fv (setG (wipeG Γ vs) as)).cut.bind fun y => if x.tn || y.tn then .fail else match keyN x.toD with
        | none => .fail
        | some k => if decide (k ∈ acc) then .fail else (mapK tgt vs tt fk fv Γ (acc ++ [k]) ds).bind fun r => .ret ((x.toD, y.toD) :: r)
        else mapK tgt vs tt fk fv Γ acc ds
def sDn (fi : Se (Bool × List D)) (tgt : Tg) (vs : List Nat) (tt : Se Bool) (fk fv : Se X) : Se X := fun Γ => (fi Γ).bind fun p => if p.2.length ≤ 1000 then (mapK tgt vs tt fk fv Γ [] p.2).bind fun r => .ret (.p (.dn (r.map Prod.fst) (r.map Prod.snd))) else .fail
theorem keyN_nk {d : D} {k : NestedKey} (h : keyN d = some k) : d.nk = some k := by
  cases d <;> try (cases h; done)
  dsimp only [keyN] at h
  rename_i ds
  cases e : D.nk (.tup ds) with
  | none => rw [e] at h; cases h
  | some k' =>
    rw [e] at h
    dsimp only at h
    split at h
    · exact h
    · cases h
theorem keyN_ref {g : Cf} {H : Hp} {v : V} {d : D} {k : NestedKey} (r : Rp g H v d) (h : keyN d = some k) : ∃ b, v = .ref b := by
  cases d <;> try (cases h; done)
  cases r
  exact ⟨_, rfl⟩
section
variable {Z : Cx} {g : Cf} {W : XK} {T : List Addr} {He : Hp} {pos : Pos} {tg : Expr}
/-- a heap of n objects that are no dicts -/
def hN : Nat → Heap
  | 0 => {}
  | n + 1 => (hN n).push { cls := .none, data := .fields #[] }
theorem hN_size : ∀ n, (hN n).objs.size = n
  | 0 => rfl
  | n + 1 => by rw [hN, Heap.size_push, hN_size n]
theorem hN_get : ∀ {n : Nat} {b : Addr} {o : Obj}, (hN n).get? b = some o → ∃ vs, o.data = .fields vs
  | 0, b, o, e => by simp [hN, Heap.get?] at e
  | n + 1, b, o, e => by
    rcases Heap.get?_push_cases e with ⟨_, rfl⟩ | e
    · exact ⟨_, rfl⟩
    · exact hN_get e
theorem dnO_code {hk : NestedKey → Int} {xs : List (NestedKey × Addr)} {vs : List V} {a : Addr} (c : Addr) (q : Str) : DnO hk xs vs a ≠ LamX.CodeO c q := fun e => by
  have z := congrFun (HO.ext.inj e) ((hN c).push { cls := .none, data := .fields #[.none, .str q 0] })
  have r : ∃ (oc : Obj) (vs : Array Value) (t : Tok), ((hN c).push { cls := .none, data := .fields #[.none, .str q 0] }).get? c = some oc ∧ oc.data = .fields vs ∧ vs[1]? = some (.str q t) := ⟨_, _, 0, by have := Heap.get?_push_size (hN c) (o := { cls := .none, data := .fields #[.none, .str q 0] }) rfl; rw [hN_size] at this; exact this, rfl, rfl⟩
  rw [← z] at r
  obtain ⟨_, o, es, ep, us, h2, _, h4, _⟩ := r
  rcases Heap.get?_push_cases h2 with ⟨_, rfl⟩ | h2
  · cases h4
  · obtain ⟨vs, h⟩ := hN_get h2
    rw [h4] at h
    cases h
theorem acc_putU {S : List Addr} {H1 H5 : Hp} {Γ : List Sl} {σ : St} {L : Addr} {u u' : HO} (hu : ∀ c q, H5 L ≠ some (LamX.CodeO c q)) (hu' : ∀ c q, u' ≠ LamX.CodeO c q) (nfd : ¬ g.fd.mv L) (nl : ∀ p l, g.fd.f = some (p, l) → l ≠ L) (hD1 : H1 L = none) (cf : CFree L Γ σ) (e : Ext g.fd H1 H5) (l5 : Rl g T He (L :: S) H5 Γ σ) (hD5 : H5 L = some u) :
    Ext g.fd H1 (upd H5 L u') ∧ Rl g T He (L :: S) (upd H5 L u') Γ σ ∧ off (upd H5 L u') (T ++ (L :: S)) = off H5 (T ++ (L :: S)) := by
  have mem : L ∈ T ++ (L :: S) := List.mem_append_right _ List.mem_cons_self
  refine ⟨⟨fun b o n hb => ?_, e.2.put nfd nl hu⟩, ?_, off_upd mem⟩
  · have nb : b ≠ L := fun z => by rw [z, hD1] at hb; cases hb
    rw [upd_ne nb]
    exact e.1 b o n hb
  · refine ⟨l5.len, fun j s h => ?_, l5.ne, fun b hb => ?_, l5.nw, l5.ft, l5.tt, ?_, l5.s0⟩
    · have q := l5.sl j s h
      cases s with
      | no => trivial
      | v e => obtain ⟨v, q1, q2⟩ := q; exact ⟨v, q1, by rw [off_upd mem]; exact q2⟩
      | c o' =>
        obtain ⟨a, q1, q2, q3⟩ := q
        have na : a ≠ L := fun z => by
          refine cf j o' h ?_
          rw [← z]
          cases e2 : σ[j]? with
          | none => rw [e2] at q1; cases q1
          | some x => rw [e2] at q1; simp only [Option.join_some] at q1; rw [q1]
        exact ⟨a, q1, q2, q3.mono (fun o h => by rw [upd_ne na]; exact h) (by rw [off_upd mem]; exact Same.refl _)⟩
    · by_cases z : b = L
      · rw [z]; exact ⟨_, upd_same, hu'⟩
      · obtain ⟨u, q, n⟩ := l5.tk b hb
        exact ⟨u, by rw [upd_ne z]; exact q, n⟩
    · refine ⟨fun b o n hb => ?_, e.2.put nfd nl hu⟩
      have nb : b ≠ L := fun z => by
        rw [z, l5.nw L List.mem_cons_self] at hb; cases hb
      rw [upd_ne nb]
      exact l5.ex.1 b o n hb
end
end G
namespace G
open PySem PySem.Spec L2
open PyProof.Rows hiding St
section
variable {Z : Cx} {g : Cf} {W : XK} {T : List Addr} {He : Hp} {pos : Pos} {tg : Expr}
theorem Rl.moreC {S : List Addr} {H : Hp} {Γ : List Sl} {σ : St} {d : Addr} (r : Rl g T He S H Γ σ) (hn : H d = none) (o : HO) (ho : ∀ c q, o ≠ LamX.CodeO c q) : Rl g T He (d :: S) (upd H d o) Γ σ := by
  have ex := r.ext_new (o := o) hn
  have t' : ∀ p, g.fd.mv p → p ∈ T ++ (d :: S) := fun p h => List.mem_append_left _ (r.t p h)
  have sm : Same (off H (T ++ S)) (off (upd H d o) (T ++ (d :: S))) := (off_free hn).trans (ex.off t')
  refine ⟨r.len, fun i s h => ?_, r.ne, fun b hb => ?_, fun b hb => ?_, r.ft, r.tt, r.ex.trans ex, r.s0⟩
  · have q := r.sl i s h
    cases s with
    | no => trivial
    | v e => obtain ⟨v, h1, h2⟩ := q; exact ⟨v, h1, h2.mono sm⟩
    | c o' => obtain ⟨a, h1, h2, h3⟩ := q; exact ⟨a, h1, List.mem_cons_of_mem _ h2, h3.mono (fun o' h => ex.at r.t (r.nT h2) h) sm⟩
  · rcases List.mem_cons.mp hb with rfl | hb
    · exact ⟨o, upd_same, ho⟩
    · exact (r.mono ex).tk b hb
  · rcases List.mem_cons.mp hb with rfl | hb
    · exact r.ex.free hn fun h => r.okd.tk h hn
    · exact r.nw b hb
/-- made new, it is seen once more when the frame lets go of it -/
theorem off_less {S : List Addr} {H : Hp} {L : Addr} {u : HO} : Same (off H (T ++ (L :: S))) (off (upd H L u) (T ++ S)) := fun b ob hb => by
  have nb : b ∉ T ++ (L :: S) := fun z => by rw [off_in z] at hb; cases hb
  rw [off_ne nb] at hb
  have nbp : b ≠ L := fun z => nb (by rw [z]; exact List.mem_append_right _ List.mem_cons_self)
  rw [off_ne fun z => nb ((List.mem_append.mp z).elim (fun q => List.mem_append_left _ q) fun q => List.mem_append_right _ (List.mem_cons_of_mem _ q)), upd_ne nbp]
  exact hb
theorem rdDn {fi : Se (Bool × List D)} {tgt : Tg} {vs : List Nat} {tt : Se Bool} {fk fv : Se X} {σ : St} {H : Hp} {Q : VK} (h0 : ∀ i ∈ vs, g.ok0 i) (hv : ∀ i ∈ tgt.slots, i ∈ vs) (h : rdE g W T He (sDn fi tgt vs tt fk fv) σ H Q) :
    tFrzU (tDcG (DnO g.dx.hk [] []) (rdI g W T He fi) (rdG g T He tgt) (rdT g XN T He tt) (rdStore g T He fk fv) vs) σ H Q := by
  obtain ⟨Γ, S, rl, w⟩ := h
  simp only [sDn, M.wp_bind] at w
  refine ⟨Γ, S, rl, M.wp_mono (fun p w J H1 e1 itc _ L hD => ?_) w⟩
  split at w
  rotate_left
  · exact w.elim
  rename_i hz
  simp only [M.wp_bind, M.wp_ret] at w
  have l1 := rl.mono e1
  have nTS : L ∉ T ++ S := l1.freeTS hD
  have nfd : ¬ g.fd.mv L := fun h => nTS (List.mem_append_left _ (l1.t L h))
  have nl : ∀ p l, g.fd.f = some (p, l) → l ≠ L := fun p l hp z => (l1.feed hp).tkl (by rw [z]; exact hD)
  have nD : L ∉ T := fun z => nTS (List.mem_append_left _ z)
  have cf : CFree L Γ σ := fun j o hj hs => by
    obtain ⟨a, q1, q2, _⟩ := l1.sl j _ hj
    rw [hs] at q1
    cases q1
    exact nTS (List.mem_append_right _ q2)
  have ok : ∀ {H2 : Hp}, Ext g.fd H1 H2 → H2 L ≠ none → okC g T S H1 H2 (T ++ (L :: S)) := fun {H2} e hd => ⟨e, (off_free hD).trans (e.off fun p h => List.mem_append_left _ (l1.t p h)), fun b hb => by
    rcases List.mem_append.mp hb with z | z
    · exact (l1.mono e).tkT z
    · rcases List.mem_cons.mp z with rfl | z
      · exact hd
      · exact ((l1.mono e).tk b z).ne⟩
  let Inw : Nat → Hp → Prop := fun i H2 => Ext g.fd H1 H2 ∧ Rl g T He (L :: S) H2 Γ σ ∧ ∃ xs us ks ds, H2 L = some (DnO g.dx.hk xs us L) ∧ ks.map D.nk = xs.map (fun p => some p.1) ∧ RpA g (off H2 (T ++ (L :: S))) (xs.map fun p => V.ref p.2) ks ∧ RpA g (off H2 (T ++ (L :: S))) us ds ∧ xs.length ≤ i ∧
      (mapK tgt vs tt fk fv Γ (xs.map (·.1)) (p.2.drop i)).wp (xp g W T He) fun r => ∀ v H', Ext g.fd H H' → RpX g T S H H' v (.p (.dn (ks ++ r.map Prod.fst) (ds ++ r.map Prod.snd))) → Q v H'
  refine ⟨fun i m H2 => m = p.2.length - i ∧ i ≤ p.2.length ∧ Inw i H2, ⟨p.2.length, by simp, Nat.zero_le _, l1.ext_new hD, l1.moreC hD _ dnO_code, [], [], [], [], upd_same, rfl, .nil, .nil, Nat.le_refl _, by simpa using w⟩, ?_⟩
  rintro i m H2 ⟨rfl, hi, e2, l2, xs, us, ks, ds, hD2, hnk, hks, hds, hlen, w2⟩
  by_cases hlt : i < p.2.length
  · obtain ⟨d, hd⟩ : ∃ d, p.2[i]? = some d := ⟨p.2[i], by simp [hlt]⟩
    obtain ⟨g1, g2⟩ := itc.go H2 _ (ok e2 (by rw [hD2]; intro z; cases z)) i d hd
    refine .inr ⟨g1, Inw (i + 1), fun H' h => ⟨p.2.length - (i + 1), by omega, rfl, hlt, h⟩, fun x H3 y => ?_⟩
    obtain ⟨s3, r3⟩ := g2 x H3 y
    have e3 : Ext g.fd H2 H3 := l2.same s3
    have l3 := l2.mono e3
    rw [List.drop_eq_getElem_cons hlt] at w2
    have ed : p.2[i] = d := by rw [List.getElem?_eq_getElem hlt] at hd; exact Option.some.inj hd
    rw [ed] at w2
    simp only [mapK] at w2
    cases ha : tgt.asg d with
    | none => rw [ha] at w2; exact w2.elim
    | some as =>
      rw [ha] at w2
      simp only [M.wp_bind] at w2
      refine ⟨wipeG Γ vs, L :: S, d, as, l3.wipe vs h0, r3, ha, fun ws hws l4 => ⟨wipe_idem fun i hi => hv i (by rw [hws, Tg.asg_slots ha] at hi; exact hi), ?_⟩⟩
      refine ⟨_, L :: S, l4, M.cut_wp (M.wp_mono (fun b w3 H4 e4 => ?_) w2)⟩
      have keep : ∀ {Ha Hb : Hp} {o : HO}, Ext g.fd Ha Hb → Ha L = some o → Hb L = some o := fun e h => e.at l1.t nD h
      have t' : ∀ p, g.fd.mv p → p ∈ T ++ (L :: S) := fun p h => List.mem_append_left _ (l1.t p h)
      cases b with
      | false =>
        simp only [Bool.false_eq_true, ↓reduceIte] at w3 ⊢
        have e24 := e3.trans e4
        exact ⟨e2.trans e24, l2.mono e24, xs, us, ks, ds, keep e24 hD2, hnk, RpA.mono (e24.off t') _ hks, RpA.mono (e24.off t') _ hds, by omega, w3⟩
      | true =>
        simp only [↓reduceIte, M.wp_bind] at w3 ⊢
        refine rdE.use (l4.mono e4) (M.cut_wp (M.wp_mono (fun x w4 y H5 e5 l5 x5 => ?_) w3))
        refine rdE.use l5 (M.cut_wp (M.wp_mono (fun x' w6 z H6 e6 l6 x6 => ?_) w4))
        have e26 := ((e3.trans e4).trans e5).trans e6
        split at w6
        · exact w6.elim
        rename_i htn
        rw [Bool.or_eq_true, not_or] at htn
        have rk := (x5.toD' (by simpa using htn.1)).mono (e6.off t')
        have rv := x6.toD' (by simpa using htn.2)
        cases hk : keyN x.toD with
        | none => rw [hk] at w6; exact w6.elim
        | some k =>
          rw [hk] at w6
          dsimp only at w6
          split at w6
          · exact w6.elim
          rename_i hnew
          simp only [M.wp_bind, M.wp_ret] at w6
          obtain ⟨b, rfl⟩ := keyN_ref rk.on hk
          have hD6 := keep e26 hD2
          have hks6 := RpA.mono (e26.off t') _ hks
          have hds6 := RpA.mono (e26.off t') _ hds
          obtain ⟨p1, p2, p3⟩ := acc_putU (u' := DnO g.dx.hk (xs ++ [(k, b)]) (us ++ [z]) L) (fun c q e => dnO_code c q (Option.some.inj (hD6.symm.trans e))) dnO_code nfd nl hD cf (e2.trans e26) (l2.mono e26) hD6
          refine ⟨xs, us, ks, k, b, x.toD, rfl, hD6, hnk, RpA.mono (off_same _ _) _ hks6, rk.on, hk, fun h => hnew (decide_eq_true h), by omega, p1, p2, xs ++ [(k, b)], us ++ [z], ks ++ [x.toD], ds ++ [x'.toD], upd_same, ?_, ?_, ?_, ?_, ?_⟩
          · rw [List.map_append, List.map_append, hnk, List.map_cons, List.map_cons, keyN_nk hk]
            rfl
          · rw [p3, List.map_append]
            exact hks6.append (.cons rk .nil)
          · rw [p3]
            exact hds6.append (.cons rv .nil)
          · rw [List.length_append]
            show xs.length + 1 ≤ i + 1
            omega
          · rw [List.map_append]
            refine M.wp_mono (fun r q v H' e h => q v H' e ?_) w6
            rw [List.append_assoc, List.append_assoc] at h
            exact h
  · have e : i = p.2.length := by omega
    subst e
    refine .inl ⟨itc.stop H2 _ (ok e2 (by rw [hD2]; intro z; cases z)), L, _, rfl, hD2, trivial, fun o => ?_⟩
    rw [List.drop_length] at w2
    simp only [mapK, M.wp_ret, List.map_nil, List.append_nil] at w2
    have ex : Ext g.fd H1 (upd H2 L (.frz o (DnO g.dx.hk xs us L))) := ⟨fun b ob n hb => by
      have nb : b ≠ L := fun z => by rw [z, hD] at hb; cases hb
      rw [upd_ne nb]
      exact e2.1 b ob n hb, e2.2.put nfd nl fun c q e => dnO_code c q (Option.some.inj (hD2.symm.trans e))⟩
    have here : off (upd H2 L (.frz o (DnO g.dx.hk xs us L))) (T ++ S) L = some (.frz o (DnO g.dx.hk xs us L)) := by rw [off_ne nTS]; exact upd_same
    exact w2 _ _ (e1.trans ex) (Rp.dn ⟨o, here⟩ hnk (RpA.mono off_less _ hks) (RpA.mono off_less _ hds))
theorem ev_dn {kx vx iter : Expr} {ifs : List Expr} {scope : Scope} {own : List (Str × Nat)} {fi : Se (Bool × List D)} {tgt : Tg} {tt : Se Bool} {fk fv : Se X} (hK : Z.K = g.K) (so : SdOk Z.prog Z.w Z.K g.dx) (hu : Z.A.units + 65 < cLine) (hc : Z.calm = true) (hN : Z.N.Nodup) (hi : EI Z g W T He tg iter fi) (ok : BlkOk Z.N Z.env.scope scope own) (h0 : ∀ i ∈ own.map (·.2), g.ok0 i) (hv : ∀ i ∈ tgt.slots, i ∈ own.map (·.2))
    (hg : ∀ (s : Shared) (H : Hp) (C : Addr) (cl : List (Str × Addr)) (fp : List Addr), EG (Z.blk s H scope (compEnvC scope cl C Z.env) fp) g T He tg tgt) (ht : ∀ (s : Shared) (H : Hp) (C : Addr) (cl : List (Str × Addr)) (fp : List Addr), PTs (Z.blk s H scope (compEnvC scope cl C Z.env) fp) ifs (rdT g XN T He tt))
    (hk : ∀ (s : Shared) (H : Hp) (C : Addr) (cl : List (Str × Addr)) (fp : List Addr), EV (Z.blk s H scope (compEnvC scope cl C Z.env) fp) g XN T He kx fk)
    (he : ∀ (s : Shared) (H : Hp) (C : Addr) (cl : List (Str × Addr)) (fp : List Addr), EV (Z.blk s H scope (compEnvC scope cl C Z.env) fp) g XN T He vx fv) (hs : ∀ x, foldedSetIterable iter Z.env x = pure x := by intro _; rfl) :
    EV Z g W T He (.DictComp kx vx [⟨tg, iter, ifs, 0⟩] scope pos) (sDn fi tgt (own.map (·.2)) tt fk fv) :=
  pe_w (pe_frzU (pe_dcG (fun H h hb => dn_new _ _ _ H h hb) hc hN hi ok hg ht (fun L s H C cl fp => store_dn so hu hK (hk s H C cl fp) (he s H C cl fp)) hs)) fun _ _ _ h => rdDn h0 hv h
end
end G
namespace G
open PySem PySem.Spec L2
open PyProof.Rows hiding St
/-! ### a module's dict by its name; len of a dict; x[k] = e; what is never reached -/
section
variable {Z : Cx} {g : Cf} {W : XK} {T : List Addr} {He : Hp} {pos p2 : Pos} {f1 : Se X} {fs : Se (List X)} {tg : Expr}
theorem ei_fail {e : Expr} : EI Z g W T He tg e (fun _ => .fail) := ⟨fun _ _ _ _ _ _ ⟨_, _, _, w⟩ => w.elim⟩
theorem es_fail {s : Stmt} : ES Z g W T He s (fun _ => .fail) := ⟨fun _ _ _ _ _ _ ⟨_, _, _, w⟩ => w.elim⟩
theorem eb_fail {e : Expr} : EB Z g W T He e (fun _ => .fail) := ⟨fun _ _ _ _ _ _ ⟨_, _, _, w⟩ => w.elim⟩
theorem ev_gd {x : Str} {a : Addr} {kvs : List (Key × V)} {ds : List D} (hg : Gl Z x) (hm : Z.mg x = some (.ref a)) (hs : (a, kvs) ∈ g.dx.sd) (hr : ∀ H, RpA g H (kvs.map Prod.snd) ds) (hdb : (x == ("__debug__" : Str)) = false := by decide) : EV Z g W T He (.Name x pos) (sK (.dk (kvs.map Prod.fst) ds)) :=
  pe_w (pe_glob (v := .ref a) hg hm rfl hdb) fun σ H Q ⟨Γ, S, rl, w⟩ => w (.ref a) H rl.fok.refl (Rp.dk (.inr hs) rfl (hr _))
/-! len -/
def rLenK (dx : Dx) : List V → Hp → VK → Prop := fun xs H Q => ∃ a us, xs = [V.ref a] ∧ DKeys dx H a us ∧ us.length ≤ 100000 ∧ Q (.int us.length) H
theorem call_lenK (so : SdOk Z.prog Z.w Z.K g.dx) : CallR Z (.builtin "len") (rLenK g.dx) := by
  intro pins s σ H xs us Q I r h
  obtain ⟨a, ks, rfl, dk, hz, q⟩ := h
  rw [Vals.ref1 r]
  obtain ⟨o, es, ep, hf, hs, hx, hdt, hsz, _⟩ := dkeys_raw so I dk
  have raw : s.heap.DictRaw a es ep := ⟨o, hf.get I, hx, hdt⟩
  refine PyProof.Rows.call_len_slot (n := (ks.length : Int)) raw.typeIs PySem.F.slot_dict_len (fun Q' hq => call_len_raw hs raw (by rw [hsz]; exact hq)) (by omega) (by omega) ?_
  exact ⟨.int ks.length, H, I.tok _, ⟨_, rfl⟩, q⟩
def lenK : List D → M R
  | [.dk ks ds] => if ds.length ≤ 100000 ∧ ks.length = ds.length then .ret (.at (.int ks.length)) else .fail
  | [.dn ks ds] => if ks.length ≤ 100000 then .ret (.at (.int ks.length)) else .fail
  | _ => .fail
theorem pr_lenK : PrN g (rLenK g.dx) lenK := fun T H vs ds Q f r _ w => by
  match ds, r, w with
  | [.dk ks ds], r, w =>
    obtain ⟨v, rfl, r1⟩ := r.one
    dsimp only [lenK] at w
    split at w
    · rename_i hz
      cases r1.dk with
      | @dk a kvs _ _ h1 h2 h3 =>
        have l : kvs.length = ks.length := by rw [← h2, List.length_map]
        refine ⟨a, kvs.map fun q => kV q.1, rfl, .inl ⟨kvs, h1.on, rfl⟩, by rw [List.length_map, l, hz.2]; exact hz.1, ?_⟩
        rw [List.length_map, l]
        exact w _ H f.refl (.int _)
    · exact w.elim
  | [.dn ks ds], r, w =>
    obtain ⟨v, rfl, r1⟩ := r.one
    dsimp only [lenK] at w
    split at w
    · rename_i hz
      cases r1.dn with
      | @dn a xs us _ _ h1 h2 h3 h4 =>
        have l : xs.length = ks.length := by have := congrArg List.length h2; simpa using this.symm
        refine ⟨a, xs.map fun p => V.ref p.2, rfl, .inr ⟨xs, us, h1.on, rfl⟩, by rw [List.length_map, l]; exact hz, ?_⟩
        rw [List.length_map, l]
        exact w _ H f.refl (.int _)
    · exact w.elim
/-! x[k] = e -/
def sStI (i : Nat) (k : Int) (f : Se X) : Sst := fun Γ => (f Γ).bind fun x => x.fz.bind fun d => match Γ[i]? with
  | some (.c (.l ds)) => match ixN ds.length k with
    | some j => .ret (.nx, Γ.set i (.c (.l (ds.set j d))))
    | none => .fail
  | _ => .fail
theorem es_sti {i : Nat} {x : Str} {e : Expr} {px : Pos} {k : Int} {kk : _} {pk : Pos} (hN : Z.N[i]? = some x) (hv : Vis Z.env.scope x) (he : EV Z g W T He e f1) (hd : (x == ("__debug__" : Str)) = false := by decide) (hcd : (x == ("__classdict__" : Str)) = false := by decide)
    (hs : swapsWithSole [.Subscript (.Name x px) (.Constant (.int k) kk pk) p2] e pos.line Z.env = pure false := by rfl) (hw : swappedStores [.Subscript (.Name x px) (.Constant (.int k) kk pk) p2] e Z.env = pure none := by rfl)
    (h1 : (assignEach [.Subscript (.Name x px) (.Constant (.int k) kk pk) p2] Z.env).map (·.2) = [assign (.Subscript (.Name x px) (.Constant (.int k) kk pk) p2) Z.env] := by rfl) :
    ES Z g W T He (.Assign [.Subscript (.Name x px) (.Constant (.int k) kk pk) p2] e pos) (sStI i k f1) :=
  ps_w (ps_asg he (pg_sub (pe_var hN hv hd hcd) pe_int set_list) hs hw h1) fun D σ H ⟨Γ, S, rl, w⟩ => by
    simp only [sStI, M.wp_bind] at w
    refine rdE.use rl (M.wp_mono (fun x w v H1 e1 l1 x1 => ?_) w)
    obtain ⟨r, w⟩ := x1.fz w
    split at w <;> first | exact w.elim | skip
    rename_i ds hi
    split at w <;> first | exact w.elim | skip
    rename_i j hj
    obtain ⟨a, h1, h2, vs, h3, h4⟩ := l1.sl i _ hi
    obtain ⟨fr, mem⟩ := l1.frsPut (u := .lst (vs.set j v)) hi (join_some h1)
    refine ⟨.ref a, join_some h1, a, vs, k, j, rfl, rfl, h3, by rw [h4.length]; exact hj, ?_⟩
    exact w σ S _ (l1.put hi (join_some h1) ⟨_, upd_same, by rw [off_upd mem]; exact h4.set r j⟩) ((rl.frs e1).trans fr)
end
end G
namespace Hd
open PySem PySem.Spec PyProof.Rows L2
/-! ### the head's facts: a part of the heap, looked at by Bools -/
def keepO (o : Obj) : Bool := match o.cls, o.data with
  | .none, .fields _ => false
  | _, _ => true
def frL {α β : Type} : List α → (List α → β) → β
  | [], k => k []
  | x :: r, k => frL r fun r' => k (x :: r')
theorem frL_eq {α β : Type} : ∀ (l : List α) (k : List α → β), frL l k = k l
  | [], _ => rfl
  | x :: r, k => frL_eq r fun r' => k (x :: r')
def KY (as : List Addr) (g : Addr → Option Obj) : PySem.W.Frag := (He.frG g as).filter fun q => keepO q.2
theorem KY_in {as : List Addr} {h : Heap} : (KY as h.get?).In h := fun _ _ e => He.frG_mem (List.mem_filter.mp (He.lookup_mem e)).1
theorem KY_noTabs {as : List Addr} {g : Addr → Option Obj} : PySem.W.noTabs (KY as g) = true := List.all_eq_true.mpr fun _ hp => (List.mem_filter.mp hp).2
/-- the __init__ of an own exception -/
abbrev FxV : Type := Option (Str × Str × Arguments × FuncBody × Scope × Addr × List Str × Addr)
def fAt (K : PySem.W.Frag) (C : Str) : Addr := He.ma K (He.ga K C) "__init__"
def fnC (K : PySem.W.Frag) (C : Str) : FxV := match K.lookup (fAt K C) with
  | some ⟨_, _, .func fd, _⟩ => some (fd.name, fd.qualname, fd.params, fd.body, fd.scope, fd.globals, fd.closure.map (·.1), fd.builtins)
  | _ => none
structure Fx where
  C : Str
  qual : Str
  params : Arguments
  body : List Stmt
  scope : Scope
def Fx.val (d : Fx) : FxV := some ("__init__", d.qual, d.params, .stmts d.body, d.scope, mainGlobals, ["__class__"], builtinsNs)
abbrev SdY : Type := List (Option (List (Int × Option Key) × Bool))
abbrev AlY : Type := List He.FnW × List FxV × Bool × SdY
def keyOf : Value → Option Key
  | .int i _ => some (.inl i)
  | .str x _ => some (.inr x)
  | _ => none
/-- a dict of the module's own: hashes, keys; whether the values are these -/
def sdObs (K : PySem.W.Frag) (q : Str × List (Key × V)) : Option (List (Int × Option Key) × Bool) := match K.lookup (He.ga K q.1) with
  | some ⟨.type t, none, .dict es _, sl⟩ => some (es.toList.map fun e => (e.hash, keyOf e.key), decide (t = "dict") && (decide (sl = #[]) && (He.relAll (q.2.map (·.2)) (es.toList.map (·.val)) && !(He.ga K q.1 == sysModules))))
  | _ => none
def sdVal (w : World) (q : Str × List (Key × V)) : Option (List (Int × Option Key) × Bool) := some (q.2.map fun p => (keyH w p.1, some p.1), true)
abbrev SdL : Type := List (Str × List (Key × V))
def obsK (fn : List He.DefD) (fx : List Fx) (ex : PySem.W.Frag → Bool) (sd : SdL) (K : PySem.W.Frag) : AlY := (fn.map fun d => He.fnW K d.at_, fx.map fun d => fnC K d.C, (fn.all fun d => d.ok K) && ex K, sd.map (sdObs K))
def obsY (as : List Addr) (fn : List He.DefD) (fx : List Fx) (ex : PySem.W.Frag → Bool) (sd : SdL) (g : Addr → Option Obj) : AlY := frL (KY as g) (obsK fn fx ex sd)
def valY (fn : List He.DefD) (fx : List Fx) (sd : SdL) (w : World) : AlY := (fn.map He.DefD.val, fx.map Fx.val, true, sd.map (sdVal w))
def SaysY (fn : List He.DefD) (fx : List Fx) (ex : PySem.W.Frag → Bool) (sd : SdL) (w : World) (K : PySem.W.Frag) : Prop := obsK fn fx ex sd K = valY fn fx sd w
def hookY (as : List Addr) (fn : List He.DefD) (fx : List Fx) (ex : PySem.W.Frag → Bool) (sd : SdL) : PySem.W.Hook where
  α := AlY
  obs := fun s => obsY as fn fx ex sd s.heap.get?
  val := fun w => valY fn fx sd w
  says := fun w h => ∃ K : PySem.W.Frag, K.In h ∧ PySem.W.noTabs K = true ∧ SaysY fn fx ex sd w K
  of := fun _ _ e => ⟨_, KY_in, KY_noTabs, (frL_eq _ _).symm.trans e⟩
  keeps := fun _ _ _ ⟨K, hK, n, c⟩ k => ⟨K, PySem.W.Frag.In.keeps hK k, n, c⟩
theorem obsY_eq {as : List Addr} {fn : List He.DefD} {fx : List Fx} {ex : PySem.W.Frag → Bool} {sd : SdL} {g : Addr → Option Obj} {s : Shared} (h : ∀ a, g a = s.heap.get? a) : obsY as fn fx ex sd g = (hookY as fn fx ex sd).obs s := by
  have e : g = s.heap.get? := funext h
  rw [e] <;> rfl
section
variable {fn : List He.DefD} {fx : List Fx} {ex : PySem.W.Frag → Bool} {sd : SdL} {w : World} {K : PySem.W.Frag}
theorem SaysY.bools (c : SaysY fn fx ex sd w K) : (fn.all fun d => d.ok K) = true ∧ ex K = true := He.ba (congrArg (fun z : AlY => z.2.2.1) c)
theorem SaysY.def_ (c : SaysY fn fx ex sd w K) (i : Nat) {d : He.DefD} (h : fn[i]? = some d := by rfl) : ∃ fd, FunD K d.name d.qual d.params d.body d.scope (d.dvs K) (d.kws K) (He.fAd K d.at_) fd := by
  have e : fn.map (fun d => He.fnW K d.at_) = fn.map He.DefD.val := congrArg (fun z : AlY => z.1) c
  have e2 : (fn.map fun d => He.fnW K d.at_)[i]? = (fn.map He.DefD.val)[i]? := by rw [e]
  rw [List.getElem?_map, List.getElem?_map, h] at e2
  exact He.DefD.funD (Option.some.inj e2) (List.all_eq_true.mp c.bools.1 d (List.mem_of_getElem? h))
theorem SaysY.fx_ (c : SaysY fn fx ex sd w K) (i : Nat) {d : Fx} (h : fx[i]? = some d := by rfl) : fnC K d.C = d.val := by
  have e : fx.map (fun d => fnC K d.C) = fx.map Fx.val := congrArg (fun z : AlY => z.2.1) c
  have e2 : (fx.map fun d => fnC K d.C)[i]? = (fx.map Fx.val)[i]? := by rw [e]
  rw [List.getElem?_map, List.getElem?_map, h] at e2
  exact Option.some.inj e2
theorem SaysY.sd_ (c : SaysY fn fx ex sd w K) (i : Nat) {q : Str × List (Key × V)} (h : sd[i]? = some q := by rfl) : sdObs K q = sdVal w q := by
  have e : sd.map (sdObs K) = sd.map (sdVal w) := congrArg (fun z : AlY => z.2.2.2) c
  have e2 : (sd.map (sdObs K))[i]? = (sd.map (sdVal w))[i]? := by rw [e]
  rw [List.getElem?_map, List.getElem?_map, h] at e2
  exact Option.some.inj e2
theorem keyOf_is {k : Key} {v : Value} (h : keyOf v = some k) : keyIs k v = true := by
  cases v <;> simp only [keyOf, Option.some.injEq] at h <;> first | (cases h; done) | (subst h; first | exact keyIs_int _ _ | exact keyIs_str _ _)
theorem sd_pairs {P : Program} {w : World} : ∀ {es : List DictEntry} {kvs : List (Key × V)}, es.map (fun e => (e.hash, keyOf e.key)) = kvs.map (fun p => (keyH w p.1, some p.1)) → Vals (kvs.map (·.2)) (es.map (·.val)) →
    ∃ vs, KV kvs vs ∧ Pairs (mixKind P w) es vs ∧ vs.map (·.1) = kvs.map (·.1) ∧ ∀ e ∈ es, ∃ k, (mixKind P w).is k e.key = true ∧ e.hash = (mixKind P w).hash k
  | [], [], _, _ => ⟨[], .nil, .nil, rfl, fun e h => by cases h⟩
  | [], _ :: _, h, _ => by simp at h
  | _ :: _, [], h, _ => by simp at h
  | e :: es, p :: kvs, h, r => by
    simp only [List.map_cons, List.cons.injEq, Prod.mk.injEq] at h
    obtain ⟨⟨h1, h2⟩, h3⟩ := h
    cases r with
    | cons r1 r2 =>
      obtain ⟨vs, q1, q2, q3, q4⟩ := sd_pairs (P := P) h3 r2
      refine ⟨(p.1, e.val) :: vs, .cons ⟨rfl, r1⟩ q1, .cons (keyOf_is h2) rfl q2, by rw [List.map_cons, List.map_cons, q3], fun x hx => ?_⟩
      rcases List.mem_cons.mp hx with rfl | hx
      · exact ⟨p.1, keyOf_is h2, h1⟩
      · exact q4 x hx
theorem sd_ok {P : Program} {q : Str × List (Key × V)} (e : sdObs K q = sdVal w q) (nd : (q.2.map (·.1)).Nodup) : (He.ga K q.1 == sysModules) = false ∧ ∃ o vs, K.lookup (He.ga K q.1) = some o ∧ KV q.2 vs ∧ ∀ h : Heap, h.get? (He.ga K q.1) = some o → h.DictOf (mixKind P w) (He.ga K q.1) vs := by
  unfold sdObs sdVal at e
  split at e
  · rename_i t es ep sl hk
    simp only [Option.some.injEq, Prod.mk.injEq] at e
    obtain ⟨e1, e2⟩ := e
    obtain ⟨h1, e2⟩ := He.ba e2
    obtain ⟨h2, e2⟩ := He.ba e2
    obtain ⟨h3, h4⟩ := He.ba e2
    obtain ⟨vs, q1, q2, q3, q4⟩ := sd_pairs (P := P) e1 (He.relAll_ok h3)
    refine ⟨by simpa using h4, _, vs, hk, q1, fun h hg => ⟨_, es, ep, hg, ⟨congrArg Value.type (of_decide_eq_true h1), rfl, of_decide_eq_true h2⟩, rfl, fun x hx => q4 x (Array.mem_toList_iff.mpr hx), q2, by rw [q3]; exact nd⟩⟩
  · cases e
/-- a default () of the def, by its keyword -/
def kwdAt (f : Str × Option Str) (x : Str) (K : PySem.W.Frag) : Addr := match K.lookup (He.fAd K f) with
  | some ⟨_, _, .func fd, _⟩ => (match fd.kwdefaults with
    | .ref D => (match PySem.W.nsIn K D x with
      | some (some (.ref a)) => a
      | _ => 0)
    | _ => 0)
  | _ => 0
def etChk (K : PySem.W.Frag) (a : Addr) : Bool := match K.lookup a with
  | some ⟨.type c, _, .seq its _, _⟩ => decide (c = "tuple") && decide (its = #[])
  | _ => false
theorem etChk_ok {a : Addr} (h : etChk K a = true) : ∀ H : Hp, SqT K H a [] := fun H => by
  unfold etChk at h
  split at h
  · rename_i c dd its n sl hk
    obtain ⟨h1, h2⟩ := He.ba h
    have e := of_decide_eq_true h2
    subst e
    exact .inr ⟨_, #[], n, hk, congrArg Value.type (of_decide_eq_true h1), rfl, by decide, .nil⟩
  · cases h
theorem pick {l : List Bool} (h : l.all id = true) (i : Nat) {b : Bool} (e : l[i]? = some b := by rfl) : b = true := List.all_eq_true.mp h b (List.mem_of_getElem? e)
theorem pickD {l : List Bool} (h : l.all id = true) (i : Nat) {p : Prop} [Decidable p] (e : l[i]? = some (decide p)) : p := of_decide_eq_true (pick h i e)
end
/-! ### own exceptions -/
def ccOf (K : PySem.W.Frag) (C : Str) : Addr := match K.lookup (fAt K C) with
  | some ⟨_, _, .func fd, _⟩ => (match fd.closure with
    | [(_, a)] => a
    | _ => 0)
  | _ => 0
def cdOf (K : PySem.W.Frag) (C : Str) : Addr := match K.lookup (fAt K C) with
  | some ⟨_, _, .func fd, _⟩ => (match fd.code with
    | .ref a => a
    | _ => 0)
  | _ => 0
def clsChk (a : Addr) : Option Obj → Bool
  | some ⟨.type t, _, .cls ⟨_, _, m0 :: bm, _, _, true, _, _, _, _, false⟩, sl⟩ => decide (t = "type") && (decide (m0 = .ref a) && (PySem.HandSPX.refsVE bm && (match sl.toList with
    | [_, _, _, _, some (.builtin b), _] => decide (b = "ValueError.__new__")
    | _ => false)))
  | _ => false
theorem clsChk_ok {a : Addr} {oo : Option Obj} (h : clsChk a oo = true) : ∃ nm q N bs bm sn sub ab col dd k0 k1 k2 k3 k5, oo = some (excClassObj nm q a N bs bm true sn sub ab col dd k0 k1 k2 k3 k5 "ValueError.__new__") ∧ PySem.HandSPX.refsVE bm = true := by
  unfold clsChk at h
  split at h
  · rename_i t dd nm bs m0 bm N q sn sub ab col sl
    obtain ⟨h1, h⟩ := He.ba h
    obtain ⟨h2, h⟩ := He.ba h
    obtain ⟨h3, h4⟩ := He.ba h
    have e1 := of_decide_eq_true h1
    have e2 := of_decide_eq_true h2
    subst e1 e2
    split at h4
    · rename_i k0 k1 k2 k3 b k5 es
      have e4 := of_decide_eq_true h4
      subst e4
      have e5 : sl = #[k0, k1, k2, k3, some (.builtin "ValueError.__new__"), k5] := by rw [← Array.toArray_toList (xs := sl), es]
      subst e5
      exact ⟨_, _, _, _, _, _, _, _, _, _, _, _, _, _, _, rfl, h3⟩
    · cases h4
  · cases h
def fnChk : Option Obj → Bool
  | some ⟨_, _, .func fd, _⟩ => (match fd.defaults, fd.closure, fd.code with
    | .none, [(_, _)], .ref _ => true
    | _, _, _ => false)
  | _ => false
def cellChk (a : Addr) : Option Obj → Bool
  | some ⟨_, _, .cell (some (.ref c)), _⟩ => decide (c = a)
  | _ => false
theorem cellChk_ok {a : Addr} {oo : Option Obj} (h : cellChk a oo = true) : ∃ o1 o2 o3, oo = some ⟨o1, o2, .cell (some (.ref a)), o3⟩ := by
  unfold cellChk at h
  split at h
  · rename_i o1 o2 c o3
    have e := of_decide_eq_true h
    subst e
    exact ⟨_, _, _, rfl⟩
  · cases h
def codeChk (qual file : Str) : Option Obj → Bool
  | some ⟨_, _, .fields vs, _⟩ => (match (vs[1]? : Option Value), (vs[2]? : Option Value) with
    | some (.str q _), some (.str fl _) => decide (q = qual) && (file == fl)
    | _, _ => false)
  | _ => false
theorem codeChk_ok {qual file : Str} {oo : Option Obj} (h : codeChk qual file oo = true) : ∃ o1 o2 vs o3 t fl tf, oo = some ⟨o1, o2, .fields vs, o3⟩ ∧ vs[1]? = some (.str qual t) ∧ vs[2]? = some (.str fl tf) ∧ (file == fl) = true := by
  unfold codeChk at h
  split at h
  · rename_i o1 o2 vs o3
    split at h
    · rename_i q t fl tf e1 e2
      obtain ⟨h1, h2⟩ := He.ba h
      have e := of_decide_eq_true h1
      subst e
      exact ⟨_, _, vs, _, t, fl, tf, rfl, e1, e2, h2⟩
    · cases h
  · cases h
def excChk (K : PySem.W.Frag) (file C qual : Str) : Bool := clsChk (He.ga K C) (K.lookup (He.ga K C)) && (fnChk (K.lookup (fAt K C)) && (cellChk (He.ga K C) (K.lookup (ccOf K C)) && (codeChk qual file (K.lookup (cdOf K C)) && (PySem.W.clsIn K (He.ga K C)).isSome)))
theorem fx_fn {K : PySem.W.Frag} {d : Fx} (e : fnC K d.C = d.val) (h : fnChk (K.lookup (fAt K d.C)) = true) :
    ∃ oc od kV doc pm an ct osl, K.lookup (fAt K d.C) = some ⟨oc, od, .func (PySem.W.fnX "__init__" d.qual d.params d.body d.scope [(("__class__" : Str), ccOf K d.C)] .none kV doc pm an (.ref (cdOf K d.C)) ct), osl⟩ := by
  unfold fnC at e
  unfold ccOf cdOf
  cases q : K.lookup (fAt K d.C) with
  | none => rw [q] at h; cases h
  | some o =>
    obtain ⟨oc, od, dt, osl⟩ := o
    rw [q] at e h
    cases dt with
    | func fd =>
      obtain ⟨n1, n2, n3, n4, n5, n6, n7, n8, n9, n10, n11, n12, n13, n14, n15⟩ := fd
      simp only [fnChk] at h
      split at h
      · rename_i x a c
        have e2 : (some (n1, n2, n3, n4, n5, n6, [x], n15) : FxV) = (some ("__init__", d.qual, d.params, .stmts d.body, d.scope, mainGlobals, ["__class__"], builtinsNs) : FxV) := e
        simp only [Option.some.injEq, Prod.mk.injEq, List.cons.injEq, and_true] at e2
        obtain ⟨h1, h2, h3, h4, h5, h6, h7, h8⟩ := e2
        subst h1 h2 h3 h4 h5 h6 h7 h8
        exact ⟨oc, od, n9, n10, n11, n12, n14, osl, rfl⟩
      · cases h
    | _ => cases h
theorem sx_of {K : PySem.W.Frag} {P : Program} {d : Fx} {N ps : List Str} (e : fnC K d.C = d.val) (h : excChk K P.main.file d.C d.qual = true)
    (sa : PySem.W.findIn K (.ref (He.ga K d.C)) "__setattr__" = some (some (.builtin "object.__setattr__"))) (exC : PySem.W.subIn K (.ref (He.ga K d.C)) (.type "BaseException") = some true) (tyC : PySem.W.typeIn K (.ref (He.ga K d.C)) = some (.type "type")) (kC : PySem.W.keepIn K (.ref (He.ga K d.C)) = true)
    (ini : PySem.W.findIn K (.ref (He.ga K d.C)) "__init__" = some (some (.ref (fAt K d.C)))) (ity : PySem.W.typeIn K (.ref (fAt K d.C)) = some (.type "function")) (top : (P.main.scope.names.lookup ("super" : Str)).isSome = false) (opq : PySem.W.nsIn K cStatics "thirdparty.any" = some none)
    (sup : PySem.W.ks_superIn K (He.ga K d.C) (He.ga K d.C) "__init__" = some (some (.builtin "ValueError.__init__"))) (subB : PySem.W.subIn K (.ref (He.ga K d.C)) (.type "ValueError") = some true) (mro : PySem.W.mroIn K (He.ga K d.C) (.ref (He.ga K d.C)) = some true)
    (sc : NdefX.NScope N ps ["__class__"] d.scope) (ks : d.scope.names.lookup ("super" : Str) = some .globalImplicit) (hd : (d.params.posonlyargs ++ d.params.args).head?.map (·.arg) = some ("self" : Str)) (p0 : ps[0]? = some ("self" : Str)) :
    ∃ f cc cd, G.SxC P K (He.ga K d.C) f cc ⟨"__init__", d.qual, d.params, d.body, d.scope, [(("__class__" : Str), cc)], cd⟩ N ps := by
  obtain ⟨h1, h⟩ := He.ba h
  obtain ⟨h2, h⟩ := He.ba h
  obtain ⟨h3, h⟩ := He.ba h
  obtain ⟨h4, h5⟩ := He.ba h
  exact ⟨fAt K d.C, ccOf K d.C, cdOf K d.C, { ox := ⟨clsChk_ok h1, sa, exC, tyC, kC⟩, ini := ini, ity := ity, fn := fx_fn e h2, cl := rfl, cell := cellChk_ok h3, code := codeChk_ok h4, top := top, opq := opq, sup := sup, subB := subB, hcl := Option.isSome_iff_exists.mp h5, mro := mro, sc := sc, ks := ks, hd := hd, p0 := p0 }⟩
/-! ### constants -/
def valChk (K : PySem.W.Frag) (a : Addr) (f : Str) (v : V) : Bool := PySem.W.readsIn K a (.type "type") && (decide (PySem.W.specialIn K (.ref a) "__getattribute__" = some (some (.builtin "type.__getattribute__"))) && (match PySem.W.findCls K (.ref a) (.type "type") f with
  | some (.val u) => He.relB v u
  | _ => false))
theorem valChk_ok {K : PySem.W.Frag} {a : Addr} {f : Str} {v : V} (h : valChk K a f v = true) : ∃ mc u, ClX.CRead K a mc ∧ ClX.CVal K a mc f v u := by
  obtain ⟨h1, h⟩ := He.ba h
  obtain ⟨h2, h3⟩ := He.ba h
  split at h3
  · rename_i u e
    exact ⟨_, u, ⟨h1, of_decide_eq_true h2⟩, ⟨e, He.relB_ok h3⟩⟩
  · cases h3
def glbChk (K : PySem.W.Frag) (x : Str) (v : V) : Bool := match PySem.W.nsIn K mainGlobals x with
  | some (some u) => He.relB v u
  | _ => false
theorem glbChk_ok {K : PySem.W.Frag} {h : Heap} {mg : Str → Option Value} (X : K.In h) (G : h.Ns mainGlobals mg) {x : Str} {v : V} (c : glbChk K x v = true) : ∃ u, mg x = some u ∧ RelV v u := by
  unfold glbChk at c
  split at c
  · rename_i u e
    exact ⟨u, PySem.W.mg_of X G e, He.relB_ok c⟩
  · cases c
theorem df_of {K : PySem.W.Frag} {mg : Str → Option Value} {x : Str} {st : Stmt} {f : Addr} {fd : FuncData} (D : FunD K x x (defArgs st) (defBody st) (defScope st) [] [] f fd) (hm : mg x = some (.ref f)) : Df K mg x st := by
  obtain ⟨oc, od, dV, kV, doc, pm, an, cdv, ct, osl, rfl, lk, hcd, hD, hK⟩ := D.ex
  rcases hD with ⟨_, rfl⟩ | ⟨e, _⟩
  · exact ⟨f, _, ⟨⟨oc, od, kV, doc, pm, an, cdv, ct, osl, rfl, lk, hcd⟩, D.kp⟩, hm⟩
  · exact absurd rfl e
end Hd
namespace Toy
open PySem PySem.Spec L2
def top (i : Nat) : Stmt := PySem.Challenge.pw_tabsure_k11_grammars_refused.main.body.getD i (.Pass ⟨0, 0, 0, 0⟩)
abbrev s__wall : Stmt := top 0
abbrev s_InvalidWord___init__ : Stmt := inClass (top 3) 0
abbrev s_InvalidName___init__ : Stmt := inClass (top 4) 0
abbrev s_InvalidNumber___init__ : Stmt := inClass (top 5) 0
abbrev s_InvalidRule___init__ : Stmt := inClass (top 6) 0
abbrev s_InvalidRow___init__ : Stmt := inClass (top 7) 0
abbrev s_InvalidChange___init__ : Stmt := inClass (top 8) 0
abbrev s_InvalidKey___init__ : Stmt := inClass (top 9) 0
abbrev s_InvalidText___init__ : Stmt := inClass (top 10) 0
abbrev s_InvalidWish___init__ : Stmt := inClass (top 11) 0
abbrev s_InvalidLimit___init__ : Stmt := inClass (top 12) 0
abbrev s_InvalidCommand___init__ : Stmt := inClass (top 13) 0
abbrev s_DuplicateName___init__ : Stmt := inClass (top 14) 0
abbrev s_WrongKind___init__ : Stmt := inClass (top 15) 0
abbrev s_TooMany___init__ : Stmt := inClass (top 16) 0
abbrev s_TooLong___init__ : Stmt := inClass (top 17) 0
abbrev s_Full___init__ : Stmt := inClass (top 18) 0
abbrev s_WrongWord___init__ : Stmt := inClass (top 19) 0
abbrev s_Mixed___init__ : Stmt := inClass (top 20) 0
abbrev s_NotLive___init__ : Stmt := inClass (top 21) 0
abbrev s_NoWord___init__ : Stmt := inClass (top 22) 0
abbrev s_Unlike___init__ : Stmt := inClass (top 23) 0
abbrev s_UnknownName___init__ : Stmt := inClass (top 25) 0
abbrev s_NothingLeft___init__ : Stmt := inClass (top 26) 0
abbrev s_is_number : Stmt := top 30
abbrev s_is_between : Stmt := top 31
abbrev s_is_option_name : Stmt := top 32
abbrev s_is_name : Stmt := top 33
abbrev s_Option___init__ : Stmt := inClass (top 38) 0
abbrev s_Option_all_items : Stmt := inClass (top 38) 1
abbrev s_Option___eq__ : Stmt := inClass (top 38) 2
abbrev s_Option___repr__ : Stmt := inClass (top 38) 3
abbrev s_is_rule : Stmt := top 39
abbrev s_need_different : Stmt := top 40
abbrev s_Command___init__ : Stmt := inClass (top 41) 0
abbrev s_Command_options : Stmt := inClass (top 41) 1
abbrev s_Command_places : Stmt := inClass (top 41) 2
abbrev s_Command_parts : Stmt := inClass (top 41) 3
abbrev s_Command_rules : Stmt := inClass (top 41) 4
abbrev s_Command_part : Stmt := inClass (top 41) 5
abbrev s_Command___eq__ : Stmt := inClass (top 41) 6
abbrev s_Command___len__ : Stmt := inClass (top 41) 7
abbrev s_Command___repr__ : Stmt := inClass (top 41) 8
abbrev s_below : Stmt := top 42
abbrev s_Grammar___init__ : Stmt := inClass (top 46) 2
abbrev s_Grammar_paths : Stmt := inClass (top 46) 4
abbrev s_Grammar_need_path : Stmt := inClass (top 46) 5
abbrev s_Grammar_command : Stmt := inClass (top 46) 6
abbrev s_Grammar_commands_on : Stmt := inClass (top 46) 7
abbrev s_Grammar_options_on : Stmt := inClass (top 46) 8
abbrev s_Grammar_kinds : Stmt := inClass (top 46) 9
abbrev s_Grammar_named : Stmt := inClass (top 46) 10
abbrev s_Grammar_without_rule : Stmt := inClass (top 46) 11
abbrev s_Grammar___eq__ : Stmt := inClass (top 46) 12
abbrev s_Grammar___len__ : Stmt := inClass (top 46) 13
abbrev s_Grammar___repr__ : Stmt := inClass (top 46) 14
abbrev s_command_at : Stmt := top 47
abbrev s__law_feed : Stmt := top 49
abbrev s__law_take : Stmt := top 50
abbrev s__law_mixed : Stmt := top 51
abbrev s__law_same : Stmt := top 52
abbrev s__law_try : Stmt := top 53
abbrev s__law_dashes : Stmt := top 54
abbrev s_law : Stmt := top 55
@[irreducible] def P : Program := PySem.Challenge.pw_tabsure_k11_grammars_refused
structure Gct (mg : Str → Option Value) : Prop where
  g_LETTERS : ∃ u, mg "LETTERS" = some u ∧ RelV (.str "abcdefghijklmnopqrstuvwxyz") u
  g_MOST_LETTERS : ∃ u, mg "MOST_LETTERS" = some u ∧ RelV (.int (6)) u
  g_MOST_TIMES : ∃ u, mg "MOST_TIMES" = some u ∧ RelV (.int (4)) u
  g_MOST_NEEDS : ∃ u, mg "MOST_NEEDS" = some u ∧ RelV (.int (4)) u
  g_MOST_LEVELS : ∃ u, mg "MOST_LEVELS" = some u ∧ RelV (.int (2)) u
  g_MOST_COMMANDS : ∃ u, mg "MOST_COMMANDS" = some u ∧ RelV (.int (12)) u

structure Cs where
  Option : Addr
  Command : Addr
  Grammar : Addr
  Option___init__ : Addr
  Option_all_items : Addr
  Option___eq__ : Addr
  Option___repr__ : Addr
  Command___init__ : Addr
  Command_options : Addr
  Command_places : Addr
  Command_parts : Addr
  Command_rules : Addr
  Command_part : Addr
  Command___eq__ : Addr
  Command___len__ : Addr
  Command___repr__ : Addr
  Grammar___init__ : Addr
  Grammar_paths : Addr
  Grammar_need_path : Addr
  Grammar_command : Addr
  Grammar_commands_on : Addr
  Grammar_options_on : Addr
  Grammar_kinds : Addr
  Grammar_named : Addr
  Grammar_without_rule : Addr
  Grammar___eq__ : Addr
  Grammar___len__ : Addr
  Grammar___repr__ : Addr
  s_BOUNDS : Addr
  t_Command___init___options : Addr
  t_Command___init___places : Addr
  t_Command___init___parts : Addr
  t_Command___init___rules : Addr
  InvalidWord : Addr
  InvalidName : Addr
  InvalidNumber : Addr
  InvalidWish : Addr
  InvalidLimit : Addr
  InvalidRule : Addr
  InvalidRow : Addr
  InvalidChange : Addr
  InvalidKey : Addr
  InvalidText : Addr
  InvalidCommand : Addr
  DuplicateName : Addr
  WrongKind : Addr
  UnknownName : Addr
  TooMany : Addr
  TooLong : Addr
  Full : Addr
  WrongWord : Addr
  Mixed : Addr
  NotLive : Addr
  NoWord : Addr
  Unlike : Addr
  NothingLeft : Addr
structure Alls (K : PySem.W.Frag) (mg : Str → Option Value) (c : Cs) : Prop where
  sn_BOUNDS : mg "BOUNDS" = some (.ref c.s_BOUNDS)
  n_Option : mg "Option" = some (.ref c.Option)
  cl_Option : Cls K c.Option
  ty_Option : ∀ {H : Hp} {a dx : Addr} {fs : List (Str × V)}, H a = some (.ins c.Option dx fs) → TyOf K H (.ref a) (.ref c.Option)
  n_Command : mg "Command" = some (.ref c.Command)
  cl_Command : Cls K c.Command
  ty_Command : ∀ {H : Hp} {a dx : Addr} {fs : List (Str × V)}, H a = some (.ins c.Command dx fs) → TyOf K H (.ref a) (.ref c.Command)
  n_Grammar : mg "Grammar" = some (.ref c.Grammar)
  cl_Grammar : Cls K c.Grammar
  ty_Grammar : ∀ {H : Hp} {a dx : Addr} {fs : List (Str × V)}, H a = some (.ins c.Grammar dx fs) → TyOf K H (.ref a) (.ref c.Grammar)
  f_Option___init__ : Fd K "__init__" "Option.__init__" s_Option___init__ [.non] [("most", .int (1))] c.Option___init__
  f_Option_all_items : Fd K "all_items" "Option.all_items" s_Option_all_items [] [] c.Option_all_items
  f_Option___eq__ : Fd K "__eq__" "Option.__eq__" s_Option___eq__ [] [] c.Option___eq__
  f_Option___repr__ : Fd K "__repr__" "Option.__repr__" s_Option___repr__ [] [] c.Option___repr__
  td_t_Command___init___options : ∀ H : Hp, SqT K H c.t_Command___init___options []
  td_t_Command___init___places : ∀ H : Hp, SqT K H c.t_Command___init___places []
  td_t_Command___init___parts : ∀ H : Hp, SqT K H c.t_Command___init___parts []
  td_t_Command___init___rules : ∀ H : Hp, SqT K H c.t_Command___init___rules []
  f_Command___init__ : Fd K "__init__" "Command.__init__" s_Command___init__ [] [("options", .ref c.t_Command___init___options), ("places", .ref c.t_Command___init___places), ("parts", .ref c.t_Command___init___parts), ("rules", .ref c.t_Command___init___rules)] c.Command___init__
  f_Command_options : Fd K "options" "Command.options" s_Command_options [] [] c.Command_options
  f_Command_places : Fd K "places" "Command.places" s_Command_places [] [] c.Command_places
  f_Command_parts : Fd K "parts" "Command.parts" s_Command_parts [] [] c.Command_parts
  f_Command_rules : Fd K "rules" "Command.rules" s_Command_rules [] [] c.Command_rules
  f_Command_part : Fd K "part" "Command.part" s_Command_part [] [] c.Command_part
  f_Command___eq__ : Fd K "__eq__" "Command.__eq__" s_Command___eq__ [] [] c.Command___eq__
  f_Command___len__ : Fd K "__len__" "Command.__len__" s_Command___len__ [] [] c.Command___len__
  f_Command___repr__ : Fd K "__repr__" "Command.__repr__" s_Command___repr__ [] [] c.Command___repr__
  f_Grammar___init__ : Fd K "__init__" "Grammar.__init__" s_Grammar___init__ [] [] c.Grammar___init__
  f_Grammar_paths : Fd K "paths" "Grammar.paths" s_Grammar_paths [] [] c.Grammar_paths
  f_Grammar_need_path : Fd K "need_path" "Grammar.need_path" s_Grammar_need_path [] [] c.Grammar_need_path
  f_Grammar_command : Fd K "command" "Grammar.command" s_Grammar_command [] [] c.Grammar_command
  f_Grammar_commands_on : Fd K "commands_on" "Grammar.commands_on" s_Grammar_commands_on [] [] c.Grammar_commands_on
  f_Grammar_options_on : Fd K "options_on" "Grammar.options_on" s_Grammar_options_on [] [] c.Grammar_options_on
  f_Grammar_kinds : Fd K "kinds" "Grammar.kinds" s_Grammar_kinds [] [] c.Grammar_kinds
  f_Grammar_named : Fd K "named" "Grammar.named" s_Grammar_named [] [] c.Grammar_named
  f_Grammar_without_rule : Fd K "without_rule" "Grammar.without_rule" s_Grammar_without_rule [] [] c.Grammar_without_rule
  f_Grammar___eq__ : Fd K "__eq__" "Grammar.__eq__" s_Grammar___eq__ [] [] c.Grammar___eq__
  f_Grammar___len__ : Fd K "__len__" "Grammar.__len__" s_Grammar___len__ [] [] c.Grammar___len__
  f_Grammar___repr__ : Fd K "__repr__" "Grammar.__repr__" s_Grammar___repr__ [] [] c.Grammar___repr__
  mk_Option : Mk K c.Option c.Option___init__
  me_Option_all_items : Meth K c.Option "all_items" c.Option_all_items
  me_Option___eq__ : Meth K c.Option "__eq__" c.Option___eq__
  me_Option___repr__ : Meth K c.Option "__repr__" c.Option___repr__
  ne_Option : NoNe K c.Option
  nn_Option : PySem.W.subIn K (.ref c.Option) (.type "NoneType") = some false
  na_Option_name : NoAttr K c.Option "name"
  na_Option_kind : NoAttr K c.Option "kind"
  na_Option_most : NoAttr K c.Option "most"
  mk_Command : Mk K c.Command c.Command___init__
  me_Command_options : Meth K c.Command "options" c.Command_options
  me_Command_places : Meth K c.Command "places" c.Command_places
  me_Command_parts : Meth K c.Command "parts" c.Command_parts
  me_Command_rules : Meth K c.Command "rules" c.Command_rules
  me_Command_part : Meth K c.Command "part" c.Command_part
  me_Command___eq__ : Meth K c.Command "__eq__" c.Command___eq__
  me_Command___len__ : Meth K c.Command "__len__" c.Command___len__
  me_Command___repr__ : Meth K c.Command "__repr__" c.Command___repr__
  ne_Command : NoNe K c.Command
  nn_Command : PySem.W.subIn K (.ref c.Command) (.type "NoneType") = some false
  na_Command_name : NoAttr K c.Command "name"
  na_Command_own_options : NoAttr K c.Command "own_options"
  na_Command_own_places : NoAttr K c.Command "own_places"
  na_Command_own_parts : NoAttr K c.Command "own_parts"
  na_Command_own_rules : NoAttr K c.Command "own_rules"
  mk_Grammar : Mk K c.Grammar c.Grammar___init__
  me_Grammar_paths : Meth K c.Grammar "paths" c.Grammar_paths
  me_Grammar_need_path : Meth K c.Grammar "need_path" c.Grammar_need_path
  me_Grammar_command : Meth K c.Grammar "command" c.Grammar_command
  me_Grammar_commands_on : Meth K c.Grammar "commands_on" c.Grammar_commands_on
  me_Grammar_options_on : Meth K c.Grammar "options_on" c.Grammar_options_on
  me_Grammar_kinds : Meth K c.Grammar "kinds" c.Grammar_kinds
  me_Grammar_named : Meth K c.Grammar "named" c.Grammar_named
  me_Grammar_without_rule : Meth K c.Grammar "without_rule" c.Grammar_without_rule
  me_Grammar___eq__ : Meth K c.Grammar "__eq__" c.Grammar___eq__
  me_Grammar___len__ : Meth K c.Grammar "__len__" c.Grammar___len__
  me_Grammar___repr__ : Meth K c.Grammar "__repr__" c.Grammar___repr__
  ne_Grammar : NoNe K c.Grammar
  nn_Grammar : PySem.W.subIn K (.ref c.Grammar) (.type "NoneType") = some false
  na_Grammar_own_top : NoAttr K c.Grammar "own_top"
  na_Grammar_table : NoAttr K c.Grammar "table"
  cv_Grammar_LEVELS : ∃ mc u, ClX.CRead K c.Grammar mc ∧ ClX.CVal K c.Grammar mc "LEVELS" (.int (2)) u
  cv_Grammar_MOST : ∃ mc u, ClX.CRead K c.Grammar mc ∧ ClX.CVal K c.Grammar mc "MOST" (.int (12)) u
  isa_NoneType_Option : PySem.W.kitOne K (.type "NoneType") (.ref c.Option) = some false
  isa_bool_Option : PySem.W.kitOne K (.type "bool") (.ref c.Option) = some false
  isa_int_Option : PySem.W.kitOne K (.type "int") (.ref c.Option) = some false
  isa_str_Option : PySem.W.kitOne K (.type "str") (.ref c.Option) = some false
  isa_list_Option : PySem.W.kitOne K (.type "list") (.ref c.Option) = some false
  isa_tuple_Option : PySem.W.kitOne K (.type "tuple") (.ref c.Option) = some false
  isa_dict_Option : PySem.W.kitOne K (.type "dict") (.ref c.Option) = some false
  isa_Option_Option : PySem.W.kitOne K (.ref c.Option) (.ref c.Option) = some true
  isa_Command_Option : PySem.W.kitOne K (.ref c.Command) (.ref c.Option) = some false
  isa_Grammar_Option : PySem.W.kitOne K (.ref c.Grammar) (.ref c.Option) = some false
  isa_NoneType_Grammar : PySem.W.kitOne K (.type "NoneType") (.ref c.Grammar) = some false
  isa_bool_Grammar : PySem.W.kitOne K (.type "bool") (.ref c.Grammar) = some false
  isa_int_Grammar : PySem.W.kitOne K (.type "int") (.ref c.Grammar) = some false
  isa_str_Grammar : PySem.W.kitOne K (.type "str") (.ref c.Grammar) = some false
  isa_list_Grammar : PySem.W.kitOne K (.type "list") (.ref c.Grammar) = some false
  isa_tuple_Grammar : PySem.W.kitOne K (.type "tuple") (.ref c.Grammar) = some false
  isa_dict_Grammar : PySem.W.kitOne K (.type "dict") (.ref c.Grammar) = some false
  isa_Option_Grammar : PySem.W.kitOne K (.ref c.Option) (.ref c.Grammar) = some false
  isa_Command_Grammar : PySem.W.kitOne K (.ref c.Command) (.ref c.Grammar) = some false
  isa_Grammar_Grammar : PySem.W.kitOne K (.ref c.Grammar) (.ref c.Grammar) = some true
  isa_NoneType_Command : PySem.W.kitOne K (.type "NoneType") (.ref c.Command) = some false
  isa_bool_Command : PySem.W.kitOne K (.type "bool") (.ref c.Command) = some false
  isa_int_Command : PySem.W.kitOne K (.type "int") (.ref c.Command) = some false
  isa_str_Command : PySem.W.kitOne K (.type "str") (.ref c.Command) = some false
  isa_list_Command : PySem.W.kitOne K (.type "list") (.ref c.Command) = some false
  isa_tuple_Command : PySem.W.kitOne K (.type "tuple") (.ref c.Command) = some false
  isa_dict_Command : PySem.W.kitOne K (.type "dict") (.ref c.Command) = some false
  isa_Option_Command : PySem.W.kitOne K (.ref c.Option) (.ref c.Command) = some false
  isa_Command_Command : PySem.W.kitOne K (.ref c.Command) (.ref c.Command) = some true
  isa_Grammar_Command : PySem.W.kitOne K (.ref c.Grammar) (.ref c.Command) = some false
  nf_Option_NoneType : PySem.W.notFirst K c.Option (.type "NoneType") = true
  nf_Option_bool : PySem.W.notFirst K c.Option (.type "bool") = true
  nf_Option_int : PySem.W.notFirst K c.Option (.type "int") = true
  nf_Option_str : PySem.W.notFirst K c.Option (.type "str") = true
  nf_Option_list : PySem.W.notFirst K c.Option (.type "list") = true
  nf_Option_tuple : PySem.W.notFirst K c.Option (.type "tuple") = true
  nf_Option_dict : PySem.W.notFirst K c.Option (.type "dict") = true
  nf_Option_Option : PySem.W.notFirst K c.Option (.ref c.Option) = true
  nf_Command_NoneType : PySem.W.notFirst K c.Command (.type "NoneType") = true
  nf_Command_bool : PySem.W.notFirst K c.Command (.type "bool") = true
  nf_Command_int : PySem.W.notFirst K c.Command (.type "int") = true
  nf_Command_str : PySem.W.notFirst K c.Command (.type "str") = true
  nf_Command_list : PySem.W.notFirst K c.Command (.type "list") = true
  nf_Command_tuple : PySem.W.notFirst K c.Command (.type "tuple") = true
  nf_Command_dict : PySem.W.notFirst K c.Command (.type "dict") = true
  nf_Command_Command : PySem.W.notFirst K c.Command (.ref c.Command) = true
  nf_Grammar_NoneType : PySem.W.notFirst K c.Grammar (.type "NoneType") = true
  nf_Grammar_bool : PySem.W.notFirst K c.Grammar (.type "bool") = true
  nf_Grammar_int : PySem.W.notFirst K c.Grammar (.type "int") = true
  nf_Grammar_str : PySem.W.notFirst K c.Grammar (.type "str") = true
  nf_Grammar_list : PySem.W.notFirst K c.Grammar (.type "list") = true
  nf_Grammar_tuple : PySem.W.notFirst K c.Grammar (.type "tuple") = true
  nf_Grammar_dict : PySem.W.notFirst K c.Grammar (.type "dict") = true
  nf_Grammar_Grammar : PySem.W.notFirst K c.Grammar (.ref c.Grammar) = true
  g__wall : ∃ f, FdG K mg "_wall" s__wall [] [] f
  g_is_number : ∃ f, FdG K mg "is_number" s_is_number [] [] f
  g_is_between : ∃ f, FdG K mg "is_between" s_is_between [] [] f
  g_is_option_name : ∃ f, FdG K mg "is_option_name" s_is_option_name [] [] f
  g_is_name : ∃ f, FdG K mg "is_name" s_is_name [] [] f
  g_is_rule : ∃ f, FdG K mg "is_rule" s_is_rule [] [] f
  g_need_different : ∃ f, FdG K mg "need_different" s_need_different [] [] f
  g_below : ∃ f, FdG K mg "below" s_below [] [] f
  g_command_at : ∃ f, FdG K mg "command_at" s_command_at [] [] f
  d__law_feed : Df K mg "_law_feed" s__law_feed
  d__law_take : Df K mg "_law_take" s__law_take
  g__law_mixed : ∃ f, FdG K mg "_law_mixed" s__law_mixed [] [] f
  g__law_same : ∃ f, FdG K mg "_law_same" s__law_same [] [] f
  d__law_try : Df K mg "_law_try" s__law_try
  g__law_dashes : ∃ f, FdG K mg "_law_dashes" s__law_dashes [] [] f
  d_law : Df K mg "law" s_law
  n_InvalidWord : mg "InvalidWord" = some (.ref c.InvalidWord)
  n_InvalidName : mg "InvalidName" = some (.ref c.InvalidName)
  n_InvalidNumber : mg "InvalidNumber" = some (.ref c.InvalidNumber)
  n_InvalidWish : mg "InvalidWish" = some (.ref c.InvalidWish)
  n_InvalidLimit : mg "InvalidLimit" = some (.ref c.InvalidLimit)
  n_InvalidRule : mg "InvalidRule" = some (.ref c.InvalidRule)
  n_InvalidRow : mg "InvalidRow" = some (.ref c.InvalidRow)
  n_InvalidChange : mg "InvalidChange" = some (.ref c.InvalidChange)
  n_InvalidKey : mg "InvalidKey" = some (.ref c.InvalidKey)
  n_InvalidText : mg "InvalidText" = some (.ref c.InvalidText)
  n_InvalidCommand : mg "InvalidCommand" = some (.ref c.InvalidCommand)
  n_DuplicateName : mg "DuplicateName" = some (.ref c.DuplicateName)
  n_WrongKind : mg "WrongKind" = some (.ref c.WrongKind)
  n_UnknownName : mg "UnknownName" = some (.ref c.UnknownName)
  n_TooMany : mg "TooMany" = some (.ref c.TooMany)
  n_TooLong : mg "TooLong" = some (.ref c.TooLong)
  n_Full : mg "Full" = some (.ref c.Full)
  n_WrongWord : mg "WrongWord" = some (.ref c.WrongWord)
  n_Mixed : mg "Mixed" = some (.ref c.Mixed)
  n_NotLive : mg "NotLive" = some (.ref c.NotLive)
  n_NoWord : mg "NoWord" = some (.ref c.NoWord)
  n_Unlike : mg "Unlike" = some (.ref c.Unlike)
  n_NothingLeft : mg "NothingLeft" = some (.ref c.NothingLeft)
  exm_InvalidName_InvalidWord : PySem.W.exmOne K (.ref c.InvalidName) (.ref c.InvalidWord) = some false
  exm_InvalidName_InvalidName : PySem.W.exmOne K (.ref c.InvalidName) (.ref c.InvalidName) = some true
  exm_InvalidName_InvalidNumber : PySem.W.exmOne K (.ref c.InvalidName) (.ref c.InvalidNumber) = some false
  exm_InvalidName_InvalidWish : PySem.W.exmOne K (.ref c.InvalidName) (.ref c.InvalidWish) = some false
  exm_InvalidName_InvalidLimit : PySem.W.exmOne K (.ref c.InvalidName) (.ref c.InvalidLimit) = some false
  xno_InvalidName_given : PySem.W.findIn K (.ref c.InvalidName) "given" = some none
  xno_InvalidName_code : PySem.W.findIn K (.ref c.InvalidName) "code" = some none
  xf_InvalidName : XfC K c.InvalidName
  sx_InvalidName : ∃ f cc cd, G.SxC Toy.P K c.InvalidName f cc ⟨"__init__", "InvalidName.__init__", defArgs s_InvalidName___init__, defBody s_InvalidName___init__, defScope s_InvalidName___init__, [(("__class__" : Str), cc)], cd⟩ ["self", "given", "__class__"] ["self", "given"]
  exm_InvalidNumber_InvalidWord : PySem.W.exmOne K (.ref c.InvalidNumber) (.ref c.InvalidWord) = some false
  exm_InvalidNumber_InvalidName : PySem.W.exmOne K (.ref c.InvalidNumber) (.ref c.InvalidName) = some false
  exm_InvalidNumber_InvalidNumber : PySem.W.exmOne K (.ref c.InvalidNumber) (.ref c.InvalidNumber) = some true
  exm_InvalidNumber_InvalidWish : PySem.W.exmOne K (.ref c.InvalidNumber) (.ref c.InvalidWish) = some false
  exm_InvalidNumber_InvalidLimit : PySem.W.exmOne K (.ref c.InvalidNumber) (.ref c.InvalidLimit) = some false
  xno_InvalidNumber_given : PySem.W.findIn K (.ref c.InvalidNumber) "given" = some none
  xno_InvalidNumber_code : PySem.W.findIn K (.ref c.InvalidNumber) "code" = some none
  xf_InvalidNumber : XfC K c.InvalidNumber
  sx_InvalidNumber : ∃ f cc cd, G.SxC Toy.P K c.InvalidNumber f cc ⟨"__init__", "InvalidNumber.__init__", defArgs s_InvalidNumber___init__, defBody s_InvalidNumber___init__, defScope s_InvalidNumber___init__, [(("__class__" : Str), cc)], cd⟩ ["self", "given", "__class__"] ["self", "given"]
  exm_InvalidRule_InvalidWord : PySem.W.exmOne K (.ref c.InvalidRule) (.ref c.InvalidWord) = some false
  exm_InvalidRule_InvalidName : PySem.W.exmOne K (.ref c.InvalidRule) (.ref c.InvalidName) = some false
  exm_InvalidRule_InvalidNumber : PySem.W.exmOne K (.ref c.InvalidRule) (.ref c.InvalidNumber) = some false
  exm_InvalidRule_InvalidWish : PySem.W.exmOne K (.ref c.InvalidRule) (.ref c.InvalidWish) = some false
  exm_InvalidRule_InvalidLimit : PySem.W.exmOne K (.ref c.InvalidRule) (.ref c.InvalidLimit) = some false
  exm_InvalidRule_InvalidRule : PySem.W.exmOne K (.ref c.InvalidRule) (.ref c.InvalidRule) = some true
  exm_InvalidRule_InvalidRow : PySem.W.exmOne K (.ref c.InvalidRule) (.ref c.InvalidRow) = some false
  exm_InvalidRule_InvalidChange : PySem.W.exmOne K (.ref c.InvalidRule) (.ref c.InvalidChange) = some false
  exm_InvalidRule_InvalidKey : PySem.W.exmOne K (.ref c.InvalidRule) (.ref c.InvalidKey) = some false
  exm_InvalidRule_InvalidText : PySem.W.exmOne K (.ref c.InvalidRule) (.ref c.InvalidText) = some false
  exm_InvalidRule_InvalidCommand : PySem.W.exmOne K (.ref c.InvalidRule) (.ref c.InvalidCommand) = some false
  xno_InvalidRule_at : PySem.W.findIn K (.ref c.InvalidRule) "at" = some none
  xno_InvalidRule_code : PySem.W.findIn K (.ref c.InvalidRule) "code" = some none
  xf_InvalidRule : XfC K c.InvalidRule
  sx_InvalidRule : ∃ f cc cd, G.SxC Toy.P K c.InvalidRule f cc ⟨"__init__", "InvalidRule.__init__", defArgs s_InvalidRule___init__, defBody s_InvalidRule___init__, defScope s_InvalidRule___init__, [(("__class__" : Str), cc)], cd⟩ ["self", "at", "__class__"] ["self", "at"]
  exm_DuplicateName_InvalidWord : PySem.W.exmOne K (.ref c.DuplicateName) (.ref c.InvalidWord) = some false
  exm_DuplicateName_InvalidName : PySem.W.exmOne K (.ref c.DuplicateName) (.ref c.InvalidName) = some false
  exm_DuplicateName_InvalidNumber : PySem.W.exmOne K (.ref c.DuplicateName) (.ref c.InvalidNumber) = some false
  exm_DuplicateName_InvalidWish : PySem.W.exmOne K (.ref c.DuplicateName) (.ref c.InvalidWish) = some false
  exm_DuplicateName_InvalidLimit : PySem.W.exmOne K (.ref c.DuplicateName) (.ref c.InvalidLimit) = some false
  exm_DuplicateName_InvalidRule : PySem.W.exmOne K (.ref c.DuplicateName) (.ref c.InvalidRule) = some false
  exm_DuplicateName_InvalidRow : PySem.W.exmOne K (.ref c.DuplicateName) (.ref c.InvalidRow) = some false
  exm_DuplicateName_InvalidChange : PySem.W.exmOne K (.ref c.DuplicateName) (.ref c.InvalidChange) = some false
  exm_DuplicateName_InvalidKey : PySem.W.exmOne K (.ref c.DuplicateName) (.ref c.InvalidKey) = some false
  exm_DuplicateName_InvalidText : PySem.W.exmOne K (.ref c.DuplicateName) (.ref c.InvalidText) = some false
  exm_DuplicateName_InvalidCommand : PySem.W.exmOne K (.ref c.DuplicateName) (.ref c.InvalidCommand) = some false
  exm_DuplicateName_DuplicateName : PySem.W.exmOne K (.ref c.DuplicateName) (.ref c.DuplicateName) = some true
  exm_DuplicateName_WrongKind : PySem.W.exmOne K (.ref c.DuplicateName) (.ref c.WrongKind) = some false
  exm_DuplicateName_UnknownName : PySem.W.exmOne K (.ref c.DuplicateName) (.ref c.UnknownName) = some false
  xno_DuplicateName_name : PySem.W.findIn K (.ref c.DuplicateName) "name" = some none
  xno_DuplicateName_code : PySem.W.findIn K (.ref c.DuplicateName) "code" = some none
  xf_DuplicateName : XfC K c.DuplicateName
  sx_DuplicateName : ∃ f cc cd, G.SxC Toy.P K c.DuplicateName f cc ⟨"__init__", "DuplicateName.__init__", defArgs s_DuplicateName___init__, defBody s_DuplicateName___init__, defScope s_DuplicateName___init__, [(("__class__" : Str), cc)], cd⟩ ["self", "name", "__class__"] ["self", "name"]
  exm_TooMany_InvalidWord : PySem.W.exmOne K (.ref c.TooMany) (.ref c.InvalidWord) = some false
  exm_TooMany_InvalidName : PySem.W.exmOne K (.ref c.TooMany) (.ref c.InvalidName) = some false
  exm_TooMany_InvalidNumber : PySem.W.exmOne K (.ref c.TooMany) (.ref c.InvalidNumber) = some false
  exm_TooMany_InvalidWish : PySem.W.exmOne K (.ref c.TooMany) (.ref c.InvalidWish) = some false
  exm_TooMany_InvalidLimit : PySem.W.exmOne K (.ref c.TooMany) (.ref c.InvalidLimit) = some false
  exm_TooMany_InvalidRule : PySem.W.exmOne K (.ref c.TooMany) (.ref c.InvalidRule) = some false
  exm_TooMany_InvalidRow : PySem.W.exmOne K (.ref c.TooMany) (.ref c.InvalidRow) = some false
  exm_TooMany_InvalidChange : PySem.W.exmOne K (.ref c.TooMany) (.ref c.InvalidChange) = some false
  exm_TooMany_InvalidKey : PySem.W.exmOne K (.ref c.TooMany) (.ref c.InvalidKey) = some false
  exm_TooMany_InvalidText : PySem.W.exmOne K (.ref c.TooMany) (.ref c.InvalidText) = some false
  exm_TooMany_InvalidCommand : PySem.W.exmOne K (.ref c.TooMany) (.ref c.InvalidCommand) = some false
  exm_TooMany_DuplicateName : PySem.W.exmOne K (.ref c.TooMany) (.ref c.DuplicateName) = some false
  exm_TooMany_WrongKind : PySem.W.exmOne K (.ref c.TooMany) (.ref c.WrongKind) = some false
  exm_TooMany_UnknownName : PySem.W.exmOne K (.ref c.TooMany) (.ref c.UnknownName) = some false
  exm_TooMany_TooMany : PySem.W.exmOne K (.ref c.TooMany) (.ref c.TooMany) = some true
  xno_TooMany_subject : PySem.W.findIn K (.ref c.TooMany) "subject" = some none
  xno_TooMany_most : PySem.W.findIn K (.ref c.TooMany) "most" = some none
  xno_TooMany_code : PySem.W.findIn K (.ref c.TooMany) "code" = some none
  xf_TooMany : XfC K c.TooMany
  sx_TooMany : ∃ f cc cd, G.SxC Toy.P K c.TooMany f cc ⟨"__init__", "TooMany.__init__", defArgs s_TooMany___init__, defBody s_TooMany___init__, defScope s_TooMany___init__, [(("__class__" : Str), cc)], cd⟩ ["self", "subject", "most", "__class__"] ["self", "subject", "most"]
  T : Txt mg
  GC : Gct mg
def dD_Option___init__ : He.DefD := ⟨("Option", some "__init__"), "__init__", "Option.__init__", defArgs s_Option___init__, defBody s_Option___init__, defScope s_Option___init__, [.non], [("most", .int (1))]⟩
def dD_Option_all_items : He.DefD := ⟨("Option", some "all_items"), "all_items", "Option.all_items", defArgs s_Option_all_items, defBody s_Option_all_items, defScope s_Option_all_items, [], []⟩
def dD_Option___eq__ : He.DefD := ⟨("Option", some "__eq__"), "__eq__", "Option.__eq__", defArgs s_Option___eq__, defBody s_Option___eq__, defScope s_Option___eq__, [], []⟩
def dD_Option___repr__ : He.DefD := ⟨("Option", some "__repr__"), "__repr__", "Option.__repr__", defArgs s_Option___repr__, defBody s_Option___repr__, defScope s_Option___repr__, [], []⟩
def dD_Command___init__ : He.DefD := ⟨("Command", some "__init__"), "__init__", "Command.__init__", defArgs s_Command___init__, defBody s_Command___init__, defScope s_Command___init__, [], [("options", .adr (Hd.kwdAt ("Command", some "__init__") "options")), ("places", .adr (Hd.kwdAt ("Command", some "__init__") "places")), ("parts", .adr (Hd.kwdAt ("Command", some "__init__") "parts")), ("rules", .adr (Hd.kwdAt ("Command", some "__init__") "rules"))]⟩
def dD_Command_options : He.DefD := ⟨("Command", some "options"), "options", "Command.options", defArgs s_Command_options, defBody s_Command_options, defScope s_Command_options, [], []⟩
def dD_Command_places : He.DefD := ⟨("Command", some "places"), "places", "Command.places", defArgs s_Command_places, defBody s_Command_places, defScope s_Command_places, [], []⟩
def dD_Command_parts : He.DefD := ⟨("Command", some "parts"), "parts", "Command.parts", defArgs s_Command_parts, defBody s_Command_parts, defScope s_Command_parts, [], []⟩
def dD_Command_rules : He.DefD := ⟨("Command", some "rules"), "rules", "Command.rules", defArgs s_Command_rules, defBody s_Command_rules, defScope s_Command_rules, [], []⟩
def dD_Command_part : He.DefD := ⟨("Command", some "part"), "part", "Command.part", defArgs s_Command_part, defBody s_Command_part, defScope s_Command_part, [], []⟩
def dD_Command___eq__ : He.DefD := ⟨("Command", some "__eq__"), "__eq__", "Command.__eq__", defArgs s_Command___eq__, defBody s_Command___eq__, defScope s_Command___eq__, [], []⟩
def dD_Command___len__ : He.DefD := ⟨("Command", some "__len__"), "__len__", "Command.__len__", defArgs s_Command___len__, defBody s_Command___len__, defScope s_Command___len__, [], []⟩
def dD_Command___repr__ : He.DefD := ⟨("Command", some "__repr__"), "__repr__", "Command.__repr__", defArgs s_Command___repr__, defBody s_Command___repr__, defScope s_Command___repr__, [], []⟩
def dD_Grammar___init__ : He.DefD := ⟨("Grammar", some "__init__"), "__init__", "Grammar.__init__", defArgs s_Grammar___init__, defBody s_Grammar___init__, defScope s_Grammar___init__, [], []⟩
def dD_Grammar_paths : He.DefD := ⟨("Grammar", some "paths"), "paths", "Grammar.paths", defArgs s_Grammar_paths, defBody s_Grammar_paths, defScope s_Grammar_paths, [], []⟩
def dD_Grammar_need_path : He.DefD := ⟨("Grammar", some "need_path"), "need_path", "Grammar.need_path", defArgs s_Grammar_need_path, defBody s_Grammar_need_path, defScope s_Grammar_need_path, [], []⟩
def dD_Grammar_command : He.DefD := ⟨("Grammar", some "command"), "command", "Grammar.command", defArgs s_Grammar_command, defBody s_Grammar_command, defScope s_Grammar_command, [], []⟩
def dD_Grammar_commands_on : He.DefD := ⟨("Grammar", some "commands_on"), "commands_on", "Grammar.commands_on", defArgs s_Grammar_commands_on, defBody s_Grammar_commands_on, defScope s_Grammar_commands_on, [], []⟩
def dD_Grammar_options_on : He.DefD := ⟨("Grammar", some "options_on"), "options_on", "Grammar.options_on", defArgs s_Grammar_options_on, defBody s_Grammar_options_on, defScope s_Grammar_options_on, [], []⟩
def dD_Grammar_kinds : He.DefD := ⟨("Grammar", some "kinds"), "kinds", "Grammar.kinds", defArgs s_Grammar_kinds, defBody s_Grammar_kinds, defScope s_Grammar_kinds, [], []⟩
def dD_Grammar_named : He.DefD := ⟨("Grammar", some "named"), "named", "Grammar.named", defArgs s_Grammar_named, defBody s_Grammar_named, defScope s_Grammar_named, [], []⟩
def dD_Grammar_without_rule : He.DefD := ⟨("Grammar", some "without_rule"), "without_rule", "Grammar.without_rule", defArgs s_Grammar_without_rule, defBody s_Grammar_without_rule, defScope s_Grammar_without_rule, [], []⟩
def dD_Grammar___eq__ : He.DefD := ⟨("Grammar", some "__eq__"), "__eq__", "Grammar.__eq__", defArgs s_Grammar___eq__, defBody s_Grammar___eq__, defScope s_Grammar___eq__, [], []⟩
def dD_Grammar___len__ : He.DefD := ⟨("Grammar", some "__len__"), "__len__", "Grammar.__len__", defArgs s_Grammar___len__, defBody s_Grammar___len__, defScope s_Grammar___len__, [], []⟩
def dD_Grammar___repr__ : He.DefD := ⟨("Grammar", some "__repr__"), "__repr__", "Grammar.__repr__", defArgs s_Grammar___repr__, defBody s_Grammar___repr__, defScope s_Grammar___repr__, [], []⟩
def dD__wall : He.DefD := ⟨("_wall", none), "_wall", "_wall", defArgs s__wall, defBody s__wall, defScope s__wall, [], []⟩
def dD_is_number : He.DefD := ⟨("is_number", none), "is_number", "is_number", defArgs s_is_number, defBody s_is_number, defScope s_is_number, [], []⟩
def dD_is_between : He.DefD := ⟨("is_between", none), "is_between", "is_between", defArgs s_is_between, defBody s_is_between, defScope s_is_between, [], []⟩
def dD_is_option_name : He.DefD := ⟨("is_option_name", none), "is_option_name", "is_option_name", defArgs s_is_option_name, defBody s_is_option_name, defScope s_is_option_name, [], []⟩
def dD_is_name : He.DefD := ⟨("is_name", none), "is_name", "is_name", defArgs s_is_name, defBody s_is_name, defScope s_is_name, [], []⟩
def dD_is_rule : He.DefD := ⟨("is_rule", none), "is_rule", "is_rule", defArgs s_is_rule, defBody s_is_rule, defScope s_is_rule, [], []⟩
def dD_need_different : He.DefD := ⟨("need_different", none), "need_different", "need_different", defArgs s_need_different, defBody s_need_different, defScope s_need_different, [], []⟩
def dD_below : He.DefD := ⟨("below", none), "below", "below", defArgs s_below, defBody s_below, defScope s_below, [], []⟩
def dD_command_at : He.DefD := ⟨("command_at", none), "command_at", "command_at", defArgs s_command_at, defBody s_command_at, defScope s_command_at, [], []⟩
def dD__law_feed : He.DefD := ⟨("_law_feed", none), "_law_feed", "_law_feed", defArgs s__law_feed, defBody s__law_feed, defScope s__law_feed, [], []⟩
def dD__law_take : He.DefD := ⟨("_law_take", none), "_law_take", "_law_take", defArgs s__law_take, defBody s__law_take, defScope s__law_take, [], []⟩
def dD__law_mixed : He.DefD := ⟨("_law_mixed", none), "_law_mixed", "_law_mixed", defArgs s__law_mixed, defBody s__law_mixed, defScope s__law_mixed, [], []⟩
def dD__law_same : He.DefD := ⟨("_law_same", none), "_law_same", "_law_same", defArgs s__law_same, defBody s__law_same, defScope s__law_same, [], []⟩
def dD__law_try : He.DefD := ⟨("_law_try", none), "_law_try", "_law_try", defArgs s__law_try, defBody s__law_try, defScope s__law_try, [], []⟩
def dD__law_dashes : He.DefD := ⟨("_law_dashes", none), "_law_dashes", "_law_dashes", defArgs s__law_dashes, defBody s__law_dashes, defScope s__law_dashes, [], []⟩
def dD_law : He.DefD := ⟨("law", none), "law", "law", defArgs s_law, defBody s_law, defScope s_law, [], []⟩
def fnL : List He.DefD := [dD_Option___init__, dD_Option_all_items, dD_Option___eq__, dD_Option___repr__, dD_Command___init__, dD_Command_options, dD_Command_places, dD_Command_parts, dD_Command_rules, dD_Command_part, dD_Command___eq__, dD_Command___len__, dD_Command___repr__, dD_Grammar___init__, dD_Grammar_paths, dD_Grammar_need_path, dD_Grammar_command, dD_Grammar_commands_on, dD_Grammar_options_on, dD_Grammar_kinds, dD_Grammar_named, dD_Grammar_without_rule, dD_Grammar___eq__, dD_Grammar___len__, dD_Grammar___repr__, dD__wall, dD_is_number, dD_is_between, dD_is_option_name, dD_is_name, dD_is_rule, dD_need_different, dD_below, dD_command_at, dD__law_feed, dD__law_take, dD__law_mixed, dD__law_same, dD__law_try, dD__law_dashes, dD_law]
def dX_InvalidName : Hd.Fx := ⟨"InvalidName", "InvalidName.__init__", defArgs s_InvalidName___init__, defBody s_InvalidName___init__, defScope s_InvalidName___init__⟩
def dX_InvalidNumber : Hd.Fx := ⟨"InvalidNumber", "InvalidNumber.__init__", defArgs s_InvalidNumber___init__, defBody s_InvalidNumber___init__, defScope s_InvalidNumber___init__⟩
def dX_InvalidRule : Hd.Fx := ⟨"InvalidRule", "InvalidRule.__init__", defArgs s_InvalidRule___init__, defBody s_InvalidRule___init__, defScope s_InvalidRule___init__⟩
def dX_DuplicateName : Hd.Fx := ⟨"DuplicateName", "DuplicateName.__init__", defArgs s_DuplicateName___init__, defBody s_DuplicateName___init__, defScope s_DuplicateName___init__⟩
def dX_TooMany : Hd.Fx := ⟨"TooMany", "TooMany.__init__", defArgs s_TooMany___init__, defBody s_TooMany___init__, defScope s_TooMany___init__⟩
def fxL : List Hd.Fx := [dX_InvalidName, dX_InvalidNumber, dX_InvalidRule, dX_DuplicateName, dX_TooMany]
def exL0 (K : PySem.W.Frag) : List Bool := [decide (PySem.W.nsIn K mainGlobals "Option" = some (some (.ref (He.ga K "Option")))),
  decide (PySem.W.nsIn K mainGlobals "Command" = some (some (.ref (He.ga K "Command")))),
  decide (PySem.W.nsIn K mainGlobals "Grammar" = some (some (.ref (He.ga K "Grammar")))),
  decide (PySem.W.nsIn K mainGlobals "BOUNDS" = some (some (.ref (He.ga K "BOUNDS")))),
  decide (PySem.W.specialIn K (.builtin "object.__class__") "__get__" = some (some (.builtin "getset_descriptor.__get__"))),
  decide (PySem.W.takesIn K (.builtin "object.__class__") = some true),
  decide (PySem.W.plainGet K (He.ga K "Option") Str.empty = true),
  decide (PySem.W.hasDictIn K (He.ga K "Option") = true),
  decide (PySem.W.plainOver K (He.ga K "Option") = true),
  decide (PySem.W.findIn K (.ref (He.ga K "Option")) "__setattr__" = some (some (.builtin "object.__setattr__"))),
  decide (PySem.W.keepIn K (.ref (He.ga K "Option")) = true),
  decide (PySem.W.makesIn K (He.ga K "Option") = true),
  decide (PySem.W.mroIn K (He.ga K "Option") (.type "object") = some true),
  decide (PySem.W.findIn K (.ref (He.ga K "Option")) "__class__" = some (some (.builtin "object.__class__"))),
  decide (PySem.W.findIn K (.ref (He.ga K "Option")) "__init__" = some (some (.ref (He.ma K (He.ga K "Option") "__init__")))),
  decide (PySem.W.findIn K (.ref (He.ga K "Option")) "all_items" = some (some (.ref (He.ma K (He.ga K "Option") "all_items")))),
  decide (PySem.W.findIn K (.ref (He.ga K "Option")) "__eq__" = some (some (.ref (He.ma K (He.ga K "Option") "__eq__")))),
  decide (PySem.W.findIn K (.ref (He.ga K "Option")) "__repr__" = some (some (.ref (He.ma K (He.ga K "Option") "__repr__")))),
  decide (PySem.W.plainGet K (He.ga K "Command") Str.empty = true),
  decide (PySem.W.hasDictIn K (He.ga K "Command") = true)]
def exL1 (K : PySem.W.Frag) : List Bool := [decide (PySem.W.plainOver K (He.ga K "Command") = true),
  decide (PySem.W.findIn K (.ref (He.ga K "Command")) "__setattr__" = some (some (.builtin "object.__setattr__"))),
  decide (PySem.W.keepIn K (.ref (He.ga K "Command")) = true),
  decide (PySem.W.makesIn K (He.ga K "Command") = true),
  decide (PySem.W.mroIn K (He.ga K "Command") (.type "object") = some true),
  decide (PySem.W.findIn K (.ref (He.ga K "Command")) "__class__" = some (some (.builtin "object.__class__"))),
  decide (PySem.W.findIn K (.ref (He.ga K "Command")) "__init__" = some (some (.ref (He.ma K (He.ga K "Command") "__init__")))),
  decide (PySem.W.findIn K (.ref (He.ga K "Command")) "options" = some (some (.ref (He.ma K (He.ga K "Command") "options")))),
  decide (PySem.W.findIn K (.ref (He.ga K "Command")) "places" = some (some (.ref (He.ma K (He.ga K "Command") "places")))),
  decide (PySem.W.findIn K (.ref (He.ga K "Command")) "parts" = some (some (.ref (He.ma K (He.ga K "Command") "parts")))),
  decide (PySem.W.findIn K (.ref (He.ga K "Command")) "rules" = some (some (.ref (He.ma K (He.ga K "Command") "rules")))),
  decide (PySem.W.findIn K (.ref (He.ga K "Command")) "part" = some (some (.ref (He.ma K (He.ga K "Command") "part")))),
  decide (PySem.W.findIn K (.ref (He.ga K "Command")) "__eq__" = some (some (.ref (He.ma K (He.ga K "Command") "__eq__")))),
  decide (PySem.W.findIn K (.ref (He.ga K "Command")) "__len__" = some (some (.ref (He.ma K (He.ga K "Command") "__len__")))),
  decide (PySem.W.findIn K (.ref (He.ga K "Command")) "__repr__" = some (some (.ref (He.ma K (He.ga K "Command") "__repr__")))),
  decide (PySem.W.plainGet K (He.ga K "Grammar") Str.empty = true),
  decide (PySem.W.hasDictIn K (He.ga K "Grammar") = true),
  decide (PySem.W.plainOver K (He.ga K "Grammar") = true),
  decide (PySem.W.findIn K (.ref (He.ga K "Grammar")) "__setattr__" = some (some (.builtin "object.__setattr__"))),
  decide (PySem.W.keepIn K (.ref (He.ga K "Grammar")) = true)]
def exL2 (K : PySem.W.Frag) : List Bool := [decide (PySem.W.makesIn K (He.ga K "Grammar") = true),
  decide (PySem.W.mroIn K (He.ga K "Grammar") (.type "object") = some true),
  decide (PySem.W.findIn K (.ref (He.ga K "Grammar")) "__class__" = some (some (.builtin "object.__class__"))),
  decide (PySem.W.findIn K (.ref (He.ga K "Grammar")) "__init__" = some (some (.ref (He.ma K (He.ga K "Grammar") "__init__")))),
  decide (PySem.W.findIn K (.ref (He.ga K "Grammar")) "paths" = some (some (.ref (He.ma K (He.ga K "Grammar") "paths")))),
  decide (PySem.W.findIn K (.ref (He.ga K "Grammar")) "need_path" = some (some (.ref (He.ma K (He.ga K "Grammar") "need_path")))),
  decide (PySem.W.findIn K (.ref (He.ga K "Grammar")) "command" = some (some (.ref (He.ma K (He.ga K "Grammar") "command")))),
  decide (PySem.W.findIn K (.ref (He.ga K "Grammar")) "commands_on" = some (some (.ref (He.ma K (He.ga K "Grammar") "commands_on")))),
  decide (PySem.W.findIn K (.ref (He.ga K "Grammar")) "options_on" = some (some (.ref (He.ma K (He.ga K "Grammar") "options_on")))),
  decide (PySem.W.findIn K (.ref (He.ga K "Grammar")) "kinds" = some (some (.ref (He.ma K (He.ga K "Grammar") "kinds")))),
  decide (PySem.W.findIn K (.ref (He.ga K "Grammar")) "named" = some (some (.ref (He.ma K (He.ga K "Grammar") "named")))),
  decide (PySem.W.findIn K (.ref (He.ga K "Grammar")) "without_rule" = some (some (.ref (He.ma K (He.ga K "Grammar") "without_rule")))),
  decide (PySem.W.findIn K (.ref (He.ga K "Grammar")) "__eq__" = some (some (.ref (He.ma K (He.ga K "Grammar") "__eq__")))),
  decide (PySem.W.findIn K (.ref (He.ga K "Grammar")) "__len__" = some (some (.ref (He.ma K (He.ga K "Grammar") "__len__")))),
  decide (PySem.W.findIn K (.ref (He.ga K "Grammar")) "__repr__" = some (some (.ref (He.ma K (He.ga K "Grammar") "__repr__")))),
  decide (PySem.W.isFn K (.ref (He.ma K (He.ga K "Option") "__init__")) = true),
  decide (PySem.W.isFn K (.ref (He.ma K (He.ga K "Option") "all_items")) = true),
  decide (PySem.W.isFn K (.ref (He.ma K (He.ga K "Option") "__eq__")) = true),
  decide (PySem.W.isFn K (.ref (He.ma K (He.ga K "Option") "__repr__")) = true),
  decide (PySem.W.isFn K (.ref (He.ma K (He.ga K "Command") "__init__")) = true)]
def exL3 (K : PySem.W.Frag) : List Bool := [decide (PySem.W.isFn K (.ref (He.ma K (He.ga K "Command") "options")) = true),
  decide (PySem.W.isFn K (.ref (He.ma K (He.ga K "Command") "places")) = true),
  decide (PySem.W.isFn K (.ref (He.ma K (He.ga K "Command") "parts")) = true),
  decide (PySem.W.isFn K (.ref (He.ma K (He.ga K "Command") "rules")) = true),
  decide (PySem.W.isFn K (.ref (He.ma K (He.ga K "Command") "part")) = true),
  decide (PySem.W.isFn K (.ref (He.ma K (He.ga K "Command") "__eq__")) = true),
  decide (PySem.W.isFn K (.ref (He.ma K (He.ga K "Command") "__len__")) = true),
  decide (PySem.W.isFn K (.ref (He.ma K (He.ga K "Command") "__repr__")) = true),
  decide (PySem.W.isFn K (.ref (He.ma K (He.ga K "Grammar") "__init__")) = true),
  decide (PySem.W.isFn K (.ref (He.ma K (He.ga K "Grammar") "paths")) = true),
  decide (PySem.W.isFn K (.ref (He.ma K (He.ga K "Grammar") "need_path")) = true),
  decide (PySem.W.isFn K (.ref (He.ma K (He.ga K "Grammar") "command")) = true),
  decide (PySem.W.isFn K (.ref (He.ma K (He.ga K "Grammar") "commands_on")) = true),
  decide (PySem.W.isFn K (.ref (He.ma K (He.ga K "Grammar") "options_on")) = true),
  decide (PySem.W.isFn K (.ref (He.ma K (He.ga K "Grammar") "kinds")) = true),
  decide (PySem.W.isFn K (.ref (He.ma K (He.ga K "Grammar") "named")) = true),
  decide (PySem.W.isFn K (.ref (He.ma K (He.ga K "Grammar") "without_rule")) = true),
  decide (PySem.W.isFn K (.ref (He.ma K (He.ga K "Grammar") "__eq__")) = true),
  decide (PySem.W.isFn K (.ref (He.ma K (He.ga K "Grammar") "__len__")) = true),
  decide (PySem.W.isFn K (.ref (He.ma K (He.ga K "Grammar") "__repr__")) = true)]
def exL4 (K : PySem.W.Frag) : List Bool := [decide (PySem.W.findIn K (.ref (He.ga K "Option")) "__ne__" = some (some (.builtin "object.__ne__"))),
  decide (PySem.W.subIn K (.ref (He.ga K "Option")) (.type "NoneType") = some false),
  decide (PySem.W.findIn K (.ref (He.ga K "Option")) "name" = some none),
  decide (PySem.W.findIn K (.ref (He.ga K "Option")) "kind" = some none),
  decide (PySem.W.findIn K (.ref (He.ga K "Option")) "most" = some none),
  decide (PySem.W.findIn K (.ref (He.ga K "Command")) "__ne__" = some (some (.builtin "object.__ne__"))),
  decide (PySem.W.subIn K (.ref (He.ga K "Command")) (.type "NoneType") = some false),
  decide (PySem.W.findIn K (.ref (He.ga K "Command")) "name" = some none),
  decide (PySem.W.findIn K (.ref (He.ga K "Command")) "own_options" = some none),
  decide (PySem.W.findIn K (.ref (He.ga K "Command")) "own_places" = some none),
  decide (PySem.W.findIn K (.ref (He.ga K "Command")) "own_parts" = some none),
  decide (PySem.W.findIn K (.ref (He.ga K "Command")) "own_rules" = some none),
  decide (PySem.W.findIn K (.ref (He.ga K "Grammar")) "__ne__" = some (some (.builtin "object.__ne__"))),
  decide (PySem.W.subIn K (.ref (He.ga K "Grammar")) (.type "NoneType") = some false),
  decide (PySem.W.findIn K (.ref (He.ga K "Grammar")) "own_top" = some none),
  decide (PySem.W.findIn K (.ref (He.ga K "Grammar")) "table" = some none),
  decide (PySem.W.isClsIn K (He.ga K "Option") = true),
  decide (PySem.W.typeIn K (.ref (He.ga K "Option")) = some (.type "type")),
  decide (PySem.W.subIn K (.ref (He.ga K "Option")) (.ref (He.ga K "Option")) = some true),
  decide (PySem.W.subIn K (.type "NoneType") (.ref (He.ga K "Option")) = some false)]
def exL5 (K : PySem.W.Frag) : List Bool := [decide (PySem.W.subIn K (.type "bool") (.ref (He.ga K "Option")) = some false),
  decide (PySem.W.subIn K (.type "int") (.ref (He.ga K "Option")) = some false),
  decide (PySem.W.subIn K (.type "str") (.ref (He.ga K "Option")) = some false),
  decide (PySem.W.subIn K (.type "list") (.ref (He.ga K "Option")) = some false),
  decide (PySem.W.subIn K (.type "tuple") (.ref (He.ga K "Option")) = some false),
  decide (PySem.W.subIn K (.type "dict") (.ref (He.ga K "Option")) = some false),
  decide (PySem.W.subIn K (.ref (He.ga K "Option")) (.ref (He.ga K "Option")) = some true),
  decide (PySem.W.subIn K (.ref (He.ga K "Command")) (.ref (He.ga K "Option")) = some false),
  decide (PySem.W.subIn K (.ref (He.ga K "Grammar")) (.ref (He.ga K "Option")) = some false),
  decide (PySem.W.isClsIn K (He.ga K "Grammar") = true),
  decide (PySem.W.typeIn K (.ref (He.ga K "Grammar")) = some (.type "type")),
  decide (PySem.W.subIn K (.ref (He.ga K "Grammar")) (.ref (He.ga K "Grammar")) = some true),
  decide (PySem.W.subIn K (.type "NoneType") (.ref (He.ga K "Grammar")) = some false),
  decide (PySem.W.subIn K (.type "bool") (.ref (He.ga K "Grammar")) = some false),
  decide (PySem.W.subIn K (.type "int") (.ref (He.ga K "Grammar")) = some false),
  decide (PySem.W.subIn K (.type "str") (.ref (He.ga K "Grammar")) = some false),
  decide (PySem.W.subIn K (.type "list") (.ref (He.ga K "Grammar")) = some false),
  decide (PySem.W.subIn K (.type "tuple") (.ref (He.ga K "Grammar")) = some false),
  decide (PySem.W.subIn K (.type "dict") (.ref (He.ga K "Grammar")) = some false),
  decide (PySem.W.subIn K (.ref (He.ga K "Option")) (.ref (He.ga K "Grammar")) = some false)]
def exL6 (K : PySem.W.Frag) : List Bool := [decide (PySem.W.subIn K (.ref (He.ga K "Command")) (.ref (He.ga K "Grammar")) = some false),
  decide (PySem.W.subIn K (.ref (He.ga K "Grammar")) (.ref (He.ga K "Grammar")) = some true),
  decide (PySem.W.isClsIn K (He.ga K "Command") = true),
  decide (PySem.W.typeIn K (.ref (He.ga K "Command")) = some (.type "type")),
  decide (PySem.W.subIn K (.ref (He.ga K "Command")) (.ref (He.ga K "Command")) = some true),
  decide (PySem.W.subIn K (.type "NoneType") (.ref (He.ga K "Command")) = some false),
  decide (PySem.W.subIn K (.type "bool") (.ref (He.ga K "Command")) = some false),
  decide (PySem.W.subIn K (.type "int") (.ref (He.ga K "Command")) = some false),
  decide (PySem.W.subIn K (.type "str") (.ref (He.ga K "Command")) = some false),
  decide (PySem.W.subIn K (.type "list") (.ref (He.ga K "Command")) = some false),
  decide (PySem.W.subIn K (.type "tuple") (.ref (He.ga K "Command")) = some false),
  decide (PySem.W.subIn K (.type "dict") (.ref (He.ga K "Command")) = some false),
  decide (PySem.W.subIn K (.ref (He.ga K "Option")) (.ref (He.ga K "Command")) = some false),
  decide (PySem.W.subIn K (.ref (He.ga K "Command")) (.ref (He.ga K "Command")) = some true),
  decide (PySem.W.subIn K (.ref (He.ga K "Grammar")) (.ref (He.ga K "Command")) = some false),
  decide (PySem.W.notFirst K (He.ga K "Option") (.type "NoneType") = true),
  decide (PySem.W.notFirst K (He.ga K "Option") (.type "bool") = true),
  decide (PySem.W.notFirst K (He.ga K "Option") (.type "int") = true),
  decide (PySem.W.notFirst K (He.ga K "Option") (.type "str") = true),
  decide (PySem.W.notFirst K (He.ga K "Option") (.type "list") = true)]
def exL7 (K : PySem.W.Frag) : List Bool := [decide (PySem.W.notFirst K (He.ga K "Option") (.type "tuple") = true),
  decide (PySem.W.notFirst K (He.ga K "Option") (.type "dict") = true),
  decide (PySem.W.notFirst K (He.ga K "Option") (.ref (He.ga K "Option")) = true),
  decide (PySem.W.notFirst K (He.ga K "Command") (.type "NoneType") = true),
  decide (PySem.W.notFirst K (He.ga K "Command") (.type "bool") = true),
  decide (PySem.W.notFirst K (He.ga K "Command") (.type "int") = true),
  decide (PySem.W.notFirst K (He.ga K "Command") (.type "str") = true),
  decide (PySem.W.notFirst K (He.ga K "Command") (.type "list") = true),
  decide (PySem.W.notFirst K (He.ga K "Command") (.type "tuple") = true),
  decide (PySem.W.notFirst K (He.ga K "Command") (.type "dict") = true),
  decide (PySem.W.notFirst K (He.ga K "Command") (.ref (He.ga K "Command")) = true),
  decide (PySem.W.notFirst K (He.ga K "Grammar") (.type "NoneType") = true),
  decide (PySem.W.notFirst K (He.ga K "Grammar") (.type "bool") = true),
  decide (PySem.W.notFirst K (He.ga K "Grammar") (.type "int") = true),
  decide (PySem.W.notFirst K (He.ga K "Grammar") (.type "str") = true),
  decide (PySem.W.notFirst K (He.ga K "Grammar") (.type "list") = true),
  decide (PySem.W.notFirst K (He.ga K "Grammar") (.type "tuple") = true),
  decide (PySem.W.notFirst K (He.ga K "Grammar") (.type "dict") = true),
  decide (PySem.W.notFirst K (He.ga K "Grammar") (.ref (He.ga K "Grammar")) = true),
  decide (PySem.W.nsIn K mainGlobals "_wall" = some (some (.ref (He.ga K "_wall"))))]
def exL8 (K : PySem.W.Frag) : List Bool := [decide (PySem.W.nsIn K mainGlobals "is_number" = some (some (.ref (He.ga K "is_number")))),
  decide (PySem.W.nsIn K mainGlobals "is_between" = some (some (.ref (He.ga K "is_between")))),
  decide (PySem.W.nsIn K mainGlobals "is_option_name" = some (some (.ref (He.ga K "is_option_name")))),
  decide (PySem.W.nsIn K mainGlobals "is_name" = some (some (.ref (He.ga K "is_name")))),
  decide (PySem.W.nsIn K mainGlobals "is_rule" = some (some (.ref (He.ga K "is_rule")))),
  decide (PySem.W.nsIn K mainGlobals "need_different" = some (some (.ref (He.ga K "need_different")))),
  decide (PySem.W.nsIn K mainGlobals "below" = some (some (.ref (He.ga K "below")))),
  decide (PySem.W.nsIn K mainGlobals "command_at" = some (some (.ref (He.ga K "command_at")))),
  decide (PySem.W.nsIn K mainGlobals "_law_feed" = some (some (.ref (He.ga K "_law_feed")))),
  decide (PySem.W.nsIn K mainGlobals "_law_take" = some (some (.ref (He.ga K "_law_take")))),
  decide (PySem.W.nsIn K mainGlobals "_law_mixed" = some (some (.ref (He.ga K "_law_mixed")))),
  decide (PySem.W.nsIn K mainGlobals "_law_same" = some (some (.ref (He.ga K "_law_same")))),
  decide (PySem.W.nsIn K mainGlobals "_law_try" = some (some (.ref (He.ga K "_law_try")))),
  decide (PySem.W.nsIn K mainGlobals "_law_dashes" = some (some (.ref (He.ga K "_law_dashes")))),
  decide (PySem.W.nsIn K mainGlobals "law" = some (some (.ref (He.ga K "law")))),
  decide (PySem.W.nsIn K mainGlobals "InvalidWord" = some (some (.ref (He.ga K "InvalidWord")))),
  decide (PySem.W.nsIn K mainGlobals "InvalidName" = some (some (.ref (He.ga K "InvalidName")))),
  decide (PySem.W.nsIn K mainGlobals "InvalidNumber" = some (some (.ref (He.ga K "InvalidNumber")))),
  decide (PySem.W.nsIn K mainGlobals "InvalidWish" = some (some (.ref (He.ga K "InvalidWish")))),
  decide (PySem.W.nsIn K mainGlobals "InvalidLimit" = some (some (.ref (He.ga K "InvalidLimit"))))]
def exL9 (K : PySem.W.Frag) : List Bool := [decide (PySem.W.nsIn K mainGlobals "InvalidRule" = some (some (.ref (He.ga K "InvalidRule")))),
  decide (PySem.W.nsIn K mainGlobals "InvalidRow" = some (some (.ref (He.ga K "InvalidRow")))),
  decide (PySem.W.nsIn K mainGlobals "InvalidChange" = some (some (.ref (He.ga K "InvalidChange")))),
  decide (PySem.W.nsIn K mainGlobals "InvalidKey" = some (some (.ref (He.ga K "InvalidKey")))),
  decide (PySem.W.nsIn K mainGlobals "InvalidText" = some (some (.ref (He.ga K "InvalidText")))),
  decide (PySem.W.nsIn K mainGlobals "InvalidCommand" = some (some (.ref (He.ga K "InvalidCommand")))),
  decide (PySem.W.nsIn K mainGlobals "DuplicateName" = some (some (.ref (He.ga K "DuplicateName")))),
  decide (PySem.W.nsIn K mainGlobals "WrongKind" = some (some (.ref (He.ga K "WrongKind")))),
  decide (PySem.W.nsIn K mainGlobals "UnknownName" = some (some (.ref (He.ga K "UnknownName")))),
  decide (PySem.W.nsIn K mainGlobals "TooMany" = some (some (.ref (He.ga K "TooMany")))),
  decide (PySem.W.nsIn K mainGlobals "TooLong" = some (some (.ref (He.ga K "TooLong")))),
  decide (PySem.W.nsIn K mainGlobals "Full" = some (some (.ref (He.ga K "Full")))),
  decide (PySem.W.nsIn K mainGlobals "WrongWord" = some (some (.ref (He.ga K "WrongWord")))),
  decide (PySem.W.nsIn K mainGlobals "Mixed" = some (some (.ref (He.ga K "Mixed")))),
  decide (PySem.W.nsIn K mainGlobals "NotLive" = some (some (.ref (He.ga K "NotLive")))),
  decide (PySem.W.nsIn K mainGlobals "NoWord" = some (some (.ref (He.ga K "NoWord")))),
  decide (PySem.W.nsIn K mainGlobals "Unlike" = some (some (.ref (He.ga K "Unlike")))),
  decide (PySem.W.nsIn K mainGlobals "NothingLeft" = some (some (.ref (He.ga K "NothingLeft")))),
  decide (PySem.W.subIn K (.ref (He.ga K "InvalidWord")) (.type "BaseException") = some true),
  decide (PySem.W.isClsIn K (He.ga K "InvalidWord") = true)]
def exL10 (K : PySem.W.Frag) : List Bool := [decide (PySem.W.typeIn K (.ref (He.ga K "InvalidWord")) = some (.type "type")),
  decide (PySem.W.subIn K (.ref (He.ga K "InvalidName")) (.type "BaseException") = some true),
  decide (PySem.W.isClsIn K (He.ga K "InvalidName") = true),
  decide (PySem.W.typeIn K (.ref (He.ga K "InvalidName")) = some (.type "type")),
  decide (PySem.W.subIn K (.ref (He.ga K "InvalidNumber")) (.type "BaseException") = some true),
  decide (PySem.W.isClsIn K (He.ga K "InvalidNumber") = true),
  decide (PySem.W.typeIn K (.ref (He.ga K "InvalidNumber")) = some (.type "type")),
  decide (PySem.W.subIn K (.ref (He.ga K "InvalidWish")) (.type "BaseException") = some true),
  decide (PySem.W.isClsIn K (He.ga K "InvalidWish") = true),
  decide (PySem.W.typeIn K (.ref (He.ga K "InvalidWish")) = some (.type "type")),
  decide (PySem.W.subIn K (.ref (He.ga K "InvalidLimit")) (.type "BaseException") = some true),
  decide (PySem.W.isClsIn K (He.ga K "InvalidLimit") = true),
  decide (PySem.W.typeIn K (.ref (He.ga K "InvalidLimit")) = some (.type "type")),
  decide (PySem.W.subIn K (.ref (He.ga K "InvalidRule")) (.type "BaseException") = some true),
  decide (PySem.W.isClsIn K (He.ga K "InvalidRule") = true),
  decide (PySem.W.typeIn K (.ref (He.ga K "InvalidRule")) = some (.type "type")),
  decide (PySem.W.subIn K (.ref (He.ga K "InvalidRow")) (.type "BaseException") = some true),
  decide (PySem.W.isClsIn K (He.ga K "InvalidRow") = true),
  decide (PySem.W.typeIn K (.ref (He.ga K "InvalidRow")) = some (.type "type")),
  decide (PySem.W.subIn K (.ref (He.ga K "InvalidChange")) (.type "BaseException") = some true)]
def exL11 (K : PySem.W.Frag) : List Bool := [decide (PySem.W.isClsIn K (He.ga K "InvalidChange") = true),
  decide (PySem.W.typeIn K (.ref (He.ga K "InvalidChange")) = some (.type "type")),
  decide (PySem.W.subIn K (.ref (He.ga K "InvalidKey")) (.type "BaseException") = some true),
  decide (PySem.W.isClsIn K (He.ga K "InvalidKey") = true),
  decide (PySem.W.typeIn K (.ref (He.ga K "InvalidKey")) = some (.type "type")),
  decide (PySem.W.subIn K (.ref (He.ga K "InvalidText")) (.type "BaseException") = some true),
  decide (PySem.W.isClsIn K (He.ga K "InvalidText") = true),
  decide (PySem.W.typeIn K (.ref (He.ga K "InvalidText")) = some (.type "type")),
  decide (PySem.W.subIn K (.ref (He.ga K "InvalidCommand")) (.type "BaseException") = some true),
  decide (PySem.W.isClsIn K (He.ga K "InvalidCommand") = true),
  decide (PySem.W.typeIn K (.ref (He.ga K "InvalidCommand")) = some (.type "type")),
  decide (PySem.W.subIn K (.ref (He.ga K "DuplicateName")) (.type "BaseException") = some true),
  decide (PySem.W.isClsIn K (He.ga K "DuplicateName") = true),
  decide (PySem.W.typeIn K (.ref (He.ga K "DuplicateName")) = some (.type "type")),
  decide (PySem.W.subIn K (.ref (He.ga K "WrongKind")) (.type "BaseException") = some true),
  decide (PySem.W.isClsIn K (He.ga K "WrongKind") = true),
  decide (PySem.W.typeIn K (.ref (He.ga K "WrongKind")) = some (.type "type")),
  decide (PySem.W.subIn K (.ref (He.ga K "UnknownName")) (.type "BaseException") = some true),
  decide (PySem.W.isClsIn K (He.ga K "UnknownName") = true),
  decide (PySem.W.typeIn K (.ref (He.ga K "UnknownName")) = some (.type "type"))]
def exL12 (K : PySem.W.Frag) : List Bool := [decide (PySem.W.subIn K (.ref (He.ga K "TooMany")) (.type "BaseException") = some true),
  decide (PySem.W.isClsIn K (He.ga K "TooMany") = true),
  decide (PySem.W.typeIn K (.ref (He.ga K "TooMany")) = some (.type "type")),
  decide (PySem.W.nsIn K cStatics "thirdparty.any" = some none),
  decide (PySem.W.subIn K (.ref (He.ga K "InvalidName")) (.ref (He.ga K "InvalidWord")) = some false),
  decide (PySem.W.subIn K (.ref (He.ga K "InvalidName")) (.ref (He.ga K "InvalidName")) = some true),
  decide (PySem.W.subIn K (.ref (He.ga K "InvalidName")) (.ref (He.ga K "InvalidNumber")) = some false),
  decide (PySem.W.subIn K (.ref (He.ga K "InvalidName")) (.ref (He.ga K "InvalidWish")) = some false),
  decide (PySem.W.subIn K (.ref (He.ga K "InvalidName")) (.ref (He.ga K "InvalidLimit")) = some false),
  decide (PySem.W.findIn K (.ref (He.ga K "InvalidName")) "__setattr__" = some (some (.builtin "object.__setattr__"))),
  decide (PySem.W.subIn K (.ref (He.ga K "InvalidName")) (.type "BaseException") = some true),
  decide (PySem.W.typeIn K (.ref (He.ga K "InvalidName")) = some (.type "type")),
  decide (PySem.W.keepIn K (.ref (He.ga K "InvalidName")) = true),
  decide (PySem.W.findIn K (.ref (He.ga K "InvalidName")) "__init__" = some (some (.ref (Hd.fAt K "InvalidName")))),
  decide (PySem.W.typeIn K (.ref (Hd.fAt K "InvalidName")) = some (.type "function")),
  decide (PySem.W.ks_superIn K (He.ga K "InvalidName") (He.ga K "InvalidName") "__init__" = some (some (.builtin "ValueError.__init__"))),
  decide (PySem.W.subIn K (.ref (He.ga K "InvalidName")) (.type "ValueError") = some true),
  decide (PySem.W.mroIn K (He.ga K "InvalidName") (.ref (He.ga K "InvalidName")) = some true),
  decide (PySem.W.findIn K (.ref (He.ga K "InvalidName")) "__getattribute__" = some (some (.builtin "BaseException.__getattribute__"))),
  decide (PySem.W.findIn K (.ref (He.ga K "InvalidName")) "__getattr__" = some none)]
def exL13 (K : PySem.W.Frag) : List Bool := [decide (PySem.W.hasDictIn K (He.ga K "InvalidName") = true),
  decide (PySem.W.findIn K (.ref (He.ga K "InvalidName")) "given" = some none),
  decide (PySem.W.findIn K (.ref (He.ga K "InvalidName")) "code" = some none),
  decide (PySem.W.subIn K (.ref (He.ga K "InvalidNumber")) (.ref (He.ga K "InvalidWord")) = some false),
  decide (PySem.W.subIn K (.ref (He.ga K "InvalidNumber")) (.ref (He.ga K "InvalidName")) = some false),
  decide (PySem.W.subIn K (.ref (He.ga K "InvalidNumber")) (.ref (He.ga K "InvalidNumber")) = some true),
  decide (PySem.W.subIn K (.ref (He.ga K "InvalidNumber")) (.ref (He.ga K "InvalidWish")) = some false),
  decide (PySem.W.subIn K (.ref (He.ga K "InvalidNumber")) (.ref (He.ga K "InvalidLimit")) = some false),
  decide (PySem.W.findIn K (.ref (He.ga K "InvalidNumber")) "__setattr__" = some (some (.builtin "object.__setattr__"))),
  decide (PySem.W.subIn K (.ref (He.ga K "InvalidNumber")) (.type "BaseException") = some true),
  decide (PySem.W.typeIn K (.ref (He.ga K "InvalidNumber")) = some (.type "type")),
  decide (PySem.W.keepIn K (.ref (He.ga K "InvalidNumber")) = true),
  decide (PySem.W.findIn K (.ref (He.ga K "InvalidNumber")) "__init__" = some (some (.ref (Hd.fAt K "InvalidNumber")))),
  decide (PySem.W.typeIn K (.ref (Hd.fAt K "InvalidNumber")) = some (.type "function")),
  decide (PySem.W.ks_superIn K (He.ga K "InvalidNumber") (He.ga K "InvalidNumber") "__init__" = some (some (.builtin "ValueError.__init__"))),
  decide (PySem.W.subIn K (.ref (He.ga K "InvalidNumber")) (.type "ValueError") = some true),
  decide (PySem.W.mroIn K (He.ga K "InvalidNumber") (.ref (He.ga K "InvalidNumber")) = some true),
  decide (PySem.W.findIn K (.ref (He.ga K "InvalidNumber")) "__getattribute__" = some (some (.builtin "BaseException.__getattribute__"))),
  decide (PySem.W.findIn K (.ref (He.ga K "InvalidNumber")) "__getattr__" = some none),
  decide (PySem.W.hasDictIn K (He.ga K "InvalidNumber") = true)]
def exL14 (K : PySem.W.Frag) : List Bool := [decide (PySem.W.findIn K (.ref (He.ga K "InvalidNumber")) "given" = some none),
  decide (PySem.W.findIn K (.ref (He.ga K "InvalidNumber")) "code" = some none),
  decide (PySem.W.subIn K (.ref (He.ga K "InvalidRule")) (.ref (He.ga K "InvalidWord")) = some false),
  decide (PySem.W.subIn K (.ref (He.ga K "InvalidRule")) (.ref (He.ga K "InvalidName")) = some false),
  decide (PySem.W.subIn K (.ref (He.ga K "InvalidRule")) (.ref (He.ga K "InvalidNumber")) = some false),
  decide (PySem.W.subIn K (.ref (He.ga K "InvalidRule")) (.ref (He.ga K "InvalidWish")) = some false),
  decide (PySem.W.subIn K (.ref (He.ga K "InvalidRule")) (.ref (He.ga K "InvalidLimit")) = some false),
  decide (PySem.W.subIn K (.ref (He.ga K "InvalidRule")) (.ref (He.ga K "InvalidRule")) = some true),
  decide (PySem.W.subIn K (.ref (He.ga K "InvalidRule")) (.ref (He.ga K "InvalidRow")) = some false),
  decide (PySem.W.subIn K (.ref (He.ga K "InvalidRule")) (.ref (He.ga K "InvalidChange")) = some false),
  decide (PySem.W.subIn K (.ref (He.ga K "InvalidRule")) (.ref (He.ga K "InvalidKey")) = some false),
  decide (PySem.W.subIn K (.ref (He.ga K "InvalidRule")) (.ref (He.ga K "InvalidText")) = some false),
  decide (PySem.W.subIn K (.ref (He.ga K "InvalidRule")) (.ref (He.ga K "InvalidCommand")) = some false),
  decide (PySem.W.findIn K (.ref (He.ga K "InvalidRule")) "__setattr__" = some (some (.builtin "object.__setattr__"))),
  decide (PySem.W.subIn K (.ref (He.ga K "InvalidRule")) (.type "BaseException") = some true),
  decide (PySem.W.typeIn K (.ref (He.ga K "InvalidRule")) = some (.type "type")),
  decide (PySem.W.keepIn K (.ref (He.ga K "InvalidRule")) = true),
  decide (PySem.W.findIn K (.ref (He.ga K "InvalidRule")) "__init__" = some (some (.ref (Hd.fAt K "InvalidRule")))),
  decide (PySem.W.typeIn K (.ref (Hd.fAt K "InvalidRule")) = some (.type "function")),
  decide (PySem.W.ks_superIn K (He.ga K "InvalidRule") (He.ga K "InvalidRule") "__init__" = some (some (.builtin "ValueError.__init__")))]
def exL15 (K : PySem.W.Frag) : List Bool := [decide (PySem.W.subIn K (.ref (He.ga K "InvalidRule")) (.type "ValueError") = some true),
  decide (PySem.W.mroIn K (He.ga K "InvalidRule") (.ref (He.ga K "InvalidRule")) = some true),
  decide (PySem.W.findIn K (.ref (He.ga K "InvalidRule")) "__getattribute__" = some (some (.builtin "BaseException.__getattribute__"))),
  decide (PySem.W.findIn K (.ref (He.ga K "InvalidRule")) "__getattr__" = some none),
  decide (PySem.W.hasDictIn K (He.ga K "InvalidRule") = true),
  decide (PySem.W.findIn K (.ref (He.ga K "InvalidRule")) "at" = some none),
  decide (PySem.W.findIn K (.ref (He.ga K "InvalidRule")) "code" = some none),
  decide (PySem.W.subIn K (.ref (He.ga K "DuplicateName")) (.ref (He.ga K "InvalidWord")) = some false),
  decide (PySem.W.subIn K (.ref (He.ga K "DuplicateName")) (.ref (He.ga K "InvalidName")) = some false),
  decide (PySem.W.subIn K (.ref (He.ga K "DuplicateName")) (.ref (He.ga K "InvalidNumber")) = some false),
  decide (PySem.W.subIn K (.ref (He.ga K "DuplicateName")) (.ref (He.ga K "InvalidWish")) = some false),
  decide (PySem.W.subIn K (.ref (He.ga K "DuplicateName")) (.ref (He.ga K "InvalidLimit")) = some false),
  decide (PySem.W.subIn K (.ref (He.ga K "DuplicateName")) (.ref (He.ga K "InvalidRule")) = some false),
  decide (PySem.W.subIn K (.ref (He.ga K "DuplicateName")) (.ref (He.ga K "InvalidRow")) = some false),
  decide (PySem.W.subIn K (.ref (He.ga K "DuplicateName")) (.ref (He.ga K "InvalidChange")) = some false),
  decide (PySem.W.subIn K (.ref (He.ga K "DuplicateName")) (.ref (He.ga K "InvalidKey")) = some false),
  decide (PySem.W.subIn K (.ref (He.ga K "DuplicateName")) (.ref (He.ga K "InvalidText")) = some false),
  decide (PySem.W.subIn K (.ref (He.ga K "DuplicateName")) (.ref (He.ga K "InvalidCommand")) = some false),
  decide (PySem.W.subIn K (.ref (He.ga K "DuplicateName")) (.ref (He.ga K "DuplicateName")) = some true),
  decide (PySem.W.subIn K (.ref (He.ga K "DuplicateName")) (.ref (He.ga K "WrongKind")) = some false)]
def exL16 (K : PySem.W.Frag) : List Bool := [decide (PySem.W.subIn K (.ref (He.ga K "DuplicateName")) (.ref (He.ga K "UnknownName")) = some false),
  decide (PySem.W.findIn K (.ref (He.ga K "DuplicateName")) "__setattr__" = some (some (.builtin "object.__setattr__"))),
  decide (PySem.W.subIn K (.ref (He.ga K "DuplicateName")) (.type "BaseException") = some true),
  decide (PySem.W.typeIn K (.ref (He.ga K "DuplicateName")) = some (.type "type")),
  decide (PySem.W.keepIn K (.ref (He.ga K "DuplicateName")) = true),
  decide (PySem.W.findIn K (.ref (He.ga K "DuplicateName")) "__init__" = some (some (.ref (Hd.fAt K "DuplicateName")))),
  decide (PySem.W.typeIn K (.ref (Hd.fAt K "DuplicateName")) = some (.type "function")),
  decide (PySem.W.ks_superIn K (He.ga K "DuplicateName") (He.ga K "DuplicateName") "__init__" = some (some (.builtin "ValueError.__init__"))),
  decide (PySem.W.subIn K (.ref (He.ga K "DuplicateName")) (.type "ValueError") = some true),
  decide (PySem.W.mroIn K (He.ga K "DuplicateName") (.ref (He.ga K "DuplicateName")) = some true),
  decide (PySem.W.findIn K (.ref (He.ga K "DuplicateName")) "__getattribute__" = some (some (.builtin "BaseException.__getattribute__"))),
  decide (PySem.W.findIn K (.ref (He.ga K "DuplicateName")) "__getattr__" = some none),
  decide (PySem.W.hasDictIn K (He.ga K "DuplicateName") = true),
  decide (PySem.W.findIn K (.ref (He.ga K "DuplicateName")) "name" = some none),
  decide (PySem.W.findIn K (.ref (He.ga K "DuplicateName")) "code" = some none),
  decide (PySem.W.subIn K (.ref (He.ga K "TooMany")) (.ref (He.ga K "InvalidWord")) = some false),
  decide (PySem.W.subIn K (.ref (He.ga K "TooMany")) (.ref (He.ga K "InvalidName")) = some false),
  decide (PySem.W.subIn K (.ref (He.ga K "TooMany")) (.ref (He.ga K "InvalidNumber")) = some false),
  decide (PySem.W.subIn K (.ref (He.ga K "TooMany")) (.ref (He.ga K "InvalidWish")) = some false),
  decide (PySem.W.subIn K (.ref (He.ga K "TooMany")) (.ref (He.ga K "InvalidLimit")) = some false)]
def exL17 (K : PySem.W.Frag) : List Bool := [decide (PySem.W.subIn K (.ref (He.ga K "TooMany")) (.ref (He.ga K "InvalidRule")) = some false),
  decide (PySem.W.subIn K (.ref (He.ga K "TooMany")) (.ref (He.ga K "InvalidRow")) = some false),
  decide (PySem.W.subIn K (.ref (He.ga K "TooMany")) (.ref (He.ga K "InvalidChange")) = some false),
  decide (PySem.W.subIn K (.ref (He.ga K "TooMany")) (.ref (He.ga K "InvalidKey")) = some false),
  decide (PySem.W.subIn K (.ref (He.ga K "TooMany")) (.ref (He.ga K "InvalidText")) = some false),
  decide (PySem.W.subIn K (.ref (He.ga K "TooMany")) (.ref (He.ga K "InvalidCommand")) = some false),
  decide (PySem.W.subIn K (.ref (He.ga K "TooMany")) (.ref (He.ga K "DuplicateName")) = some false),
  decide (PySem.W.subIn K (.ref (He.ga K "TooMany")) (.ref (He.ga K "WrongKind")) = some false),
  decide (PySem.W.subIn K (.ref (He.ga K "TooMany")) (.ref (He.ga K "UnknownName")) = some false),
  decide (PySem.W.subIn K (.ref (He.ga K "TooMany")) (.ref (He.ga K "TooMany")) = some true),
  decide (PySem.W.findIn K (.ref (He.ga K "TooMany")) "__setattr__" = some (some (.builtin "object.__setattr__"))),
  decide (PySem.W.subIn K (.ref (He.ga K "TooMany")) (.type "BaseException") = some true),
  decide (PySem.W.typeIn K (.ref (He.ga K "TooMany")) = some (.type "type")),
  decide (PySem.W.keepIn K (.ref (He.ga K "TooMany")) = true),
  decide (PySem.W.findIn K (.ref (He.ga K "TooMany")) "__init__" = some (some (.ref (Hd.fAt K "TooMany")))),
  decide (PySem.W.typeIn K (.ref (Hd.fAt K "TooMany")) = some (.type "function")),
  decide (PySem.W.ks_superIn K (He.ga K "TooMany") (He.ga K "TooMany") "__init__" = some (some (.builtin "ValueError.__init__"))),
  decide (PySem.W.subIn K (.ref (He.ga K "TooMany")) (.type "ValueError") = some true),
  decide (PySem.W.mroIn K (He.ga K "TooMany") (.ref (He.ga K "TooMany")) = some true),
  decide (PySem.W.findIn K (.ref (He.ga K "TooMany")) "__getattribute__" = some (some (.builtin "BaseException.__getattribute__")))]
def exL18 (K : PySem.W.Frag) : List Bool := [decide (PySem.W.findIn K (.ref (He.ga K "TooMany")) "__getattr__" = some none),
  decide (PySem.W.hasDictIn K (He.ga K "TooMany") = true),
  decide (PySem.W.findIn K (.ref (He.ga K "TooMany")) "subject" = some none),
  decide (PySem.W.findIn K (.ref (He.ga K "TooMany")) "most" = some none),
  decide (PySem.W.findIn K (.ref (He.ga K "TooMany")) "code" = some none),
  decide (PySem.W.nsIn K mainGlobals "len" = some none),
  decide (PySem.W.nsIn K mainGlobals "int" = some none),
  decide (PySem.W.nsIn K mainGlobals "str" = some none),
  decide (PySem.W.nsIn K mainGlobals "bool" = some none),
  decide (PySem.W.nsIn K mainGlobals "list" = some none),
  decide (PySem.W.nsIn K mainGlobals "tuple" = some none),
  decide (PySem.W.nsIn K mainGlobals "range" = some none),
  decide (PySem.W.nsIn K mainGlobals "isinstance" = some none),
  decide (PySem.W.nsIn K mainGlobals "all" = some none),
  decide (PySem.W.nsIn K mainGlobals "any" = some none),
  decide (PySem.W.nsIn K mainGlobals "sum" = some none),
  decide (PySem.W.nsIn K mainGlobals "max" = some none),
  decide (PySem.W.nsIn K mainGlobals "min" = some none),
  decide (PySem.W.nsIn K mainGlobals "sorted" = some none),
  decide (PySem.W.nsIn K mainGlobals "enumerate" = some none)]
def exL19 (K : PySem.W.Frag) : List Bool := [decide (PySem.W.nsIn K mainGlobals "zip" = some none),
  decide (PySem.W.nsIn K mainGlobals "dict" = some none),
  decide (PySem.W.nsIn K mainGlobals "set" = some none),
  decide (PySem.W.nsIn K mainGlobals "repr" = some none),
  decide (PySem.W.nsIn K mainGlobals "super" = some none),
  Hd.excChk K P.main.file "InvalidName" "InvalidName.__init__",
  Hd.excChk K P.main.file "InvalidNumber" "InvalidNumber.__init__",
  Hd.excChk K P.main.file "InvalidRule" "InvalidRule.__init__",
  Hd.excChk K P.main.file "DuplicateName" "DuplicateName.__init__",
  Hd.excChk K P.main.file "TooMany" "TooMany.__init__",
  Hd.valChk K (He.ga K "Grammar") "LEVELS" (.int (2)),
  Hd.valChk K (He.ga K "Grammar") "MOST" (.int (12)),
  Hd.glbChk K "LETTERS" (.str "abcdefghijklmnopqrstuvwxyz"),
  Hd.glbChk K "MOST_LETTERS" (.int (6)),
  Hd.glbChk K "MOST_TIMES" (.int (4)),
  Hd.glbChk K "MOST_NEEDS" (.int (4)),
  Hd.glbChk K "MOST_LEVELS" (.int (2)),
  Hd.glbChk K "MOST_COMMANDS" (.int (12)),
  Hd.etChk K (Hd.kwdAt ("Command", some "__init__") "options" K),
  Hd.etChk K (Hd.kwdAt ("Command", some "__init__") "places" K)]
def exL20 (K : PySem.W.Frag) : List Bool := [Hd.etChk K (Hd.kwdAt ("Command", some "__init__") "parts" K),
  Hd.etChk K (Hd.kwdAt ("Command", some "__init__") "rules" K)]
def exF (K : PySem.W.Frag) : Bool := [(exL0 K).all id, (exL1 K).all id, (exL2 K).all id, (exL3 K).all id, (exL4 K).all id, (exL5 K).all id, (exL6 K).all id, (exL7 K).all id, (exL8 K).all id, (exL9 K).all id, (exL10 K).all id, (exL11 K).all id, (exL12 K).all id, (exL13 K).all id, (exL14 K).all id, (exL15 K).all id, (exL16 K).all id, (exL17 K).all id, (exL18 K).all id, (exL19 K).all id, (exL20 K).all id].all id
def sdO : Hd.SdL := [("BOUNDS", [(.inr "options", .int (8)), (.inr "places", .int (4)), (.inr "parts", .int (6)), (.inr "rules", .int (8))])]
def nmL0 : List PySem.Str := ["_wall", "LineError", "InvalidWord", "InvalidName", "InvalidNumber", "InvalidRule", "InvalidRow", "InvalidChange", "InvalidKey", "InvalidText", "InvalidWish", "InvalidLimit", "InvalidCommand", "DuplicateName", "WrongKind", "TooMany", "TooLong", "Full", "WrongWord", "Mixed", "NotLive", "NoWord", "Unlike", "Missing", "UnknownName", "NothingLeft", "LETTERS", "MOST_LETTERS", "is_number", "is_between"]
def nmL1 : List PySem.Str := ["is_option_name", "is_name", "MOST_TIMES", "MOST_NEEDS", "BOUNDS", "Option", "is_rule", "need_different", "Command", "below", "MOST_LEVELS", "MOST_COMMANDS", "Grammar", "command_at", "_law_feed", "_law_take", "_law_mixed", "_law_same", "_law_try", "_law_dashes"]
def nmL : List PySem.Str := nmL0 ++ nmL1
abbrev iLaw : Nat := 55
def sdL (c : Cs) : List (Addr × List (Key × V)) := [(c.s_BOUNDS, [(.inr "options", .int (8)), (.inr "places", .int (4)), (.inr "parts", .int (6)), (.inr "rules", .int (8))])]
abbrev dxL (w : World) (c : Cs) : G.Dx := ⟨sdL c, (nestedKind P w).hash⟩
structure AllW (w : World) (K : PySem.W.Frag) (mg : Str → Option Value) (c : Cs) : Prop extends Alls K mg c where
  so : G.SdOk P w K (dxL w c)
theorem all_of {K : PySem.W.Frag} {h : Heap} {mg : Str → Option Value} (X : K.In h) (G : h.Ns mainGlobals mg) {w : World} (c0 : Hd.SaysY fnL fxL exF sdO w K) : ∃ c : Cs, AllW w K mg c := by
  have e0 : (exL0 K).all id = true := Hd.pick c0.bools.2 0 rfl
  have e1 : (exL1 K).all id = true := Hd.pick c0.bools.2 1 rfl
  have e2 : (exL2 K).all id = true := Hd.pick c0.bools.2 2 rfl
  have e3 : (exL3 K).all id = true := Hd.pick c0.bools.2 3 rfl
  have e4 : (exL4 K).all id = true := Hd.pick c0.bools.2 4 rfl
  have e5 : (exL5 K).all id = true := Hd.pick c0.bools.2 5 rfl
  have e6 : (exL6 K).all id = true := Hd.pick c0.bools.2 6 rfl
  have e7 : (exL7 K).all id = true := Hd.pick c0.bools.2 7 rfl
  have e8 : (exL8 K).all id = true := Hd.pick c0.bools.2 8 rfl
  have e9 : (exL9 K).all id = true := Hd.pick c0.bools.2 9 rfl
  have e10 : (exL10 K).all id = true := Hd.pick c0.bools.2 10 rfl
  have e11 : (exL11 K).all id = true := Hd.pick c0.bools.2 11 rfl
  have e12 : (exL12 K).all id = true := Hd.pick c0.bools.2 12 rfl
  have e13 : (exL13 K).all id = true := Hd.pick c0.bools.2 13 rfl
  have e14 : (exL14 K).all id = true := Hd.pick c0.bools.2 14 rfl
  have e15 : (exL15 K).all id = true := Hd.pick c0.bools.2 15 rfl
  have e16 : (exL16 K).all id = true := Hd.pick c0.bools.2 16 rfl
  have e17 : (exL17 K).all id = true := Hd.pick c0.bools.2 17 rfl
  have e18 : (exL18 K).all id = true := Hd.pick c0.bools.2 18 rfl
  have e19 : (exL19 K).all id = true := Hd.pick c0.bools.2 19 rfl
  have e20 : (exL20 K).all id = true := Hd.pick c0.bools.2 20 rfl
  have hn_Option : PySem.W.nsIn K mainGlobals "Option" = some (some (.ref (He.ga K "Option"))) := Hd.pickD (e0) 0 rfl
  have hn_Command : PySem.W.nsIn K mainGlobals "Command" = some (some (.ref (He.ga K "Command"))) := Hd.pickD (e0) 1 rfl
  have hn_Grammar : PySem.W.nsIn K mainGlobals "Grammar" = some (some (.ref (He.ga K "Grammar"))) := Hd.pickD (e0) 2 rfl
  have hn_s_BOUNDS : PySem.W.nsIn K mainGlobals "BOUNDS" = some (some (.ref (He.ga K "BOUNDS"))) := Hd.pickD (e0) 3 rfl
  have hgc : PySem.W.specialIn K (.builtin "object.__class__") "__get__" = some (some (.builtin "getset_descriptor.__get__")) := Hd.pickD (e0) 4 rfl
  have htc : PySem.W.takesIn K (.builtin "object.__class__") = some true := Hd.pickD (e0) 5 rfl
  have hp_Option : PySem.W.plainGet K (He.ga K "Option") Str.empty = true := Hd.pickD (e0) 6 rfl
  have hh_Option : PySem.W.hasDictIn K (He.ga K "Option") = true := Hd.pickD (e0) 7 rfl
  have ho_Option : PySem.W.plainOver K (He.ga K "Option") = true := Hd.pickD (e0) 8 rfl
  have hs_Option : PySem.W.findIn K (.ref (He.ga K "Option")) "__setattr__" = some (some (.builtin "object.__setattr__")) := Hd.pickD (e0) 9 rfl
  have hk_Option : PySem.W.keepIn K (.ref (He.ga K "Option")) = true := Hd.pickD (e0) 10 rfl
  have hm_Option : PySem.W.makesIn K (He.ga K "Option") = true := Hd.pickD (e0) 11 rfl
  have hb_Option : PySem.W.mroIn K (He.ga K "Option") (.type "object") = some true := Hd.pickD (e0) 12 rfl
  have hc_Option : PySem.W.findIn K (.ref (He.ga K "Option")) "__class__" = some (some (.builtin "object.__class__")) := Hd.pickD (e0) 13 rfl
  have hf_Option___init__ : PySem.W.findIn K (.ref (He.ga K "Option")) "__init__" = some (some (.ref (He.ma K (He.ga K "Option") "__init__"))) := Hd.pickD (e0) 14 rfl
  have hf_Option_all_items : PySem.W.findIn K (.ref (He.ga K "Option")) "all_items" = some (some (.ref (He.ma K (He.ga K "Option") "all_items"))) := Hd.pickD (e0) 15 rfl
  have hf_Option___eq__ : PySem.W.findIn K (.ref (He.ga K "Option")) "__eq__" = some (some (.ref (He.ma K (He.ga K "Option") "__eq__"))) := Hd.pickD (e0) 16 rfl
  have hf_Option___repr__ : PySem.W.findIn K (.ref (He.ga K "Option")) "__repr__" = some (some (.ref (He.ma K (He.ga K "Option") "__repr__"))) := Hd.pickD (e0) 17 rfl
  have hp_Command : PySem.W.plainGet K (He.ga K "Command") Str.empty = true := Hd.pickD (e0) 18 rfl
  have hh_Command : PySem.W.hasDictIn K (He.ga K "Command") = true := Hd.pickD (e0) 19 rfl
  have ho_Command : PySem.W.plainOver K (He.ga K "Command") = true := Hd.pickD (e1) 0 rfl
  have hs_Command : PySem.W.findIn K (.ref (He.ga K "Command")) "__setattr__" = some (some (.builtin "object.__setattr__")) := Hd.pickD (e1) 1 rfl
  have hk_Command : PySem.W.keepIn K (.ref (He.ga K "Command")) = true := Hd.pickD (e1) 2 rfl
  have hm_Command : PySem.W.makesIn K (He.ga K "Command") = true := Hd.pickD (e1) 3 rfl
  have hb_Command : PySem.W.mroIn K (He.ga K "Command") (.type "object") = some true := Hd.pickD (e1) 4 rfl
  have hc_Command : PySem.W.findIn K (.ref (He.ga K "Command")) "__class__" = some (some (.builtin "object.__class__")) := Hd.pickD (e1) 5 rfl
  have hf_Command___init__ : PySem.W.findIn K (.ref (He.ga K "Command")) "__init__" = some (some (.ref (He.ma K (He.ga K "Command") "__init__"))) := Hd.pickD (e1) 6 rfl
  have hf_Command_options : PySem.W.findIn K (.ref (He.ga K "Command")) "options" = some (some (.ref (He.ma K (He.ga K "Command") "options"))) := Hd.pickD (e1) 7 rfl
  have hf_Command_places : PySem.W.findIn K (.ref (He.ga K "Command")) "places" = some (some (.ref (He.ma K (He.ga K "Command") "places"))) := Hd.pickD (e1) 8 rfl
  have hf_Command_parts : PySem.W.findIn K (.ref (He.ga K "Command")) "parts" = some (some (.ref (He.ma K (He.ga K "Command") "parts"))) := Hd.pickD (e1) 9 rfl
  have hf_Command_rules : PySem.W.findIn K (.ref (He.ga K "Command")) "rules" = some (some (.ref (He.ma K (He.ga K "Command") "rules"))) := Hd.pickD (e1) 10 rfl
  have hf_Command_part : PySem.W.findIn K (.ref (He.ga K "Command")) "part" = some (some (.ref (He.ma K (He.ga K "Command") "part"))) := Hd.pickD (e1) 11 rfl
  have hf_Command___eq__ : PySem.W.findIn K (.ref (He.ga K "Command")) "__eq__" = some (some (.ref (He.ma K (He.ga K "Command") "__eq__"))) := Hd.pickD (e1) 12 rfl
  have hf_Command___len__ : PySem.W.findIn K (.ref (He.ga K "Command")) "__len__" = some (some (.ref (He.ma K (He.ga K "Command") "__len__"))) := Hd.pickD (e1) 13 rfl
  have hf_Command___repr__ : PySem.W.findIn K (.ref (He.ga K "Command")) "__repr__" = some (some (.ref (He.ma K (He.ga K "Command") "__repr__"))) := Hd.pickD (e1) 14 rfl
  have hp_Grammar : PySem.W.plainGet K (He.ga K "Grammar") Str.empty = true := Hd.pickD (e1) 15 rfl
  have hh_Grammar : PySem.W.hasDictIn K (He.ga K "Grammar") = true := Hd.pickD (e1) 16 rfl
  have ho_Grammar : PySem.W.plainOver K (He.ga K "Grammar") = true := Hd.pickD (e1) 17 rfl
  have hs_Grammar : PySem.W.findIn K (.ref (He.ga K "Grammar")) "__setattr__" = some (some (.builtin "object.__setattr__")) := Hd.pickD (e1) 18 rfl
  have hk_Grammar : PySem.W.keepIn K (.ref (He.ga K "Grammar")) = true := Hd.pickD (e1) 19 rfl
  have hm_Grammar : PySem.W.makesIn K (He.ga K "Grammar") = true := Hd.pickD (e2) 0 rfl
  have hb_Grammar : PySem.W.mroIn K (He.ga K "Grammar") (.type "object") = some true := Hd.pickD (e2) 1 rfl
  have hc_Grammar : PySem.W.findIn K (.ref (He.ga K "Grammar")) "__class__" = some (some (.builtin "object.__class__")) := Hd.pickD (e2) 2 rfl
  have hf_Grammar___init__ : PySem.W.findIn K (.ref (He.ga K "Grammar")) "__init__" = some (some (.ref (He.ma K (He.ga K "Grammar") "__init__"))) := Hd.pickD (e2) 3 rfl
  have hf_Grammar_paths : PySem.W.findIn K (.ref (He.ga K "Grammar")) "paths" = some (some (.ref (He.ma K (He.ga K "Grammar") "paths"))) := Hd.pickD (e2) 4 rfl
  have hf_Grammar_need_path : PySem.W.findIn K (.ref (He.ga K "Grammar")) "need_path" = some (some (.ref (He.ma K (He.ga K "Grammar") "need_path"))) := Hd.pickD (e2) 5 rfl
  have hf_Grammar_command : PySem.W.findIn K (.ref (He.ga K "Grammar")) "command" = some (some (.ref (He.ma K (He.ga K "Grammar") "command"))) := Hd.pickD (e2) 6 rfl
  have hf_Grammar_commands_on : PySem.W.findIn K (.ref (He.ga K "Grammar")) "commands_on" = some (some (.ref (He.ma K (He.ga K "Grammar") "commands_on"))) := Hd.pickD (e2) 7 rfl
  have hf_Grammar_options_on : PySem.W.findIn K (.ref (He.ga K "Grammar")) "options_on" = some (some (.ref (He.ma K (He.ga K "Grammar") "options_on"))) := Hd.pickD (e2) 8 rfl
  have hf_Grammar_kinds : PySem.W.findIn K (.ref (He.ga K "Grammar")) "kinds" = some (some (.ref (He.ma K (He.ga K "Grammar") "kinds"))) := Hd.pickD (e2) 9 rfl
  have hf_Grammar_named : PySem.W.findIn K (.ref (He.ga K "Grammar")) "named" = some (some (.ref (He.ma K (He.ga K "Grammar") "named"))) := Hd.pickD (e2) 10 rfl
  have hf_Grammar_without_rule : PySem.W.findIn K (.ref (He.ga K "Grammar")) "without_rule" = some (some (.ref (He.ma K (He.ga K "Grammar") "without_rule"))) := Hd.pickD (e2) 11 rfl
  have hf_Grammar___eq__ : PySem.W.findIn K (.ref (He.ga K "Grammar")) "__eq__" = some (some (.ref (He.ma K (He.ga K "Grammar") "__eq__"))) := Hd.pickD (e2) 12 rfl
  have hf_Grammar___len__ : PySem.W.findIn K (.ref (He.ga K "Grammar")) "__len__" = some (some (.ref (He.ma K (He.ga K "Grammar") "__len__"))) := Hd.pickD (e2) 13 rfl
  have hf_Grammar___repr__ : PySem.W.findIn K (.ref (He.ga K "Grammar")) "__repr__" = some (some (.ref (He.ma K (He.ga K "Grammar") "__repr__"))) := Hd.pickD (e2) 14 rfl
  have hi_Option___init__ : PySem.W.isFn K (.ref (He.ma K (He.ga K "Option") "__init__")) = true := Hd.pickD (e2) 15 rfl
  have hi_Option_all_items : PySem.W.isFn K (.ref (He.ma K (He.ga K "Option") "all_items")) = true := Hd.pickD (e2) 16 rfl
  have hi_Option___eq__ : PySem.W.isFn K (.ref (He.ma K (He.ga K "Option") "__eq__")) = true := Hd.pickD (e2) 17 rfl
  have hi_Option___repr__ : PySem.W.isFn K (.ref (He.ma K (He.ga K "Option") "__repr__")) = true := Hd.pickD (e2) 18 rfl
  have hi_Command___init__ : PySem.W.isFn K (.ref (He.ma K (He.ga K "Command") "__init__")) = true := Hd.pickD (e2) 19 rfl
  have hi_Command_options : PySem.W.isFn K (.ref (He.ma K (He.ga K "Command") "options")) = true := Hd.pickD (e3) 0 rfl
  have hi_Command_places : PySem.W.isFn K (.ref (He.ma K (He.ga K "Command") "places")) = true := Hd.pickD (e3) 1 rfl
  have hi_Command_parts : PySem.W.isFn K (.ref (He.ma K (He.ga K "Command") "parts")) = true := Hd.pickD (e3) 2 rfl
  have hi_Command_rules : PySem.W.isFn K (.ref (He.ma K (He.ga K "Command") "rules")) = true := Hd.pickD (e3) 3 rfl
  have hi_Command_part : PySem.W.isFn K (.ref (He.ma K (He.ga K "Command") "part")) = true := Hd.pickD (e3) 4 rfl
  have hi_Command___eq__ : PySem.W.isFn K (.ref (He.ma K (He.ga K "Command") "__eq__")) = true := Hd.pickD (e3) 5 rfl
  have hi_Command___len__ : PySem.W.isFn K (.ref (He.ma K (He.ga K "Command") "__len__")) = true := Hd.pickD (e3) 6 rfl
  have hi_Command___repr__ : PySem.W.isFn K (.ref (He.ma K (He.ga K "Command") "__repr__")) = true := Hd.pickD (e3) 7 rfl
  have hi_Grammar___init__ : PySem.W.isFn K (.ref (He.ma K (He.ga K "Grammar") "__init__")) = true := Hd.pickD (e3) 8 rfl
  have hi_Grammar_paths : PySem.W.isFn K (.ref (He.ma K (He.ga K "Grammar") "paths")) = true := Hd.pickD (e3) 9 rfl
  have hi_Grammar_need_path : PySem.W.isFn K (.ref (He.ma K (He.ga K "Grammar") "need_path")) = true := Hd.pickD (e3) 10 rfl
  have hi_Grammar_command : PySem.W.isFn K (.ref (He.ma K (He.ga K "Grammar") "command")) = true := Hd.pickD (e3) 11 rfl
  have hi_Grammar_commands_on : PySem.W.isFn K (.ref (He.ma K (He.ga K "Grammar") "commands_on")) = true := Hd.pickD (e3) 12 rfl
  have hi_Grammar_options_on : PySem.W.isFn K (.ref (He.ma K (He.ga K "Grammar") "options_on")) = true := Hd.pickD (e3) 13 rfl
  have hi_Grammar_kinds : PySem.W.isFn K (.ref (He.ma K (He.ga K "Grammar") "kinds")) = true := Hd.pickD (e3) 14 rfl
  have hi_Grammar_named : PySem.W.isFn K (.ref (He.ma K (He.ga K "Grammar") "named")) = true := Hd.pickD (e3) 15 rfl
  have hi_Grammar_without_rule : PySem.W.isFn K (.ref (He.ma K (He.ga K "Grammar") "without_rule")) = true := Hd.pickD (e3) 16 rfl
  have hi_Grammar___eq__ : PySem.W.isFn K (.ref (He.ma K (He.ga K "Grammar") "__eq__")) = true := Hd.pickD (e3) 17 rfl
  have hi_Grammar___len__ : PySem.W.isFn K (.ref (He.ma K (He.ga K "Grammar") "__len__")) = true := Hd.pickD (e3) 18 rfl
  have hi_Grammar___repr__ : PySem.W.isFn K (.ref (He.ma K (He.ga K "Grammar") "__repr__")) = true := Hd.pickD (e3) 19 rfl
  have he_Option : PySem.W.findIn K (.ref (He.ga K "Option")) "__ne__" = some (some (.builtin "object.__ne__")) := Hd.pickD (e4) 0 rfl
  have hq_Option : PySem.W.subIn K (.ref (He.ga K "Option")) (.type "NoneType") = some false := Hd.pickD (e4) 1 rfl
  have hx_Option_name : PySem.W.findIn K (.ref (He.ga K "Option")) "name" = some none := Hd.pickD (e4) 2 rfl
  have hx_Option_kind : PySem.W.findIn K (.ref (He.ga K "Option")) "kind" = some none := Hd.pickD (e4) 3 rfl
  have hx_Option_most : PySem.W.findIn K (.ref (He.ga K "Option")) "most" = some none := Hd.pickD (e4) 4 rfl
  have he_Command : PySem.W.findIn K (.ref (He.ga K "Command")) "__ne__" = some (some (.builtin "object.__ne__")) := Hd.pickD (e4) 5 rfl
  have hq_Command : PySem.W.subIn K (.ref (He.ga K "Command")) (.type "NoneType") = some false := Hd.pickD (e4) 6 rfl
  have hx_Command_name : PySem.W.findIn K (.ref (He.ga K "Command")) "name" = some none := Hd.pickD (e4) 7 rfl
  have hx_Command_own_options : PySem.W.findIn K (.ref (He.ga K "Command")) "own_options" = some none := Hd.pickD (e4) 8 rfl
  have hx_Command_own_places : PySem.W.findIn K (.ref (He.ga K "Command")) "own_places" = some none := Hd.pickD (e4) 9 rfl
  have hx_Command_own_parts : PySem.W.findIn K (.ref (He.ga K "Command")) "own_parts" = some none := Hd.pickD (e4) 10 rfl
  have hx_Command_own_rules : PySem.W.findIn K (.ref (He.ga K "Command")) "own_rules" = some none := Hd.pickD (e4) 11 rfl
  have he_Grammar : PySem.W.findIn K (.ref (He.ga K "Grammar")) "__ne__" = some (some (.builtin "object.__ne__")) := Hd.pickD (e4) 12 rfl
  have hq_Grammar : PySem.W.subIn K (.ref (He.ga K "Grammar")) (.type "NoneType") = some false := Hd.pickD (e4) 13 rfl
  have hx_Grammar_own_top : PySem.W.findIn K (.ref (He.ga K "Grammar")) "own_top" = some none := Hd.pickD (e4) 14 rfl
  have hx_Grammar_table : PySem.W.findIn K (.ref (He.ga K "Grammar")) "table" = some none := Hd.pickD (e4) 15 rfl
  have ic_Option : PySem.W.isClsIn K (He.ga K "Option") = true := Hd.pickD (e4) 16 rfl
  have it_Option : PySem.W.typeIn K (.ref (He.ga K "Option")) = some (.type "type") := Hd.pickD (e4) 17 rfl
  have is_Option : PySem.W.subIn K (.ref (He.ga K "Option")) (.ref (He.ga K "Option")) = some true := Hd.pickD (e4) 18 rfl
  have ib_NoneType_Option : PySem.W.subIn K (.type "NoneType") (.ref (He.ga K "Option")) = some false := Hd.pickD (e4) 19 rfl
  have ib_bool_Option : PySem.W.subIn K (.type "bool") (.ref (He.ga K "Option")) = some false := Hd.pickD (e5) 0 rfl
  have ib_int_Option : PySem.W.subIn K (.type "int") (.ref (He.ga K "Option")) = some false := Hd.pickD (e5) 1 rfl
  have ib_str_Option : PySem.W.subIn K (.type "str") (.ref (He.ga K "Option")) = some false := Hd.pickD (e5) 2 rfl
  have ib_list_Option : PySem.W.subIn K (.type "list") (.ref (He.ga K "Option")) = some false := Hd.pickD (e5) 3 rfl
  have ib_tuple_Option : PySem.W.subIn K (.type "tuple") (.ref (He.ga K "Option")) = some false := Hd.pickD (e5) 4 rfl
  have ib_dict_Option : PySem.W.subIn K (.type "dict") (.ref (He.ga K "Option")) = some false := Hd.pickD (e5) 5 rfl
  have io_Option_Option : PySem.W.subIn K (.ref (He.ga K "Option")) (.ref (He.ga K "Option")) = some true := Hd.pickD (e5) 6 rfl
  have io_Command_Option : PySem.W.subIn K (.ref (He.ga K "Command")) (.ref (He.ga K "Option")) = some false := Hd.pickD (e5) 7 rfl
  have io_Grammar_Option : PySem.W.subIn K (.ref (He.ga K "Grammar")) (.ref (He.ga K "Option")) = some false := Hd.pickD (e5) 8 rfl
  have ic_Grammar : PySem.W.isClsIn K (He.ga K "Grammar") = true := Hd.pickD (e5) 9 rfl
  have it_Grammar : PySem.W.typeIn K (.ref (He.ga K "Grammar")) = some (.type "type") := Hd.pickD (e5) 10 rfl
  have is_Grammar : PySem.W.subIn K (.ref (He.ga K "Grammar")) (.ref (He.ga K "Grammar")) = some true := Hd.pickD (e5) 11 rfl
  have ib_NoneType_Grammar : PySem.W.subIn K (.type "NoneType") (.ref (He.ga K "Grammar")) = some false := Hd.pickD (e5) 12 rfl
  have ib_bool_Grammar : PySem.W.subIn K (.type "bool") (.ref (He.ga K "Grammar")) = some false := Hd.pickD (e5) 13 rfl
  have ib_int_Grammar : PySem.W.subIn K (.type "int") (.ref (He.ga K "Grammar")) = some false := Hd.pickD (e5) 14 rfl
  have ib_str_Grammar : PySem.W.subIn K (.type "str") (.ref (He.ga K "Grammar")) = some false := Hd.pickD (e5) 15 rfl
  have ib_list_Grammar : PySem.W.subIn K (.type "list") (.ref (He.ga K "Grammar")) = some false := Hd.pickD (e5) 16 rfl
  have ib_tuple_Grammar : PySem.W.subIn K (.type "tuple") (.ref (He.ga K "Grammar")) = some false := Hd.pickD (e5) 17 rfl
  have ib_dict_Grammar : PySem.W.subIn K (.type "dict") (.ref (He.ga K "Grammar")) = some false := Hd.pickD (e5) 18 rfl
  have io_Option_Grammar : PySem.W.subIn K (.ref (He.ga K "Option")) (.ref (He.ga K "Grammar")) = some false := Hd.pickD (e5) 19 rfl
  have io_Command_Grammar : PySem.W.subIn K (.ref (He.ga K "Command")) (.ref (He.ga K "Grammar")) = some false := Hd.pickD (e6) 0 rfl
  have io_Grammar_Grammar : PySem.W.subIn K (.ref (He.ga K "Grammar")) (.ref (He.ga K "Grammar")) = some true := Hd.pickD (e6) 1 rfl
  have ic_Command : PySem.W.isClsIn K (He.ga K "Command") = true := Hd.pickD (e6) 2 rfl
  have it_Command : PySem.W.typeIn K (.ref (He.ga K "Command")) = some (.type "type") := Hd.pickD (e6) 3 rfl
  have is_Command : PySem.W.subIn K (.ref (He.ga K "Command")) (.ref (He.ga K "Command")) = some true := Hd.pickD (e6) 4 rfl
  have ib_NoneType_Command : PySem.W.subIn K (.type "NoneType") (.ref (He.ga K "Command")) = some false := Hd.pickD (e6) 5 rfl
  have ib_bool_Command : PySem.W.subIn K (.type "bool") (.ref (He.ga K "Command")) = some false := Hd.pickD (e6) 6 rfl
  have ib_int_Command : PySem.W.subIn K (.type "int") (.ref (He.ga K "Command")) = some false := Hd.pickD (e6) 7 rfl
  have ib_str_Command : PySem.W.subIn K (.type "str") (.ref (He.ga K "Command")) = some false := Hd.pickD (e6) 8 rfl
  have ib_list_Command : PySem.W.subIn K (.type "list") (.ref (He.ga K "Command")) = some false := Hd.pickD (e6) 9 rfl
  have ib_tuple_Command : PySem.W.subIn K (.type "tuple") (.ref (He.ga K "Command")) = some false := Hd.pickD (e6) 10 rfl
  have ib_dict_Command : PySem.W.subIn K (.type "dict") (.ref (He.ga K "Command")) = some false := Hd.pickD (e6) 11 rfl
  have io_Option_Command : PySem.W.subIn K (.ref (He.ga K "Option")) (.ref (He.ga K "Command")) = some false := Hd.pickD (e6) 12 rfl
  have io_Command_Command : PySem.W.subIn K (.ref (He.ga K "Command")) (.ref (He.ga K "Command")) = some true := Hd.pickD (e6) 13 rfl
  have io_Grammar_Command : PySem.W.subIn K (.ref (He.ga K "Grammar")) (.ref (He.ga K "Command")) = some false := Hd.pickD (e6) 14 rfl
  have nb_Option_NoneType : PySem.W.notFirst K (He.ga K "Option") (.type "NoneType") = true := Hd.pickD (e6) 15 rfl
  have nb_Option_bool : PySem.W.notFirst K (He.ga K "Option") (.type "bool") = true := Hd.pickD (e6) 16 rfl
  have nb_Option_int : PySem.W.notFirst K (He.ga K "Option") (.type "int") = true := Hd.pickD (e6) 17 rfl
  have nb_Option_str : PySem.W.notFirst K (He.ga K "Option") (.type "str") = true := Hd.pickD (e6) 18 rfl
  have nb_Option_list : PySem.W.notFirst K (He.ga K "Option") (.type "list") = true := Hd.pickD (e6) 19 rfl
  have nb_Option_tuple : PySem.W.notFirst K (He.ga K "Option") (.type "tuple") = true := Hd.pickD (e7) 0 rfl
  have nb_Option_dict : PySem.W.notFirst K (He.ga K "Option") (.type "dict") = true := Hd.pickD (e7) 1 rfl
  have no_Option_Option : PySem.W.notFirst K (He.ga K "Option") (.ref (He.ga K "Option")) = true := Hd.pickD (e7) 2 rfl
  have nb_Command_NoneType : PySem.W.notFirst K (He.ga K "Command") (.type "NoneType") = true := Hd.pickD (e7) 3 rfl
  have nb_Command_bool : PySem.W.notFirst K (He.ga K "Command") (.type "bool") = true := Hd.pickD (e7) 4 rfl
  have nb_Command_int : PySem.W.notFirst K (He.ga K "Command") (.type "int") = true := Hd.pickD (e7) 5 rfl
  have nb_Command_str : PySem.W.notFirst K (He.ga K "Command") (.type "str") = true := Hd.pickD (e7) 6 rfl
  have nb_Command_list : PySem.W.notFirst K (He.ga K "Command") (.type "list") = true := Hd.pickD (e7) 7 rfl
  have nb_Command_tuple : PySem.W.notFirst K (He.ga K "Command") (.type "tuple") = true := Hd.pickD (e7) 8 rfl
  have nb_Command_dict : PySem.W.notFirst K (He.ga K "Command") (.type "dict") = true := Hd.pickD (e7) 9 rfl
  have no_Command_Command : PySem.W.notFirst K (He.ga K "Command") (.ref (He.ga K "Command")) = true := Hd.pickD (e7) 10 rfl
  have nb_Grammar_NoneType : PySem.W.notFirst K (He.ga K "Grammar") (.type "NoneType") = true := Hd.pickD (e7) 11 rfl
  have nb_Grammar_bool : PySem.W.notFirst K (He.ga K "Grammar") (.type "bool") = true := Hd.pickD (e7) 12 rfl
  have nb_Grammar_int : PySem.W.notFirst K (He.ga K "Grammar") (.type "int") = true := Hd.pickD (e7) 13 rfl
  have nb_Grammar_str : PySem.W.notFirst K (He.ga K "Grammar") (.type "str") = true := Hd.pickD (e7) 14 rfl
  have nb_Grammar_list : PySem.W.notFirst K (He.ga K "Grammar") (.type "list") = true := Hd.pickD (e7) 15 rfl
  have nb_Grammar_tuple : PySem.W.notFirst K (He.ga K "Grammar") (.type "tuple") = true := Hd.pickD (e7) 16 rfl
  have nb_Grammar_dict : PySem.W.notFirst K (He.ga K "Grammar") (.type "dict") = true := Hd.pickD (e7) 17 rfl
  have no_Grammar_Grammar : PySem.W.notFirst K (He.ga K "Grammar") (.ref (He.ga K "Grammar")) = true := Hd.pickD (e7) 18 rfl
  have hn__wall : PySem.W.nsIn K mainGlobals "_wall" = some (some (.ref (He.ga K "_wall"))) := Hd.pickD (e7) 19 rfl
  have hn_is_number : PySem.W.nsIn K mainGlobals "is_number" = some (some (.ref (He.ga K "is_number"))) := Hd.pickD (e8) 0 rfl
  have hn_is_between : PySem.W.nsIn K mainGlobals "is_between" = some (some (.ref (He.ga K "is_between"))) := Hd.pickD (e8) 1 rfl
  have hn_is_option_name : PySem.W.nsIn K mainGlobals "is_option_name" = some (some (.ref (He.ga K "is_option_name"))) := Hd.pickD (e8) 2 rfl
  have hn_is_name : PySem.W.nsIn K mainGlobals "is_name" = some (some (.ref (He.ga K "is_name"))) := Hd.pickD (e8) 3 rfl
  have hn_is_rule : PySem.W.nsIn K mainGlobals "is_rule" = some (some (.ref (He.ga K "is_rule"))) := Hd.pickD (e8) 4 rfl
  have hn_need_different : PySem.W.nsIn K mainGlobals "need_different" = some (some (.ref (He.ga K "need_different"))) := Hd.pickD (e8) 5 rfl
  have hn_below : PySem.W.nsIn K mainGlobals "below" = some (some (.ref (He.ga K "below"))) := Hd.pickD (e8) 6 rfl
  have hn_command_at : PySem.W.nsIn K mainGlobals "command_at" = some (some (.ref (He.ga K "command_at"))) := Hd.pickD (e8) 7 rfl
  have hn__law_feed : PySem.W.nsIn K mainGlobals "_law_feed" = some (some (.ref (He.ga K "_law_feed"))) := Hd.pickD (e8) 8 rfl
  have hn__law_take : PySem.W.nsIn K mainGlobals "_law_take" = some (some (.ref (He.ga K "_law_take"))) := Hd.pickD (e8) 9 rfl
  have hn__law_mixed : PySem.W.nsIn K mainGlobals "_law_mixed" = some (some (.ref (He.ga K "_law_mixed"))) := Hd.pickD (e8) 10 rfl
  have hn__law_same : PySem.W.nsIn K mainGlobals "_law_same" = some (some (.ref (He.ga K "_law_same"))) := Hd.pickD (e8) 11 rfl
  have hn__law_try : PySem.W.nsIn K mainGlobals "_law_try" = some (some (.ref (He.ga K "_law_try"))) := Hd.pickD (e8) 12 rfl
  have hn__law_dashes : PySem.W.nsIn K mainGlobals "_law_dashes" = some (some (.ref (He.ga K "_law_dashes"))) := Hd.pickD (e8) 13 rfl
  have hn_law : PySem.W.nsIn K mainGlobals "law" = some (some (.ref (He.ga K "law"))) := Hd.pickD (e8) 14 rfl
  have hn_InvalidWord : PySem.W.nsIn K mainGlobals "InvalidWord" = some (some (.ref (He.ga K "InvalidWord"))) := Hd.pickD (e8) 15 rfl
  have hn_InvalidName : PySem.W.nsIn K mainGlobals "InvalidName" = some (some (.ref (He.ga K "InvalidName"))) := Hd.pickD (e8) 16 rfl
  have hn_InvalidNumber : PySem.W.nsIn K mainGlobals "InvalidNumber" = some (some (.ref (He.ga K "InvalidNumber"))) := Hd.pickD (e8) 17 rfl
  have hn_InvalidWish : PySem.W.nsIn K mainGlobals "InvalidWish" = some (some (.ref (He.ga K "InvalidWish"))) := Hd.pickD (e8) 18 rfl
  have hn_InvalidLimit : PySem.W.nsIn K mainGlobals "InvalidLimit" = some (some (.ref (He.ga K "InvalidLimit"))) := Hd.pickD (e8) 19 rfl
  have hn_InvalidRule : PySem.W.nsIn K mainGlobals "InvalidRule" = some (some (.ref (He.ga K "InvalidRule"))) := Hd.pickD (e9) 0 rfl
  have hn_InvalidRow : PySem.W.nsIn K mainGlobals "InvalidRow" = some (some (.ref (He.ga K "InvalidRow"))) := Hd.pickD (e9) 1 rfl
  have hn_InvalidChange : PySem.W.nsIn K mainGlobals "InvalidChange" = some (some (.ref (He.ga K "InvalidChange"))) := Hd.pickD (e9) 2 rfl
  have hn_InvalidKey : PySem.W.nsIn K mainGlobals "InvalidKey" = some (some (.ref (He.ga K "InvalidKey"))) := Hd.pickD (e9) 3 rfl
  have hn_InvalidText : PySem.W.nsIn K mainGlobals "InvalidText" = some (some (.ref (He.ga K "InvalidText"))) := Hd.pickD (e9) 4 rfl
  have hn_InvalidCommand : PySem.W.nsIn K mainGlobals "InvalidCommand" = some (some (.ref (He.ga K "InvalidCommand"))) := Hd.pickD (e9) 5 rfl
  have hn_DuplicateName : PySem.W.nsIn K mainGlobals "DuplicateName" = some (some (.ref (He.ga K "DuplicateName"))) := Hd.pickD (e9) 6 rfl
  have hn_WrongKind : PySem.W.nsIn K mainGlobals "WrongKind" = some (some (.ref (He.ga K "WrongKind"))) := Hd.pickD (e9) 7 rfl
  have hn_UnknownName : PySem.W.nsIn K mainGlobals "UnknownName" = some (some (.ref (He.ga K "UnknownName"))) := Hd.pickD (e9) 8 rfl
  have hn_TooMany : PySem.W.nsIn K mainGlobals "TooMany" = some (some (.ref (He.ga K "TooMany"))) := Hd.pickD (e9) 9 rfl
  have hn_TooLong : PySem.W.nsIn K mainGlobals "TooLong" = some (some (.ref (He.ga K "TooLong"))) := Hd.pickD (e9) 10 rfl
  have hn_Full : PySem.W.nsIn K mainGlobals "Full" = some (some (.ref (He.ga K "Full"))) := Hd.pickD (e9) 11 rfl
  have hn_WrongWord : PySem.W.nsIn K mainGlobals "WrongWord" = some (some (.ref (He.ga K "WrongWord"))) := Hd.pickD (e9) 12 rfl
  have hn_Mixed : PySem.W.nsIn K mainGlobals "Mixed" = some (some (.ref (He.ga K "Mixed"))) := Hd.pickD (e9) 13 rfl
  have hn_NotLive : PySem.W.nsIn K mainGlobals "NotLive" = some (some (.ref (He.ga K "NotLive"))) := Hd.pickD (e9) 14 rfl
  have hn_NoWord : PySem.W.nsIn K mainGlobals "NoWord" = some (some (.ref (He.ga K "NoWord"))) := Hd.pickD (e9) 15 rfl
  have hn_Unlike : PySem.W.nsIn K mainGlobals "Unlike" = some (some (.ref (He.ga K "Unlike"))) := Hd.pickD (e9) 16 rfl
  have hn_NothingLeft : PySem.W.nsIn K mainGlobals "NothingLeft" = some (some (.ref (He.ga K "NothingLeft"))) := Hd.pickD (e9) 17 rfl
  have xb_InvalidWord : PySem.W.subIn K (.ref (He.ga K "InvalidWord")) (.type "BaseException") = some true := Hd.pickD (e9) 18 rfl
  have xi_InvalidWord : PySem.W.isClsIn K (He.ga K "InvalidWord") = true := Hd.pickD (e9) 19 rfl
  have xt_InvalidWord : PySem.W.typeIn K (.ref (He.ga K "InvalidWord")) = some (.type "type") := Hd.pickD (e10) 0 rfl
  have xb_InvalidName : PySem.W.subIn K (.ref (He.ga K "InvalidName")) (.type "BaseException") = some true := Hd.pickD (e10) 1 rfl
  have xi_InvalidName : PySem.W.isClsIn K (He.ga K "InvalidName") = true := Hd.pickD (e10) 2 rfl
  have xt_InvalidName : PySem.W.typeIn K (.ref (He.ga K "InvalidName")) = some (.type "type") := Hd.pickD (e10) 3 rfl
  have xb_InvalidNumber : PySem.W.subIn K (.ref (He.ga K "InvalidNumber")) (.type "BaseException") = some true := Hd.pickD (e10) 4 rfl
  have xi_InvalidNumber : PySem.W.isClsIn K (He.ga K "InvalidNumber") = true := Hd.pickD (e10) 5 rfl
  have xt_InvalidNumber : PySem.W.typeIn K (.ref (He.ga K "InvalidNumber")) = some (.type "type") := Hd.pickD (e10) 6 rfl
  have xb_InvalidWish : PySem.W.subIn K (.ref (He.ga K "InvalidWish")) (.type "BaseException") = some true := Hd.pickD (e10) 7 rfl
  have xi_InvalidWish : PySem.W.isClsIn K (He.ga K "InvalidWish") = true := Hd.pickD (e10) 8 rfl
  have xt_InvalidWish : PySem.W.typeIn K (.ref (He.ga K "InvalidWish")) = some (.type "type") := Hd.pickD (e10) 9 rfl
  have xb_InvalidLimit : PySem.W.subIn K (.ref (He.ga K "InvalidLimit")) (.type "BaseException") = some true := Hd.pickD (e10) 10 rfl
  have xi_InvalidLimit : PySem.W.isClsIn K (He.ga K "InvalidLimit") = true := Hd.pickD (e10) 11 rfl
  have xt_InvalidLimit : PySem.W.typeIn K (.ref (He.ga K "InvalidLimit")) = some (.type "type") := Hd.pickD (e10) 12 rfl
  have xb_InvalidRule : PySem.W.subIn K (.ref (He.ga K "InvalidRule")) (.type "BaseException") = some true := Hd.pickD (e10) 13 rfl
  have xi_InvalidRule : PySem.W.isClsIn K (He.ga K "InvalidRule") = true := Hd.pickD (e10) 14 rfl
  have xt_InvalidRule : PySem.W.typeIn K (.ref (He.ga K "InvalidRule")) = some (.type "type") := Hd.pickD (e10) 15 rfl
  have xb_InvalidRow : PySem.W.subIn K (.ref (He.ga K "InvalidRow")) (.type "BaseException") = some true := Hd.pickD (e10) 16 rfl
  have xi_InvalidRow : PySem.W.isClsIn K (He.ga K "InvalidRow") = true := Hd.pickD (e10) 17 rfl
  have xt_InvalidRow : PySem.W.typeIn K (.ref (He.ga K "InvalidRow")) = some (.type "type") := Hd.pickD (e10) 18 rfl
  have xb_InvalidChange : PySem.W.subIn K (.ref (He.ga K "InvalidChange")) (.type "BaseException") = some true := Hd.pickD (e10) 19 rfl
  have xi_InvalidChange : PySem.W.isClsIn K (He.ga K "InvalidChange") = true := Hd.pickD (e11) 0 rfl
  have xt_InvalidChange : PySem.W.typeIn K (.ref (He.ga K "InvalidChange")) = some (.type "type") := Hd.pickD (e11) 1 rfl
  have xb_InvalidKey : PySem.W.subIn K (.ref (He.ga K "InvalidKey")) (.type "BaseException") = some true := Hd.pickD (e11) 2 rfl
  have xi_InvalidKey : PySem.W.isClsIn K (He.ga K "InvalidKey") = true := Hd.pickD (e11) 3 rfl
  have xt_InvalidKey : PySem.W.typeIn K (.ref (He.ga K "InvalidKey")) = some (.type "type") := Hd.pickD (e11) 4 rfl
  have xb_InvalidText : PySem.W.subIn K (.ref (He.ga K "InvalidText")) (.type "BaseException") = some true := Hd.pickD (e11) 5 rfl
  have xi_InvalidText : PySem.W.isClsIn K (He.ga K "InvalidText") = true := Hd.pickD (e11) 6 rfl
  have xt_InvalidText : PySem.W.typeIn K (.ref (He.ga K "InvalidText")) = some (.type "type") := Hd.pickD (e11) 7 rfl
  have xb_InvalidCommand : PySem.W.subIn K (.ref (He.ga K "InvalidCommand")) (.type "BaseException") = some true := Hd.pickD (e11) 8 rfl
  have xi_InvalidCommand : PySem.W.isClsIn K (He.ga K "InvalidCommand") = true := Hd.pickD (e11) 9 rfl
  have xt_InvalidCommand : PySem.W.typeIn K (.ref (He.ga K "InvalidCommand")) = some (.type "type") := Hd.pickD (e11) 10 rfl
  have xb_DuplicateName : PySem.W.subIn K (.ref (He.ga K "DuplicateName")) (.type "BaseException") = some true := Hd.pickD (e11) 11 rfl
  have xi_DuplicateName : PySem.W.isClsIn K (He.ga K "DuplicateName") = true := Hd.pickD (e11) 12 rfl
  have xt_DuplicateName : PySem.W.typeIn K (.ref (He.ga K "DuplicateName")) = some (.type "type") := Hd.pickD (e11) 13 rfl
  have xb_WrongKind : PySem.W.subIn K (.ref (He.ga K "WrongKind")) (.type "BaseException") = some true := Hd.pickD (e11) 14 rfl
  have xi_WrongKind : PySem.W.isClsIn K (He.ga K "WrongKind") = true := Hd.pickD (e11) 15 rfl
  have xt_WrongKind : PySem.W.typeIn K (.ref (He.ga K "WrongKind")) = some (.type "type") := Hd.pickD (e11) 16 rfl
  have xb_UnknownName : PySem.W.subIn K (.ref (He.ga K "UnknownName")) (.type "BaseException") = some true := Hd.pickD (e11) 17 rfl
  have xi_UnknownName : PySem.W.isClsIn K (He.ga K "UnknownName") = true := Hd.pickD (e11) 18 rfl
  have xt_UnknownName : PySem.W.typeIn K (.ref (He.ga K "UnknownName")) = some (.type "type") := Hd.pickD (e11) 19 rfl
  have xb_TooMany : PySem.W.subIn K (.ref (He.ga K "TooMany")) (.type "BaseException") = some true := Hd.pickD (e12) 0 rfl
  have xi_TooMany : PySem.W.isClsIn K (He.ga K "TooMany") = true := Hd.pickD (e12) 1 rfl
  have xt_TooMany : PySem.W.typeIn K (.ref (He.ga K "TooMany")) = some (.type "type") := Hd.pickD (e12) 2 rfl
  have xopq : PySem.W.nsIn K cStatics "thirdparty.any" = some none := Hd.pickD (e12) 3 rfl
  have xs_InvalidName_InvalidWord : PySem.W.subIn K (.ref (He.ga K "InvalidName")) (.ref (He.ga K "InvalidWord")) = some false := Hd.pickD (e12) 4 rfl
  have xs_InvalidName_InvalidName : PySem.W.subIn K (.ref (He.ga K "InvalidName")) (.ref (He.ga K "InvalidName")) = some true := Hd.pickD (e12) 5 rfl
  have xs_InvalidName_InvalidNumber : PySem.W.subIn K (.ref (He.ga K "InvalidName")) (.ref (He.ga K "InvalidNumber")) = some false := Hd.pickD (e12) 6 rfl
  have xs_InvalidName_InvalidWish : PySem.W.subIn K (.ref (He.ga K "InvalidName")) (.ref (He.ga K "InvalidWish")) = some false := Hd.pickD (e12) 7 rfl
  have xs_InvalidName_InvalidLimit : PySem.W.subIn K (.ref (He.ga K "InvalidName")) (.ref (He.ga K "InvalidLimit")) = some false := Hd.pickD (e12) 8 rfl
  have xsa_InvalidName : PySem.W.findIn K (.ref (He.ga K "InvalidName")) "__setattr__" = some (some (.builtin "object.__setattr__")) := Hd.pickD (e12) 9 rfl
  have xeb_InvalidName : PySem.W.subIn K (.ref (He.ga K "InvalidName")) (.type "BaseException") = some true := Hd.pickD (e12) 10 rfl
  have xty_InvalidName : PySem.W.typeIn K (.ref (He.ga K "InvalidName")) = some (.type "type") := Hd.pickD (e12) 11 rfl
  have xkp_InvalidName : PySem.W.keepIn K (.ref (He.ga K "InvalidName")) = true := Hd.pickD (e12) 12 rfl
  have xin_InvalidName : PySem.W.findIn K (.ref (He.ga K "InvalidName")) "__init__" = some (some (.ref (Hd.fAt K "InvalidName"))) := Hd.pickD (e12) 13 rfl
  have xif_InvalidName : PySem.W.typeIn K (.ref (Hd.fAt K "InvalidName")) = some (.type "function") := Hd.pickD (e12) 14 rfl
  have xsu_InvalidName : PySem.W.ks_superIn K (He.ga K "InvalidName") (He.ga K "InvalidName") "__init__" = some (some (.builtin "ValueError.__init__")) := Hd.pickD (e12) 15 rfl
  have xve_InvalidName : PySem.W.subIn K (.ref (He.ga K "InvalidName")) (.type "ValueError") = some true := Hd.pickD (e12) 16 rfl
  have xmr_InvalidName : PySem.W.mroIn K (He.ga K "InvalidName") (.ref (He.ga K "InvalidName")) = some true := Hd.pickD (e12) 17 rfl
  have xga_InvalidName : PySem.W.findIn K (.ref (He.ga K "InvalidName")) "__getattribute__" = some (some (.builtin "BaseException.__getattribute__")) := Hd.pickD (e12) 18 rfl
  have xgg_InvalidName : PySem.W.findIn K (.ref (He.ga K "InvalidName")) "__getattr__" = some none := Hd.pickD (e12) 19 rfl
  have xhd_InvalidName : PySem.W.hasDictIn K (He.ga K "InvalidName") = true := Hd.pickD (e13) 0 rfl
  have xno_InvalidName_given : PySem.W.findIn K (.ref (He.ga K "InvalidName")) "given" = some none := Hd.pickD (e13) 1 rfl
  have xno_InvalidName_code : PySem.W.findIn K (.ref (He.ga K "InvalidName")) "code" = some none := Hd.pickD (e13) 2 rfl
  have xs_InvalidNumber_InvalidWord : PySem.W.subIn K (.ref (He.ga K "InvalidNumber")) (.ref (He.ga K "InvalidWord")) = some false := Hd.pickD (e13) 3 rfl
  have xs_InvalidNumber_InvalidName : PySem.W.subIn K (.ref (He.ga K "InvalidNumber")) (.ref (He.ga K "InvalidName")) = some false := Hd.pickD (e13) 4 rfl
  have xs_InvalidNumber_InvalidNumber : PySem.W.subIn K (.ref (He.ga K "InvalidNumber")) (.ref (He.ga K "InvalidNumber")) = some true := Hd.pickD (e13) 5 rfl
  have xs_InvalidNumber_InvalidWish : PySem.W.subIn K (.ref (He.ga K "InvalidNumber")) (.ref (He.ga K "InvalidWish")) = some false := Hd.pickD (e13) 6 rfl
  have xs_InvalidNumber_InvalidLimit : PySem.W.subIn K (.ref (He.ga K "InvalidNumber")) (.ref (He.ga K "InvalidLimit")) = some false := Hd.pickD (e13) 7 rfl
  have xsa_InvalidNumber : PySem.W.findIn K (.ref (He.ga K "InvalidNumber")) "__setattr__" = some (some (.builtin "object.__setattr__")) := Hd.pickD (e13) 8 rfl
  have xeb_InvalidNumber : PySem.W.subIn K (.ref (He.ga K "InvalidNumber")) (.type "BaseException") = some true := Hd.pickD (e13) 9 rfl
  have xty_InvalidNumber : PySem.W.typeIn K (.ref (He.ga K "InvalidNumber")) = some (.type "type") := Hd.pickD (e13) 10 rfl
  have xkp_InvalidNumber : PySem.W.keepIn K (.ref (He.ga K "InvalidNumber")) = true := Hd.pickD (e13) 11 rfl
  have xin_InvalidNumber : PySem.W.findIn K (.ref (He.ga K "InvalidNumber")) "__init__" = some (some (.ref (Hd.fAt K "InvalidNumber"))) := Hd.pickD (e13) 12 rfl
  have xif_InvalidNumber : PySem.W.typeIn K (.ref (Hd.fAt K "InvalidNumber")) = some (.type "function") := Hd.pickD (e13) 13 rfl
  have xsu_InvalidNumber : PySem.W.ks_superIn K (He.ga K "InvalidNumber") (He.ga K "InvalidNumber") "__init__" = some (some (.builtin "ValueError.__init__")) := Hd.pickD (e13) 14 rfl
  have xve_InvalidNumber : PySem.W.subIn K (.ref (He.ga K "InvalidNumber")) (.type "ValueError") = some true := Hd.pickD (e13) 15 rfl
  have xmr_InvalidNumber : PySem.W.mroIn K (He.ga K "InvalidNumber") (.ref (He.ga K "InvalidNumber")) = some true := Hd.pickD (e13) 16 rfl
  have xga_InvalidNumber : PySem.W.findIn K (.ref (He.ga K "InvalidNumber")) "__getattribute__" = some (some (.builtin "BaseException.__getattribute__")) := Hd.pickD (e13) 17 rfl
  have xgg_InvalidNumber : PySem.W.findIn K (.ref (He.ga K "InvalidNumber")) "__getattr__" = some none := Hd.pickD (e13) 18 rfl
  have xhd_InvalidNumber : PySem.W.hasDictIn K (He.ga K "InvalidNumber") = true := Hd.pickD (e13) 19 rfl
  have xno_InvalidNumber_given : PySem.W.findIn K (.ref (He.ga K "InvalidNumber")) "given" = some none := Hd.pickD (e14) 0 rfl
  have xno_InvalidNumber_code : PySem.W.findIn K (.ref (He.ga K "InvalidNumber")) "code" = some none := Hd.pickD (e14) 1 rfl
  have xs_InvalidRule_InvalidWord : PySem.W.subIn K (.ref (He.ga K "InvalidRule")) (.ref (He.ga K "InvalidWord")) = some false := Hd.pickD (e14) 2 rfl
  have xs_InvalidRule_InvalidName : PySem.W.subIn K (.ref (He.ga K "InvalidRule")) (.ref (He.ga K "InvalidName")) = some false := Hd.pickD (e14) 3 rfl
  have xs_InvalidRule_InvalidNumber : PySem.W.subIn K (.ref (He.ga K "InvalidRule")) (.ref (He.ga K "InvalidNumber")) = some false := Hd.pickD (e14) 4 rfl
  have xs_InvalidRule_InvalidWish : PySem.W.subIn K (.ref (He.ga K "InvalidRule")) (.ref (He.ga K "InvalidWish")) = some false := Hd.pickD (e14) 5 rfl
  have xs_InvalidRule_InvalidLimit : PySem.W.subIn K (.ref (He.ga K "InvalidRule")) (.ref (He.ga K "InvalidLimit")) = some false := Hd.pickD (e14) 6 rfl
  have xs_InvalidRule_InvalidRule : PySem.W.subIn K (.ref (He.ga K "InvalidRule")) (.ref (He.ga K "InvalidRule")) = some true := Hd.pickD (e14) 7 rfl
  have xs_InvalidRule_InvalidRow : PySem.W.subIn K (.ref (He.ga K "InvalidRule")) (.ref (He.ga K "InvalidRow")) = some false := Hd.pickD (e14) 8 rfl
  have xs_InvalidRule_InvalidChange : PySem.W.subIn K (.ref (He.ga K "InvalidRule")) (.ref (He.ga K "InvalidChange")) = some false := Hd.pickD (e14) 9 rfl
  have xs_InvalidRule_InvalidKey : PySem.W.subIn K (.ref (He.ga K "InvalidRule")) (.ref (He.ga K "InvalidKey")) = some false := Hd.pickD (e14) 10 rfl
  have xs_InvalidRule_InvalidText : PySem.W.subIn K (.ref (He.ga K "InvalidRule")) (.ref (He.ga K "InvalidText")) = some false := Hd.pickD (e14) 11 rfl
  have xs_InvalidRule_InvalidCommand : PySem.W.subIn K (.ref (He.ga K "InvalidRule")) (.ref (He.ga K "InvalidCommand")) = some false := Hd.pickD (e14) 12 rfl
  have xsa_InvalidRule : PySem.W.findIn K (.ref (He.ga K "InvalidRule")) "__setattr__" = some (some (.builtin "object.__setattr__")) := Hd.pickD (e14) 13 rfl
  have xeb_InvalidRule : PySem.W.subIn K (.ref (He.ga K "InvalidRule")) (.type "BaseException") = some true := Hd.pickD (e14) 14 rfl
  have xty_InvalidRule : PySem.W.typeIn K (.ref (He.ga K "InvalidRule")) = some (.type "type") := Hd.pickD (e14) 15 rfl
  have xkp_InvalidRule : PySem.W.keepIn K (.ref (He.ga K "InvalidRule")) = true := Hd.pickD (e14) 16 rfl
  have xin_InvalidRule : PySem.W.findIn K (.ref (He.ga K "InvalidRule")) "__init__" = some (some (.ref (Hd.fAt K "InvalidRule"))) := Hd.pickD (e14) 17 rfl
  have xif_InvalidRule : PySem.W.typeIn K (.ref (Hd.fAt K "InvalidRule")) = some (.type "function") := Hd.pickD (e14) 18 rfl
  have xsu_InvalidRule : PySem.W.ks_superIn K (He.ga K "InvalidRule") (He.ga K "InvalidRule") "__init__" = some (some (.builtin "ValueError.__init__")) := Hd.pickD (e14) 19 rfl
  have xve_InvalidRule : PySem.W.subIn K (.ref (He.ga K "InvalidRule")) (.type "ValueError") = some true := Hd.pickD (e15) 0 rfl
  have xmr_InvalidRule : PySem.W.mroIn K (He.ga K "InvalidRule") (.ref (He.ga K "InvalidRule")) = some true := Hd.pickD (e15) 1 rfl
  have xga_InvalidRule : PySem.W.findIn K (.ref (He.ga K "InvalidRule")) "__getattribute__" = some (some (.builtin "BaseException.__getattribute__")) := Hd.pickD (e15) 2 rfl
  have xgg_InvalidRule : PySem.W.findIn K (.ref (He.ga K "InvalidRule")) "__getattr__" = some none := Hd.pickD (e15) 3 rfl
  have xhd_InvalidRule : PySem.W.hasDictIn K (He.ga K "InvalidRule") = true := Hd.pickD (e15) 4 rfl
  have xno_InvalidRule_at : PySem.W.findIn K (.ref (He.ga K "InvalidRule")) "at" = some none := Hd.pickD (e15) 5 rfl
  have xno_InvalidRule_code : PySem.W.findIn K (.ref (He.ga K "InvalidRule")) "code" = some none := Hd.pickD (e15) 6 rfl
  have xs_DuplicateName_InvalidWord : PySem.W.subIn K (.ref (He.ga K "DuplicateName")) (.ref (He.ga K "InvalidWord")) = some false := Hd.pickD (e15) 7 rfl
  have xs_DuplicateName_InvalidName : PySem.W.subIn K (.ref (He.ga K "DuplicateName")) (.ref (He.ga K "InvalidName")) = some false := Hd.pickD (e15) 8 rfl
  have xs_DuplicateName_InvalidNumber : PySem.W.subIn K (.ref (He.ga K "DuplicateName")) (.ref (He.ga K "InvalidNumber")) = some false := Hd.pickD (e15) 9 rfl
  have xs_DuplicateName_InvalidWish : PySem.W.subIn K (.ref (He.ga K "DuplicateName")) (.ref (He.ga K "InvalidWish")) = some false := Hd.pickD (e15) 10 rfl
  have xs_DuplicateName_InvalidLimit : PySem.W.subIn K (.ref (He.ga K "DuplicateName")) (.ref (He.ga K "InvalidLimit")) = some false := Hd.pickD (e15) 11 rfl
  have xs_DuplicateName_InvalidRule : PySem.W.subIn K (.ref (He.ga K "DuplicateName")) (.ref (He.ga K "InvalidRule")) = some false := Hd.pickD (e15) 12 rfl
  have xs_DuplicateName_InvalidRow : PySem.W.subIn K (.ref (He.ga K "DuplicateName")) (.ref (He.ga K "InvalidRow")) = some false := Hd.pickD (e15) 13 rfl
  have xs_DuplicateName_InvalidChange : PySem.W.subIn K (.ref (He.ga K "DuplicateName")) (.ref (He.ga K "InvalidChange")) = some false := Hd.pickD (e15) 14 rfl
  have xs_DuplicateName_InvalidKey : PySem.W.subIn K (.ref (He.ga K "DuplicateName")) (.ref (He.ga K "InvalidKey")) = some false := Hd.pickD (e15) 15 rfl
  have xs_DuplicateName_InvalidText : PySem.W.subIn K (.ref (He.ga K "DuplicateName")) (.ref (He.ga K "InvalidText")) = some false := Hd.pickD (e15) 16 rfl
  have xs_DuplicateName_InvalidCommand : PySem.W.subIn K (.ref (He.ga K "DuplicateName")) (.ref (He.ga K "InvalidCommand")) = some false := Hd.pickD (e15) 17 rfl
  have xs_DuplicateName_DuplicateName : PySem.W.subIn K (.ref (He.ga K "DuplicateName")) (.ref (He.ga K "DuplicateName")) = some true := Hd.pickD (e15) 18 rfl
  have xs_DuplicateName_WrongKind : PySem.W.subIn K (.ref (He.ga K "DuplicateName")) (.ref (He.ga K "WrongKind")) = some false := Hd.pickD (e15) 19 rfl
  have xs_DuplicateName_UnknownName : PySem.W.subIn K (.ref (He.ga K "DuplicateName")) (.ref (He.ga K "UnknownName")) = some false := Hd.pickD (e16) 0 rfl
  have xsa_DuplicateName : PySem.W.findIn K (.ref (He.ga K "DuplicateName")) "__setattr__" = some (some (.builtin "object.__setattr__")) := Hd.pickD (e16) 1 rfl
  have xeb_DuplicateName : PySem.W.subIn K (.ref (He.ga K "DuplicateName")) (.type "BaseException") = some true := Hd.pickD (e16) 2 rfl
  have xty_DuplicateName : PySem.W.typeIn K (.ref (He.ga K "DuplicateName")) = some (.type "type") := Hd.pickD (e16) 3 rfl
  have xkp_DuplicateName : PySem.W.keepIn K (.ref (He.ga K "DuplicateName")) = true := Hd.pickD (e16) 4 rfl
  have xin_DuplicateName : PySem.W.findIn K (.ref (He.ga K "DuplicateName")) "__init__" = some (some (.ref (Hd.fAt K "DuplicateName"))) := Hd.pickD (e16) 5 rfl
  have xif_DuplicateName : PySem.W.typeIn K (.ref (Hd.fAt K "DuplicateName")) = some (.type "function") := Hd.pickD (e16) 6 rfl
  have xsu_DuplicateName : PySem.W.ks_superIn K (He.ga K "DuplicateName") (He.ga K "DuplicateName") "__init__" = some (some (.builtin "ValueError.__init__")) := Hd.pickD (e16) 7 rfl
  have xve_DuplicateName : PySem.W.subIn K (.ref (He.ga K "DuplicateName")) (.type "ValueError") = some true := Hd.pickD (e16) 8 rfl
  have xmr_DuplicateName : PySem.W.mroIn K (He.ga K "DuplicateName") (.ref (He.ga K "DuplicateName")) = some true := Hd.pickD (e16) 9 rfl
  have xga_DuplicateName : PySem.W.findIn K (.ref (He.ga K "DuplicateName")) "__getattribute__" = some (some (.builtin "BaseException.__getattribute__")) := Hd.pickD (e16) 10 rfl
  have xgg_DuplicateName : PySem.W.findIn K (.ref (He.ga K "DuplicateName")) "__getattr__" = some none := Hd.pickD (e16) 11 rfl
  have xhd_DuplicateName : PySem.W.hasDictIn K (He.ga K "DuplicateName") = true := Hd.pickD (e16) 12 rfl
  have xno_DuplicateName_name : PySem.W.findIn K (.ref (He.ga K "DuplicateName")) "name" = some none := Hd.pickD (e16) 13 rfl
  have xno_DuplicateName_code : PySem.W.findIn K (.ref (He.ga K "DuplicateName")) "code" = some none := Hd.pickD (e16) 14 rfl
  have xs_TooMany_InvalidWord : PySem.W.subIn K (.ref (He.ga K "TooMany")) (.ref (He.ga K "InvalidWord")) = some false := Hd.pickD (e16) 15 rfl
  have xs_TooMany_InvalidName : PySem.W.subIn K (.ref (He.ga K "TooMany")) (.ref (He.ga K "InvalidName")) = some false := Hd.pickD (e16) 16 rfl
  have xs_TooMany_InvalidNumber : PySem.W.subIn K (.ref (He.ga K "TooMany")) (.ref (He.ga K "InvalidNumber")) = some false := Hd.pickD (e16) 17 rfl
  have xs_TooMany_InvalidWish : PySem.W.subIn K (.ref (He.ga K "TooMany")) (.ref (He.ga K "InvalidWish")) = some false := Hd.pickD (e16) 18 rfl
  have xs_TooMany_InvalidLimit : PySem.W.subIn K (.ref (He.ga K "TooMany")) (.ref (He.ga K "InvalidLimit")) = some false := Hd.pickD (e16) 19 rfl
  have xs_TooMany_InvalidRule : PySem.W.subIn K (.ref (He.ga K "TooMany")) (.ref (He.ga K "InvalidRule")) = some false := Hd.pickD (e17) 0 rfl
  have xs_TooMany_InvalidRow : PySem.W.subIn K (.ref (He.ga K "TooMany")) (.ref (He.ga K "InvalidRow")) = some false := Hd.pickD (e17) 1 rfl
  have xs_TooMany_InvalidChange : PySem.W.subIn K (.ref (He.ga K "TooMany")) (.ref (He.ga K "InvalidChange")) = some false := Hd.pickD (e17) 2 rfl
  have xs_TooMany_InvalidKey : PySem.W.subIn K (.ref (He.ga K "TooMany")) (.ref (He.ga K "InvalidKey")) = some false := Hd.pickD (e17) 3 rfl
  have xs_TooMany_InvalidText : PySem.W.subIn K (.ref (He.ga K "TooMany")) (.ref (He.ga K "InvalidText")) = some false := Hd.pickD (e17) 4 rfl
  have xs_TooMany_InvalidCommand : PySem.W.subIn K (.ref (He.ga K "TooMany")) (.ref (He.ga K "InvalidCommand")) = some false := Hd.pickD (e17) 5 rfl
  have xs_TooMany_DuplicateName : PySem.W.subIn K (.ref (He.ga K "TooMany")) (.ref (He.ga K "DuplicateName")) = some false := Hd.pickD (e17) 6 rfl
  have xs_TooMany_WrongKind : PySem.W.subIn K (.ref (He.ga K "TooMany")) (.ref (He.ga K "WrongKind")) = some false := Hd.pickD (e17) 7 rfl
  have xs_TooMany_UnknownName : PySem.W.subIn K (.ref (He.ga K "TooMany")) (.ref (He.ga K "UnknownName")) = some false := Hd.pickD (e17) 8 rfl
  have xs_TooMany_TooMany : PySem.W.subIn K (.ref (He.ga K "TooMany")) (.ref (He.ga K "TooMany")) = some true := Hd.pickD (e17) 9 rfl
  have xsa_TooMany : PySem.W.findIn K (.ref (He.ga K "TooMany")) "__setattr__" = some (some (.builtin "object.__setattr__")) := Hd.pickD (e17) 10 rfl
  have xeb_TooMany : PySem.W.subIn K (.ref (He.ga K "TooMany")) (.type "BaseException") = some true := Hd.pickD (e17) 11 rfl
  have xty_TooMany : PySem.W.typeIn K (.ref (He.ga K "TooMany")) = some (.type "type") := Hd.pickD (e17) 12 rfl
  have xkp_TooMany : PySem.W.keepIn K (.ref (He.ga K "TooMany")) = true := Hd.pickD (e17) 13 rfl
  have xin_TooMany : PySem.W.findIn K (.ref (He.ga K "TooMany")) "__init__" = some (some (.ref (Hd.fAt K "TooMany"))) := Hd.pickD (e17) 14 rfl
  have xif_TooMany : PySem.W.typeIn K (.ref (Hd.fAt K "TooMany")) = some (.type "function") := Hd.pickD (e17) 15 rfl
  have xsu_TooMany : PySem.W.ks_superIn K (He.ga K "TooMany") (He.ga K "TooMany") "__init__" = some (some (.builtin "ValueError.__init__")) := Hd.pickD (e17) 16 rfl
  have xve_TooMany : PySem.W.subIn K (.ref (He.ga K "TooMany")) (.type "ValueError") = some true := Hd.pickD (e17) 17 rfl
  have xmr_TooMany : PySem.W.mroIn K (He.ga K "TooMany") (.ref (He.ga K "TooMany")) = some true := Hd.pickD (e17) 18 rfl
  have xga_TooMany : PySem.W.findIn K (.ref (He.ga K "TooMany")) "__getattribute__" = some (some (.builtin "BaseException.__getattribute__")) := Hd.pickD (e17) 19 rfl
  have xgg_TooMany : PySem.W.findIn K (.ref (He.ga K "TooMany")) "__getattr__" = some none := Hd.pickD (e18) 0 rfl
  have xhd_TooMany : PySem.W.hasDictIn K (He.ga K "TooMany") = true := Hd.pickD (e18) 1 rfl
  have xno_TooMany_subject : PySem.W.findIn K (.ref (He.ga K "TooMany")) "subject" = some none := Hd.pickD (e18) 2 rfl
  have xno_TooMany_most : PySem.W.findIn K (.ref (He.ga K "TooMany")) "most" = some none := Hd.pickD (e18) 3 rfl
  have xno_TooMany_code : PySem.W.findIn K (.ref (He.ga K "TooMany")) "code" = some none := Hd.pickD (e18) 4 rfl
  have z0 : PySem.W.nsIn K mainGlobals "len" = some none := Hd.pickD (e18) 5 rfl
  have z1 : PySem.W.nsIn K mainGlobals "int" = some none := Hd.pickD (e18) 6 rfl
  have z2 : PySem.W.nsIn K mainGlobals "str" = some none := Hd.pickD (e18) 7 rfl
  have z3 : PySem.W.nsIn K mainGlobals "bool" = some none := Hd.pickD (e18) 8 rfl
  have z4 : PySem.W.nsIn K mainGlobals "list" = some none := Hd.pickD (e18) 9 rfl
  have z5 : PySem.W.nsIn K mainGlobals "tuple" = some none := Hd.pickD (e18) 10 rfl
  have z6 : PySem.W.nsIn K mainGlobals "range" = some none := Hd.pickD (e18) 11 rfl
  have z7 : PySem.W.nsIn K mainGlobals "isinstance" = some none := Hd.pickD (e18) 12 rfl
  have z8 : PySem.W.nsIn K mainGlobals "all" = some none := Hd.pickD (e18) 13 rfl
  have z9 : PySem.W.nsIn K mainGlobals "any" = some none := Hd.pickD (e18) 14 rfl
  have z10 : PySem.W.nsIn K mainGlobals "sum" = some none := Hd.pickD (e18) 15 rfl
  have z11 : PySem.W.nsIn K mainGlobals "max" = some none := Hd.pickD (e18) 16 rfl
  have z12 : PySem.W.nsIn K mainGlobals "min" = some none := Hd.pickD (e18) 17 rfl
  have z13 : PySem.W.nsIn K mainGlobals "sorted" = some none := Hd.pickD (e18) 18 rfl
  have z14 : PySem.W.nsIn K mainGlobals "enumerate" = some none := Hd.pickD (e18) 19 rfl
  have z15 : PySem.W.nsIn K mainGlobals "zip" = some none := Hd.pickD (e19) 0 rfl
  have z16 : PySem.W.nsIn K mainGlobals "dict" = some none := Hd.pickD (e19) 1 rfl
  have z17 : PySem.W.nsIn K mainGlobals "set" = some none := Hd.pickD (e19) 2 rfl
  have z18 : PySem.W.nsIn K mainGlobals "repr" = some none := Hd.pickD (e19) 3 rfl
  have z19 : PySem.W.nsIn K mainGlobals "super" = some none := Hd.pickD (e19) 4 rfl
  obtain ⟨fd_Option___init__, D_Option___init__⟩ := c0.def_ 0 (d := dD_Option___init__) rfl
  have k_Option___init__ := D_Option___init__.kp
  obtain ⟨fd_Option_all_items, D_Option_all_items⟩ := c0.def_ 1 (d := dD_Option_all_items) rfl
  have k_Option_all_items := D_Option_all_items.kp
  obtain ⟨fd_Option___eq__, D_Option___eq__⟩ := c0.def_ 2 (d := dD_Option___eq__) rfl
  have k_Option___eq__ := D_Option___eq__.kp
  obtain ⟨fd_Option___repr__, D_Option___repr__⟩ := c0.def_ 3 (d := dD_Option___repr__) rfl
  have k_Option___repr__ := D_Option___repr__.kp
  obtain ⟨fd_Command___init__, D_Command___init__⟩ := c0.def_ 4 (d := dD_Command___init__) rfl
  have k_Command___init__ := D_Command___init__.kp
  obtain ⟨fd_Command_options, D_Command_options⟩ := c0.def_ 5 (d := dD_Command_options) rfl
  have k_Command_options := D_Command_options.kp
  obtain ⟨fd_Command_places, D_Command_places⟩ := c0.def_ 6 (d := dD_Command_places) rfl
  have k_Command_places := D_Command_places.kp
  obtain ⟨fd_Command_parts, D_Command_parts⟩ := c0.def_ 7 (d := dD_Command_parts) rfl
  have k_Command_parts := D_Command_parts.kp
  obtain ⟨fd_Command_rules, D_Command_rules⟩ := c0.def_ 8 (d := dD_Command_rules) rfl
  have k_Command_rules := D_Command_rules.kp
  obtain ⟨fd_Command_part, D_Command_part⟩ := c0.def_ 9 (d := dD_Command_part) rfl
  have k_Command_part := D_Command_part.kp
  obtain ⟨fd_Command___eq__, D_Command___eq__⟩ := c0.def_ 10 (d := dD_Command___eq__) rfl
  have k_Command___eq__ := D_Command___eq__.kp
  obtain ⟨fd_Command___len__, D_Command___len__⟩ := c0.def_ 11 (d := dD_Command___len__) rfl
  have k_Command___len__ := D_Command___len__.kp
  obtain ⟨fd_Command___repr__, D_Command___repr__⟩ := c0.def_ 12 (d := dD_Command___repr__) rfl
  have k_Command___repr__ := D_Command___repr__.kp
  obtain ⟨fd_Grammar___init__, D_Grammar___init__⟩ := c0.def_ 13 (d := dD_Grammar___init__) rfl
  have k_Grammar___init__ := D_Grammar___init__.kp
  obtain ⟨fd_Grammar_paths, D_Grammar_paths⟩ := c0.def_ 14 (d := dD_Grammar_paths) rfl
  have k_Grammar_paths := D_Grammar_paths.kp
  obtain ⟨fd_Grammar_need_path, D_Grammar_need_path⟩ := c0.def_ 15 (d := dD_Grammar_need_path) rfl
  have k_Grammar_need_path := D_Grammar_need_path.kp
  obtain ⟨fd_Grammar_command, D_Grammar_command⟩ := c0.def_ 16 (d := dD_Grammar_command) rfl
  have k_Grammar_command := D_Grammar_command.kp
  obtain ⟨fd_Grammar_commands_on, D_Grammar_commands_on⟩ := c0.def_ 17 (d := dD_Grammar_commands_on) rfl
  have k_Grammar_commands_on := D_Grammar_commands_on.kp
  obtain ⟨fd_Grammar_options_on, D_Grammar_options_on⟩ := c0.def_ 18 (d := dD_Grammar_options_on) rfl
  have k_Grammar_options_on := D_Grammar_options_on.kp
  obtain ⟨fd_Grammar_kinds, D_Grammar_kinds⟩ := c0.def_ 19 (d := dD_Grammar_kinds) rfl
  have k_Grammar_kinds := D_Grammar_kinds.kp
  obtain ⟨fd_Grammar_named, D_Grammar_named⟩ := c0.def_ 20 (d := dD_Grammar_named) rfl
  have k_Grammar_named := D_Grammar_named.kp
  obtain ⟨fd_Grammar_without_rule, D_Grammar_without_rule⟩ := c0.def_ 21 (d := dD_Grammar_without_rule) rfl
  have k_Grammar_without_rule := D_Grammar_without_rule.kp
  obtain ⟨fd_Grammar___eq__, D_Grammar___eq__⟩ := c0.def_ 22 (d := dD_Grammar___eq__) rfl
  have k_Grammar___eq__ := D_Grammar___eq__.kp
  obtain ⟨fd_Grammar___len__, D_Grammar___len__⟩ := c0.def_ 23 (d := dD_Grammar___len__) rfl
  have k_Grammar___len__ := D_Grammar___len__.kp
  obtain ⟨fd_Grammar___repr__, D_Grammar___repr__⟩ := c0.def_ 24 (d := dD_Grammar___repr__) rfl
  have k_Grammar___repr__ := D_Grammar___repr__.kp
  obtain ⟨fd__wall, D__wall⟩ := c0.def_ 25 (d := dD__wall) rfl
  have k__wall := D__wall.kp
  obtain ⟨fd_is_number, D_is_number⟩ := c0.def_ 26 (d := dD_is_number) rfl
  have k_is_number := D_is_number.kp
  obtain ⟨fd_is_between, D_is_between⟩ := c0.def_ 27 (d := dD_is_between) rfl
  have k_is_between := D_is_between.kp
  obtain ⟨fd_is_option_name, D_is_option_name⟩ := c0.def_ 28 (d := dD_is_option_name) rfl
  have k_is_option_name := D_is_option_name.kp
  obtain ⟨fd_is_name, D_is_name⟩ := c0.def_ 29 (d := dD_is_name) rfl
  have k_is_name := D_is_name.kp
  obtain ⟨fd_is_rule, D_is_rule⟩ := c0.def_ 30 (d := dD_is_rule) rfl
  have k_is_rule := D_is_rule.kp
  obtain ⟨fd_need_different, D_need_different⟩ := c0.def_ 31 (d := dD_need_different) rfl
  have k_need_different := D_need_different.kp
  obtain ⟨fd_below, D_below⟩ := c0.def_ 32 (d := dD_below) rfl
  have k_below := D_below.kp
  obtain ⟨fd_command_at, D_command_at⟩ := c0.def_ 33 (d := dD_command_at) rfl
  have k_command_at := D_command_at.kp
  obtain ⟨fd__law_feed, D__law_feed⟩ := c0.def_ 34 (d := dD__law_feed) rfl
  have k__law_feed := D__law_feed.kp
  obtain ⟨fd__law_take, D__law_take⟩ := c0.def_ 35 (d := dD__law_take) rfl
  have k__law_take := D__law_take.kp
  obtain ⟨fd__law_mixed, D__law_mixed⟩ := c0.def_ 36 (d := dD__law_mixed) rfl
  have k__law_mixed := D__law_mixed.kp
  obtain ⟨fd__law_same, D__law_same⟩ := c0.def_ 37 (d := dD__law_same) rfl
  have k__law_same := D__law_same.kp
  obtain ⟨fd__law_try, D__law_try⟩ := c0.def_ 38 (d := dD__law_try) rfl
  have k__law_try := D__law_try.kp
  obtain ⟨fd__law_dashes, D__law_dashes⟩ := c0.def_ 39 (d := dD__law_dashes) rfl
  have k__law_dashes := D__law_dashes.kp
  obtain ⟨fd_law, D_law⟩ := c0.def_ 40 (d := dD_law) rfl
  have k_law := D_law.kp
  have so0 : _root_.G.SdOk P w K (dxL w ⟨(He.ga K "Option"), (He.ga K "Command"), (He.ga K "Grammar"), (He.ma K (He.ga K "Option") "__init__"), (He.ma K (He.ga K "Option") "all_items"), (He.ma K (He.ga K "Option") "__eq__"), (He.ma K (He.ga K "Option") "__repr__"), (He.ma K (He.ga K "Command") "__init__"), (He.ma K (He.ga K "Command") "options"), (He.ma K (He.ga K "Command") "places"), (He.ma K (He.ga K "Command") "parts"), (He.ma K (He.ga K "Command") "rules"), (He.ma K (He.ga K "Command") "part"), (He.ma K (He.ga K "Command") "__eq__"), (He.ma K (He.ga K "Command") "__len__"), (He.ma K (He.ga K "Command") "__repr__"), (He.ma K (He.ga K "Grammar") "__init__"), (He.ma K (He.ga K "Grammar") "paths"), (He.ma K (He.ga K "Grammar") "need_path"), (He.ma K (He.ga K "Grammar") "command"), (He.ma K (He.ga K "Grammar") "commands_on"), (He.ma K (He.ga K "Grammar") "options_on"), (He.ma K (He.ga K "Grammar") "kinds"), (He.ma K (He.ga K "Grammar") "named"), (He.ma K (He.ga K "Grammar") "without_rule"), (He.ma K (He.ga K "Grammar") "__eq__"), (He.ma K (He.ga K "Grammar") "__len__"), (He.ma K (He.ga K "Grammar") "__repr__"), (He.ga K "BOUNDS"), (Hd.kwdAt ("Command", some "__init__") "options" K), (Hd.kwdAt ("Command", some "__init__") "places" K), (Hd.kwdAt ("Command", some "__init__") "parts" K), (Hd.kwdAt ("Command", some "__init__") "rules" K), (He.ga K "InvalidWord"), (He.ga K "InvalidName"), (He.ga K "InvalidNumber"), (He.ga K "InvalidWish"), (He.ga K "InvalidLimit"), (He.ga K "InvalidRule"), (He.ga K "InvalidRow"), (He.ga K "InvalidChange"), (He.ga K "InvalidKey"), (He.ga K "InvalidText"), (He.ga K "InvalidCommand"), (He.ga K "DuplicateName"), (He.ga K "WrongKind"), (He.ga K "UnknownName"), (He.ga K "TooMany"), (He.ga K "TooLong"), (He.ga K "Full"), (He.ga K "WrongWord"), (He.ga K "Mixed"), (He.ga K "NotLive"), (He.ga K "NoWord"), (He.ga K "Unlike"), (He.ga K "NothingLeft")⟩) := ⟨rfl, fun a kvs h => by
    simp only [sdL, List.mem_cons, List.not_mem_nil, or_false] at h
    rcases h with h
    · cases h; exact Hd.sd_ok (q := sdO.getD 0 default) (c0.sd_ 0 rfl) (by decide)⟩
  exact ⟨⟨(He.ga K "Option"), (He.ga K "Command"), (He.ga K "Grammar"), (He.ma K (He.ga K "Option") "__init__"), (He.ma K (He.ga K "Option") "all_items"), (He.ma K (He.ga K "Option") "__eq__"), (He.ma K (He.ga K "Option") "__repr__"), (He.ma K (He.ga K "Command") "__init__"), (He.ma K (He.ga K "Command") "options"), (He.ma K (He.ga K "Command") "places"), (He.ma K (He.ga K "Command") "parts"), (He.ma K (He.ga K "Command") "rules"), (He.ma K (He.ga K "Command") "part"), (He.ma K (He.ga K "Command") "__eq__"), (He.ma K (He.ga K "Command") "__len__"), (He.ma K (He.ga K "Command") "__repr__"), (He.ma K (He.ga K "Grammar") "__init__"), (He.ma K (He.ga K "Grammar") "paths"), (He.ma K (He.ga K "Grammar") "need_path"), (He.ma K (He.ga K "Grammar") "command"), (He.ma K (He.ga K "Grammar") "commands_on"), (He.ma K (He.ga K "Grammar") "options_on"), (He.ma K (He.ga K "Grammar") "kinds"), (He.ma K (He.ga K "Grammar") "named"), (He.ma K (He.ga K "Grammar") "without_rule"), (He.ma K (He.ga K "Grammar") "__eq__"), (He.ma K (He.ga K "Grammar") "__len__"), (He.ma K (He.ga K "Grammar") "__repr__"), (He.ga K "BOUNDS"), (Hd.kwdAt ("Command", some "__init__") "options" K), (Hd.kwdAt ("Command", some "__init__") "places" K), (Hd.kwdAt ("Command", some "__init__") "parts" K), (Hd.kwdAt ("Command", some "__init__") "rules" K), (He.ga K "InvalidWord"), (He.ga K "InvalidName"), (He.ga K "InvalidNumber"), (He.ga K "InvalidWish"), (He.ga K "InvalidLimit"), (He.ga K "InvalidRule"), (He.ga K "InvalidRow"), (He.ga K "InvalidChange"), (He.ga K "InvalidKey"), (He.ga K "InvalidText"), (He.ga K "InvalidCommand"), (He.ga K "DuplicateName"), (He.ga K "WrongKind"), (He.ga K "UnknownName"), (He.ga K "TooMany"), (He.ga K "TooLong"), (He.ga K "Full"), (He.ga K "WrongWord"), (He.ga K "Mixed"), (He.ga K "NotLive"), (He.ga K "NoWord"), (He.ga K "Unlike"), (He.ga K "NothingLeft")⟩, { so := so0, toAlls := {
    sn_BOUNDS := PySem.W.mg_of X G hn_s_BOUNDS,
    n_Option := PySem.W.mg_of X G hn_Option,
    cl_Option := ⟨hp_Option, hh_Option, ho_Option, hs_Option⟩,
    ty_Option := fun e => .ins e ⟨hp_Option, hh_Option, ho_Option, hs_Option⟩ hc_Option hgc htc hb_Option,
    n_Command := PySem.W.mg_of X G hn_Command,
    cl_Command := ⟨hp_Command, hh_Command, ho_Command, hs_Command⟩,
    ty_Command := fun e => .ins e ⟨hp_Command, hh_Command, ho_Command, hs_Command⟩ hc_Command hgc htc hb_Command,
    n_Grammar := PySem.W.mg_of X G hn_Grammar,
    cl_Grammar := ⟨hp_Grammar, hh_Grammar, ho_Grammar, hs_Grammar⟩,
    ty_Grammar := fun e => .ins e ⟨hp_Grammar, hh_Grammar, ho_Grammar, hs_Grammar⟩ hc_Grammar hgc htc hb_Grammar,
    f_Option___init__ := ⟨⟨_, D_Option___init__⟩⟩,
    f_Option_all_items := ⟨⟨_, D_Option_all_items⟩⟩,
    f_Option___eq__ := ⟨⟨_, D_Option___eq__⟩⟩,
    f_Option___repr__ := ⟨⟨_, D_Option___repr__⟩⟩,
    td_t_Command___init___options := Hd.etChk_ok (Hd.pick (e19) 18 rfl),
    td_t_Command___init___places := Hd.etChk_ok (Hd.pick (e19) 19 rfl),
    td_t_Command___init___parts := Hd.etChk_ok (Hd.pick (e20) 0 rfl),
    td_t_Command___init___rules := Hd.etChk_ok (Hd.pick (e20) 1 rfl),
    f_Command___init__ := ⟨⟨_, D_Command___init__⟩⟩,
    f_Command_options := ⟨⟨_, D_Command_options⟩⟩,
    f_Command_places := ⟨⟨_, D_Command_places⟩⟩,
    f_Command_parts := ⟨⟨_, D_Command_parts⟩⟩,
    f_Command_rules := ⟨⟨_, D_Command_rules⟩⟩,
    f_Command_part := ⟨⟨_, D_Command_part⟩⟩,
    f_Command___eq__ := ⟨⟨_, D_Command___eq__⟩⟩,
    f_Command___len__ := ⟨⟨_, D_Command___len__⟩⟩,
    f_Command___repr__ := ⟨⟨_, D_Command___repr__⟩⟩,
    f_Grammar___init__ := ⟨⟨_, D_Grammar___init__⟩⟩,
    f_Grammar_paths := ⟨⟨_, D_Grammar_paths⟩⟩,
    f_Grammar_need_path := ⟨⟨_, D_Grammar_need_path⟩⟩,
    f_Grammar_command := ⟨⟨_, D_Grammar_command⟩⟩,
    f_Grammar_commands_on := ⟨⟨_, D_Grammar_commands_on⟩⟩,
    f_Grammar_options_on := ⟨⟨_, D_Grammar_options_on⟩⟩,
    f_Grammar_kinds := ⟨⟨_, D_Grammar_kinds⟩⟩,
    f_Grammar_named := ⟨⟨_, D_Grammar_named⟩⟩,
    f_Grammar_without_rule := ⟨⟨_, D_Grammar_without_rule⟩⟩,
    f_Grammar___eq__ := ⟨⟨_, D_Grammar___eq__⟩⟩,
    f_Grammar___len__ := ⟨⟨_, D_Grammar___len__⟩⟩,
    f_Grammar___repr__ := ⟨⟨_, D_Grammar___repr__⟩⟩,
    mk_Option := ⟨hm_Option, hf_Option___init__, hi_Option___init__, hk_Option⟩,
    me_Option_all_items := ⟨hf_Option_all_items, hi_Option_all_items, k_Option_all_items⟩,
    me_Option___eq__ := ⟨hf_Option___eq__, hi_Option___eq__, k_Option___eq__⟩,
    me_Option___repr__ := ⟨hf_Option___repr__, hi_Option___repr__, k_Option___repr__⟩,
    ne_Option := ⟨he_Option, hb_Option⟩,
    nn_Option := hq_Option,
    na_Option_name := hx_Option_name,
    na_Option_kind := hx_Option_kind,
    na_Option_most := hx_Option_most,
    mk_Command := ⟨hm_Command, hf_Command___init__, hi_Command___init__, hk_Command⟩,
    me_Command_options := ⟨hf_Command_options, hi_Command_options, k_Command_options⟩,
    me_Command_places := ⟨hf_Command_places, hi_Command_places, k_Command_places⟩,
    me_Command_parts := ⟨hf_Command_parts, hi_Command_parts, k_Command_parts⟩,
    me_Command_rules := ⟨hf_Command_rules, hi_Command_rules, k_Command_rules⟩,
    me_Command_part := ⟨hf_Command_part, hi_Command_part, k_Command_part⟩,
    me_Command___eq__ := ⟨hf_Command___eq__, hi_Command___eq__, k_Command___eq__⟩,
    me_Command___len__ := ⟨hf_Command___len__, hi_Command___len__, k_Command___len__⟩,
    me_Command___repr__ := ⟨hf_Command___repr__, hi_Command___repr__, k_Command___repr__⟩,
    ne_Command := ⟨he_Command, hb_Command⟩,
    nn_Command := hq_Command,
    na_Command_name := hx_Command_name,
    na_Command_own_options := hx_Command_own_options,
    na_Command_own_places := hx_Command_own_places,
    na_Command_own_parts := hx_Command_own_parts,
    na_Command_own_rules := hx_Command_own_rules,
    mk_Grammar := ⟨hm_Grammar, hf_Grammar___init__, hi_Grammar___init__, hk_Grammar⟩,
    me_Grammar_paths := ⟨hf_Grammar_paths, hi_Grammar_paths, k_Grammar_paths⟩,
    me_Grammar_need_path := ⟨hf_Grammar_need_path, hi_Grammar_need_path, k_Grammar_need_path⟩,
    me_Grammar_command := ⟨hf_Grammar_command, hi_Grammar_command, k_Grammar_command⟩,
    me_Grammar_commands_on := ⟨hf_Grammar_commands_on, hi_Grammar_commands_on, k_Grammar_commands_on⟩,
    me_Grammar_options_on := ⟨hf_Grammar_options_on, hi_Grammar_options_on, k_Grammar_options_on⟩,
    me_Grammar_kinds := ⟨hf_Grammar_kinds, hi_Grammar_kinds, k_Grammar_kinds⟩,
    me_Grammar_named := ⟨hf_Grammar_named, hi_Grammar_named, k_Grammar_named⟩,
    me_Grammar_without_rule := ⟨hf_Grammar_without_rule, hi_Grammar_without_rule, k_Grammar_without_rule⟩,
    me_Grammar___eq__ := ⟨hf_Grammar___eq__, hi_Grammar___eq__, k_Grammar___eq__⟩,
    me_Grammar___len__ := ⟨hf_Grammar___len__, hi_Grammar___len__, k_Grammar___len__⟩,
    me_Grammar___repr__ := ⟨hf_Grammar___repr__, hi_Grammar___repr__, k_Grammar___repr__⟩,
    ne_Grammar := ⟨he_Grammar, hb_Grammar⟩,
    nn_Grammar := hq_Grammar,
    na_Grammar_own_top := hx_Grammar_own_top,
    na_Grammar_table := hx_Grammar_table,
    cv_Grammar_LEVELS := Hd.valChk_ok (Hd.pick (e19) 10 rfl),
    cv_Grammar_MOST := Hd.valChk_ok (Hd.pick (e19) 11 rfl),
    isa_NoneType_Option := kit_own ic_Option it_Option is_Option ib_NoneType_Option,
    isa_bool_Option := kit_own ic_Option it_Option is_Option ib_bool_Option,
    isa_int_Option := kit_own ic_Option it_Option is_Option ib_int_Option,
    isa_str_Option := kit_own ic_Option it_Option is_Option ib_str_Option,
    isa_list_Option := kit_own ic_Option it_Option is_Option ib_list_Option,
    isa_tuple_Option := kit_own ic_Option it_Option is_Option ib_tuple_Option,
    isa_dict_Option := kit_own ic_Option it_Option is_Option ib_dict_Option,
    isa_Option_Option := kit_own ic_Option it_Option is_Option io_Option_Option,
    isa_Command_Option := kit_own ic_Option it_Option is_Option io_Command_Option,
    isa_Grammar_Option := kit_own ic_Option it_Option is_Option io_Grammar_Option,
    isa_NoneType_Grammar := kit_own ic_Grammar it_Grammar is_Grammar ib_NoneType_Grammar,
    isa_bool_Grammar := kit_own ic_Grammar it_Grammar is_Grammar ib_bool_Grammar,
    isa_int_Grammar := kit_own ic_Grammar it_Grammar is_Grammar ib_int_Grammar,
    isa_str_Grammar := kit_own ic_Grammar it_Grammar is_Grammar ib_str_Grammar,
    isa_list_Grammar := kit_own ic_Grammar it_Grammar is_Grammar ib_list_Grammar,
    isa_tuple_Grammar := kit_own ic_Grammar it_Grammar is_Grammar ib_tuple_Grammar,
    isa_dict_Grammar := kit_own ic_Grammar it_Grammar is_Grammar ib_dict_Grammar,
    isa_Option_Grammar := kit_own ic_Grammar it_Grammar is_Grammar io_Option_Grammar,
    isa_Command_Grammar := kit_own ic_Grammar it_Grammar is_Grammar io_Command_Grammar,
    isa_Grammar_Grammar := kit_own ic_Grammar it_Grammar is_Grammar io_Grammar_Grammar,
    isa_NoneType_Command := kit_own ic_Command it_Command is_Command ib_NoneType_Command,
    isa_bool_Command := kit_own ic_Command it_Command is_Command ib_bool_Command,
    isa_int_Command := kit_own ic_Command it_Command is_Command ib_int_Command,
    isa_str_Command := kit_own ic_Command it_Command is_Command ib_str_Command,
    isa_list_Command := kit_own ic_Command it_Command is_Command ib_list_Command,
    isa_tuple_Command := kit_own ic_Command it_Command is_Command ib_tuple_Command,
    isa_dict_Command := kit_own ic_Command it_Command is_Command ib_dict_Command,
    isa_Option_Command := kit_own ic_Command it_Command is_Command io_Option_Command,
    isa_Command_Command := kit_own ic_Command it_Command is_Command io_Command_Command,
    isa_Grammar_Command := kit_own ic_Command it_Command is_Command io_Grammar_Command,
    nf_Option_NoneType := nb_Option_NoneType,
    nf_Option_bool := nb_Option_bool,
    nf_Option_int := nb_Option_int,
    nf_Option_str := nb_Option_str,
    nf_Option_list := nb_Option_list,
    nf_Option_tuple := nb_Option_tuple,
    nf_Option_dict := nb_Option_dict,
    nf_Option_Option := no_Option_Option,
    nf_Command_NoneType := nb_Command_NoneType,
    nf_Command_bool := nb_Command_bool,
    nf_Command_int := nb_Command_int,
    nf_Command_str := nb_Command_str,
    nf_Command_list := nb_Command_list,
    nf_Command_tuple := nb_Command_tuple,
    nf_Command_dict := nb_Command_dict,
    nf_Command_Command := no_Command_Command,
    nf_Grammar_NoneType := nb_Grammar_NoneType,
    nf_Grammar_bool := nb_Grammar_bool,
    nf_Grammar_int := nb_Grammar_int,
    nf_Grammar_str := nb_Grammar_str,
    nf_Grammar_list := nb_Grammar_list,
    nf_Grammar_tuple := nb_Grammar_tuple,
    nf_Grammar_dict := nb_Grammar_dict,
    nf_Grammar_Grammar := no_Grammar_Grammar,
    g__wall := ⟨_, ⟨⟨⟨_, D__wall⟩⟩, PySem.W.mg_of X G hn__wall, k__wall⟩⟩,
    g_is_number := ⟨_, ⟨⟨⟨_, D_is_number⟩⟩, PySem.W.mg_of X G hn_is_number, k_is_number⟩⟩,
    g_is_between := ⟨_, ⟨⟨⟨_, D_is_between⟩⟩, PySem.W.mg_of X G hn_is_between, k_is_between⟩⟩,
    g_is_option_name := ⟨_, ⟨⟨⟨_, D_is_option_name⟩⟩, PySem.W.mg_of X G hn_is_option_name, k_is_option_name⟩⟩,
    g_is_name := ⟨_, ⟨⟨⟨_, D_is_name⟩⟩, PySem.W.mg_of X G hn_is_name, k_is_name⟩⟩,
    g_is_rule := ⟨_, ⟨⟨⟨_, D_is_rule⟩⟩, PySem.W.mg_of X G hn_is_rule, k_is_rule⟩⟩,
    g_need_different := ⟨_, ⟨⟨⟨_, D_need_different⟩⟩, PySem.W.mg_of X G hn_need_different, k_need_different⟩⟩,
    g_below := ⟨_, ⟨⟨⟨_, D_below⟩⟩, PySem.W.mg_of X G hn_below, k_below⟩⟩,
    g_command_at := ⟨_, ⟨⟨⟨_, D_command_at⟩⟩, PySem.W.mg_of X G hn_command_at, k_command_at⟩⟩,
    d__law_feed := Hd.df_of D__law_feed (PySem.W.mg_of X G hn__law_feed),
    d__law_take := Hd.df_of D__law_take (PySem.W.mg_of X G hn__law_take),
    g__law_mixed := ⟨_, ⟨⟨⟨_, D__law_mixed⟩⟩, PySem.W.mg_of X G hn__law_mixed, k__law_mixed⟩⟩,
    g__law_same := ⟨_, ⟨⟨⟨_, D__law_same⟩⟩, PySem.W.mg_of X G hn__law_same, k__law_same⟩⟩,
    d__law_try := Hd.df_of D__law_try (PySem.W.mg_of X G hn__law_try),
    g__law_dashes := ⟨_, ⟨⟨⟨_, D__law_dashes⟩⟩, PySem.W.mg_of X G hn__law_dashes, k__law_dashes⟩⟩,
    d_law := Hd.df_of D_law (PySem.W.mg_of X G hn_law),
    n_InvalidWord := PySem.W.mg_of X G hn_InvalidWord,
    n_InvalidName := PySem.W.mg_of X G hn_InvalidName,
    n_InvalidNumber := PySem.W.mg_of X G hn_InvalidNumber,
    n_InvalidWish := PySem.W.mg_of X G hn_InvalidWish,
    n_InvalidLimit := PySem.W.mg_of X G hn_InvalidLimit,
    n_InvalidRule := PySem.W.mg_of X G hn_InvalidRule,
    n_InvalidRow := PySem.W.mg_of X G hn_InvalidRow,
    n_InvalidChange := PySem.W.mg_of X G hn_InvalidChange,
    n_InvalidKey := PySem.W.mg_of X G hn_InvalidKey,
    n_InvalidText := PySem.W.mg_of X G hn_InvalidText,
    n_InvalidCommand := PySem.W.mg_of X G hn_InvalidCommand,
    n_DuplicateName := PySem.W.mg_of X G hn_DuplicateName,
    n_WrongKind := PySem.W.mg_of X G hn_WrongKind,
    n_UnknownName := PySem.W.mg_of X G hn_UnknownName,
    n_TooMany := PySem.W.mg_of X G hn_TooMany,
    n_TooLong := PySem.W.mg_of X G hn_TooLong,
    n_Full := PySem.W.mg_of X G hn_Full,
    n_WrongWord := PySem.W.mg_of X G hn_WrongWord,
    n_Mixed := PySem.W.mg_of X G hn_Mixed,
    n_NotLive := PySem.W.mg_of X G hn_NotLive,
    n_NoWord := PySem.W.mg_of X G hn_NoWord,
    n_Unlike := PySem.W.mg_of X G hn_Unlike,
    n_NothingLeft := PySem.W.mg_of X G hn_NothingLeft,
    exm_InvalidName_InvalidWord := _root_.G.exm1 xb_InvalidWord xi_InvalidWord xt_InvalidWord xs_InvalidName_InvalidWord,
    exm_InvalidName_InvalidName := _root_.G.exm1 xb_InvalidName xi_InvalidName xt_InvalidName xs_InvalidName_InvalidName,
    exm_InvalidName_InvalidNumber := _root_.G.exm1 xb_InvalidNumber xi_InvalidNumber xt_InvalidNumber xs_InvalidName_InvalidNumber,
    exm_InvalidName_InvalidWish := _root_.G.exm1 xb_InvalidWish xi_InvalidWish xt_InvalidWish xs_InvalidName_InvalidWish,
    exm_InvalidName_InvalidLimit := _root_.G.exm1 xb_InvalidLimit xi_InvalidLimit xt_InvalidLimit xs_InvalidName_InvalidLimit,
    xno_InvalidName_given := xno_InvalidName_given,
    xno_InvalidName_code := xno_InvalidName_code,
    xf_InvalidName := ⟨xga_InvalidName, xgg_InvalidName, xeb_InvalidName, xhd_InvalidName⟩,
    sx_InvalidName := Hd.sx_of (d := dX_InvalidName) (c0.fx_ 0 rfl) (Hd.pick (e19) 5 rfl) xsa_InvalidName xeb_InvalidName xty_InvalidName xkp_InvalidName xin_InvalidName xif_InvalidName (by decide +kernel) xopq xsu_InvalidName xve_InvalidName xmr_InvalidName (NdefX.nscope_by (show NdefX.nscB ["self", "given", "__class__"] ["self", "given"] ["__class__"] (defScope s_InvalidName___init__) = true by decide +kernel)) (show (defScope s_InvalidName___init__).names.lookup ("super" : Str) = some .globalImplicit by decide +kernel) (show ((defArgs s_InvalidName___init__).posonlyargs ++ (defArgs s_InvalidName___init__).args).head?.map (·.arg) = some ("self" : Str) by decide +kernel) rfl,
    exm_InvalidNumber_InvalidWord := _root_.G.exm1 xb_InvalidWord xi_InvalidWord xt_InvalidWord xs_InvalidNumber_InvalidWord,
    exm_InvalidNumber_InvalidName := _root_.G.exm1 xb_InvalidName xi_InvalidName xt_InvalidName xs_InvalidNumber_InvalidName,
    exm_InvalidNumber_InvalidNumber := _root_.G.exm1 xb_InvalidNumber xi_InvalidNumber xt_InvalidNumber xs_InvalidNumber_InvalidNumber,
    exm_InvalidNumber_InvalidWish := _root_.G.exm1 xb_InvalidWish xi_InvalidWish xt_InvalidWish xs_InvalidNumber_InvalidWish,
    exm_InvalidNumber_InvalidLimit := _root_.G.exm1 xb_InvalidLimit xi_InvalidLimit xt_InvalidLimit xs_InvalidNumber_InvalidLimit,
    xno_InvalidNumber_given := xno_InvalidNumber_given,
    xno_InvalidNumber_code := xno_InvalidNumber_code,
    xf_InvalidNumber := ⟨xga_InvalidNumber, xgg_InvalidNumber, xeb_InvalidNumber, xhd_InvalidNumber⟩,
    sx_InvalidNumber := Hd.sx_of (d := dX_InvalidNumber) (c0.fx_ 1 rfl) (Hd.pick (e19) 6 rfl) xsa_InvalidNumber xeb_InvalidNumber xty_InvalidNumber xkp_InvalidNumber xin_InvalidNumber xif_InvalidNumber (by decide +kernel) xopq xsu_InvalidNumber xve_InvalidNumber xmr_InvalidNumber (NdefX.nscope_by (show NdefX.nscB ["self", "given", "__class__"] ["self", "given"] ["__class__"] (defScope s_InvalidNumber___init__) = true by decide +kernel)) (show (defScope s_InvalidNumber___init__).names.lookup ("super" : Str) = some .globalImplicit by decide +kernel) (show ((defArgs s_InvalidNumber___init__).posonlyargs ++ (defArgs s_InvalidNumber___init__).args).head?.map (·.arg) = some ("self" : Str) by decide +kernel) rfl,
    exm_InvalidRule_InvalidWord := _root_.G.exm1 xb_InvalidWord xi_InvalidWord xt_InvalidWord xs_InvalidRule_InvalidWord,
    exm_InvalidRule_InvalidName := _root_.G.exm1 xb_InvalidName xi_InvalidName xt_InvalidName xs_InvalidRule_InvalidName,
    exm_InvalidRule_InvalidNumber := _root_.G.exm1 xb_InvalidNumber xi_InvalidNumber xt_InvalidNumber xs_InvalidRule_InvalidNumber,
    exm_InvalidRule_InvalidWish := _root_.G.exm1 xb_InvalidWish xi_InvalidWish xt_InvalidWish xs_InvalidRule_InvalidWish,
    exm_InvalidRule_InvalidLimit := _root_.G.exm1 xb_InvalidLimit xi_InvalidLimit xt_InvalidLimit xs_InvalidRule_InvalidLimit,
    exm_InvalidRule_InvalidRule := _root_.G.exm1 xb_InvalidRule xi_InvalidRule xt_InvalidRule xs_InvalidRule_InvalidRule,
    exm_InvalidRule_InvalidRow := _root_.G.exm1 xb_InvalidRow xi_InvalidRow xt_InvalidRow xs_InvalidRule_InvalidRow,
    exm_InvalidRule_InvalidChange := _root_.G.exm1 xb_InvalidChange xi_InvalidChange xt_InvalidChange xs_InvalidRule_InvalidChange,
    exm_InvalidRule_InvalidKey := _root_.G.exm1 xb_InvalidKey xi_InvalidKey xt_InvalidKey xs_InvalidRule_InvalidKey,
    exm_InvalidRule_InvalidText := _root_.G.exm1 xb_InvalidText xi_InvalidText xt_InvalidText xs_InvalidRule_InvalidText,
    exm_InvalidRule_InvalidCommand := _root_.G.exm1 xb_InvalidCommand xi_InvalidCommand xt_InvalidCommand xs_InvalidRule_InvalidCommand,
    xno_InvalidRule_at := xno_InvalidRule_at,
    xno_InvalidRule_code := xno_InvalidRule_code,
    xf_InvalidRule := ⟨xga_InvalidRule, xgg_InvalidRule, xeb_InvalidRule, xhd_InvalidRule⟩,
    sx_InvalidRule := Hd.sx_of (d := dX_InvalidRule) (c0.fx_ 2 rfl) (Hd.pick (e19) 7 rfl) xsa_InvalidRule xeb_InvalidRule xty_InvalidRule xkp_InvalidRule xin_InvalidRule xif_InvalidRule (by decide +kernel) xopq xsu_InvalidRule xve_InvalidRule xmr_InvalidRule (NdefX.nscope_by (show NdefX.nscB ["self", "at", "__class__"] ["self", "at"] ["__class__"] (defScope s_InvalidRule___init__) = true by decide +kernel)) (show (defScope s_InvalidRule___init__).names.lookup ("super" : Str) = some .globalImplicit by decide +kernel) (show ((defArgs s_InvalidRule___init__).posonlyargs ++ (defArgs s_InvalidRule___init__).args).head?.map (·.arg) = some ("self" : Str) by decide +kernel) rfl,
    exm_DuplicateName_InvalidWord := _root_.G.exm1 xb_InvalidWord xi_InvalidWord xt_InvalidWord xs_DuplicateName_InvalidWord,
    exm_DuplicateName_InvalidName := _root_.G.exm1 xb_InvalidName xi_InvalidName xt_InvalidName xs_DuplicateName_InvalidName,
    exm_DuplicateName_InvalidNumber := _root_.G.exm1 xb_InvalidNumber xi_InvalidNumber xt_InvalidNumber xs_DuplicateName_InvalidNumber,
    exm_DuplicateName_InvalidWish := _root_.G.exm1 xb_InvalidWish xi_InvalidWish xt_InvalidWish xs_DuplicateName_InvalidWish,
    exm_DuplicateName_InvalidLimit := _root_.G.exm1 xb_InvalidLimit xi_InvalidLimit xt_InvalidLimit xs_DuplicateName_InvalidLimit,
    exm_DuplicateName_InvalidRule := _root_.G.exm1 xb_InvalidRule xi_InvalidRule xt_InvalidRule xs_DuplicateName_InvalidRule,
    exm_DuplicateName_InvalidRow := _root_.G.exm1 xb_InvalidRow xi_InvalidRow xt_InvalidRow xs_DuplicateName_InvalidRow,
    exm_DuplicateName_InvalidChange := _root_.G.exm1 xb_InvalidChange xi_InvalidChange xt_InvalidChange xs_DuplicateName_InvalidChange,
    exm_DuplicateName_InvalidKey := _root_.G.exm1 xb_InvalidKey xi_InvalidKey xt_InvalidKey xs_DuplicateName_InvalidKey,
    exm_DuplicateName_InvalidText := _root_.G.exm1 xb_InvalidText xi_InvalidText xt_InvalidText xs_DuplicateName_InvalidText,
    exm_DuplicateName_InvalidCommand := _root_.G.exm1 xb_InvalidCommand xi_InvalidCommand xt_InvalidCommand xs_DuplicateName_InvalidCommand,
    exm_DuplicateName_DuplicateName := _root_.G.exm1 xb_DuplicateName xi_DuplicateName xt_DuplicateName xs_DuplicateName_DuplicateName,
    exm_DuplicateName_WrongKind := _root_.G.exm1 xb_WrongKind xi_WrongKind xt_WrongKind xs_DuplicateName_WrongKind,
    exm_DuplicateName_UnknownName := _root_.G.exm1 xb_UnknownName xi_UnknownName xt_UnknownName xs_DuplicateName_UnknownName,
    xno_DuplicateName_name := xno_DuplicateName_name,
    xno_DuplicateName_code := xno_DuplicateName_code,
    xf_DuplicateName := ⟨xga_DuplicateName, xgg_DuplicateName, xeb_DuplicateName, xhd_DuplicateName⟩,
    sx_DuplicateName := Hd.sx_of (d := dX_DuplicateName) (c0.fx_ 3 rfl) (Hd.pick (e19) 8 rfl) xsa_DuplicateName xeb_DuplicateName xty_DuplicateName xkp_DuplicateName xin_DuplicateName xif_DuplicateName (by decide +kernel) xopq xsu_DuplicateName xve_DuplicateName xmr_DuplicateName (NdefX.nscope_by (show NdefX.nscB ["self", "name", "__class__"] ["self", "name"] ["__class__"] (defScope s_DuplicateName___init__) = true by decide +kernel)) (show (defScope s_DuplicateName___init__).names.lookup ("super" : Str) = some .globalImplicit by decide +kernel) (show ((defArgs s_DuplicateName___init__).posonlyargs ++ (defArgs s_DuplicateName___init__).args).head?.map (·.arg) = some ("self" : Str) by decide +kernel) rfl,
    exm_TooMany_InvalidWord := _root_.G.exm1 xb_InvalidWord xi_InvalidWord xt_InvalidWord xs_TooMany_InvalidWord,
    exm_TooMany_InvalidName := _root_.G.exm1 xb_InvalidName xi_InvalidName xt_InvalidName xs_TooMany_InvalidName,
    exm_TooMany_InvalidNumber := _root_.G.exm1 xb_InvalidNumber xi_InvalidNumber xt_InvalidNumber xs_TooMany_InvalidNumber,
    exm_TooMany_InvalidWish := _root_.G.exm1 xb_InvalidWish xi_InvalidWish xt_InvalidWish xs_TooMany_InvalidWish,
    exm_TooMany_InvalidLimit := _root_.G.exm1 xb_InvalidLimit xi_InvalidLimit xt_InvalidLimit xs_TooMany_InvalidLimit,
    exm_TooMany_InvalidRule := _root_.G.exm1 xb_InvalidRule xi_InvalidRule xt_InvalidRule xs_TooMany_InvalidRule,
    exm_TooMany_InvalidRow := _root_.G.exm1 xb_InvalidRow xi_InvalidRow xt_InvalidRow xs_TooMany_InvalidRow,
    exm_TooMany_InvalidChange := _root_.G.exm1 xb_InvalidChange xi_InvalidChange xt_InvalidChange xs_TooMany_InvalidChange,
    exm_TooMany_InvalidKey := _root_.G.exm1 xb_InvalidKey xi_InvalidKey xt_InvalidKey xs_TooMany_InvalidKey,
    exm_TooMany_InvalidText := _root_.G.exm1 xb_InvalidText xi_InvalidText xt_InvalidText xs_TooMany_InvalidText,
    exm_TooMany_InvalidCommand := _root_.G.exm1 xb_InvalidCommand xi_InvalidCommand xt_InvalidCommand xs_TooMany_InvalidCommand,
    exm_TooMany_DuplicateName := _root_.G.exm1 xb_DuplicateName xi_DuplicateName xt_DuplicateName xs_TooMany_DuplicateName,
    exm_TooMany_WrongKind := _root_.G.exm1 xb_WrongKind xi_WrongKind xt_WrongKind xs_TooMany_WrongKind,
    exm_TooMany_UnknownName := _root_.G.exm1 xb_UnknownName xi_UnknownName xt_UnknownName xs_TooMany_UnknownName,
    exm_TooMany_TooMany := _root_.G.exm1 xb_TooMany xi_TooMany xt_TooMany xs_TooMany_TooMany,
    xno_TooMany_subject := xno_TooMany_subject,
    xno_TooMany_most := xno_TooMany_most,
    xno_TooMany_code := xno_TooMany_code,
    xf_TooMany := ⟨xga_TooMany, xgg_TooMany, xeb_TooMany, xhd_TooMany⟩,
    sx_TooMany := Hd.sx_of (d := dX_TooMany) (c0.fx_ 4 rfl) (Hd.pick (e19) 9 rfl) xsa_TooMany xeb_TooMany xty_TooMany xkp_TooMany xin_TooMany xif_TooMany (by decide +kernel) xopq xsu_TooMany xve_TooMany xmr_TooMany (NdefX.nscope_by (show NdefX.nscB ["self", "subject", "most", "__class__"] ["self", "subject", "most"] ["__class__"] (defScope s_TooMany___init__) = true by decide +kernel)) (show (defScope s_TooMany___init__).names.lookup ("super" : Str) = some .globalImplicit by decide +kernel) (show ((defArgs s_TooMany___init__).posonlyargs ++ (defArgs s_TooMany___init__).args).head?.map (·.arg) = some ("self" : Str) by decide +kernel) rfl,
    T := ⟨PySem.W.mg_none_of X G z0, PySem.W.mg_none_of X G z1, PySem.W.mg_none_of X G z2, PySem.W.mg_none_of X G z3, PySem.W.mg_none_of X G z4, PySem.W.mg_none_of X G z5, PySem.W.mg_none_of X G z6, PySem.W.mg_none_of X G z7, PySem.W.mg_none_of X G z8, PySem.W.mg_none_of X G z9, PySem.W.mg_none_of X G z10, PySem.W.mg_none_of X G z11, PySem.W.mg_none_of X G z12, PySem.W.mg_none_of X G z13, PySem.W.mg_none_of X G z14, PySem.W.mg_none_of X G z15, PySem.W.mg_none_of X G z16, PySem.W.mg_none_of X G z17, PySem.W.mg_none_of X G z18, PySem.W.mg_none_of X G z19⟩,
    GC := ⟨Hd.glbChk_ok X G (Hd.pick (e19) 12 rfl), Hd.glbChk_ok X G (Hd.pick (e19) 13 rfl), Hd.glbChk_ok X G (Hd.pick (e19) 14 rfl), Hd.glbChk_ok X G (Hd.pick (e19) 15 rfl), Hd.glbChk_ok X G (Hd.pick (e19) 16 rfl), Hd.glbChk_ok X G (Hd.pick (e19) 17 rfl)⟩ } }⟩
/-! ### the law's drawing -/
section
variable {P : Program} {w : World} {K : PySem.W.Frag} {mg : Str → Option Value} {base : Heap}
theorem sc__law_feed : FnScope ["_law_script"] ["_law_script"] (defScope s__law_feed) := ⟨rfl, rfl, rfl, by decide +kernel, rfl, by decide +kernel, by decide +kernel⟩
theorem c__law_feed_ok (D : Df K mg "_law_feed" s__law_feed) (T : Txt mg) : Cl P w K mg base CX0 1 "_law_feed" (spFeed K) [] := by
  refine cal_mk D sc__law_feed (fun _ _ _ _ _ _ us hl => match us, hl with | [_], _ => rfl) (fun vs H Q E h => ?_) (fun f cdv A outer s H vs Q E hr h => ?_)
  · obtain ⟨a, ns, rfl, _⟩ := h; rfl
  · obtain ⟨a, ns, rfl, hS, hn, k⟩ := h
    refine ⟨_, (pss_one (ps_ret (pe_lst (pa_cons (pe_callTy call_list_of (by rfl) T.b_list (by decide +kernel) (pa_cons (pe_slice sl_list (pv 0) po_none (po_some pe_int)) pa_nil)) (pa_cons pe_int (pa_cons pe_int (pa_cons (pe_op op_add pe_int (pe_op op_mul pe_int (pe_callB call_len_seq (by rfl) T.b_len (by decide +kernel) (pa_cons (pv 0) pa_nil)))) pa_nil))))))), ?_⟩
    refine ⟨_, rfl, 60, rfl, a, _, rfl, hS, fun p1 h1 => ?_⟩
    refine ⟨p1, _, rfl, .inl (SqL.of upd_same), fun p2 h2 => ?_⟩
    have e1 : Same H (upd H p1 (.lst (cutV (ns.map V.int) none (some 60)))) := Same.newT h1
    have e2 := e1.trans (Same.newT (o := .lst (cutV (ns.map V.int) none (some 60))) h2)
    refine ⟨_, rfl, a, _, rfl, .inl (Same.seq e2 hS), _, _, rfl, rfl, .inl (by decide), ?_⟩
    refine ⟨_, _, rfl, rfl, ?_⟩
    refine ⟨by show 4 ≤ sizeLine; decide, fun p3 h3 => ?_⟩
    have hc : cutV (ns.map V.int) none (some 60) = (ns.take (HT.sIx ns.length ns.length (some 60))).map V.int := by
      unfold cutV
      rw [List.length_map]
      show List.take (_ - 0) (List.drop 0 _) = _
      rw [Nat.sub_zero, List.drop_zero, List.map_take]
    refine k _ p2 _ (e2.trans (Same.newT h3)) ⟨ns.take (HT.sIx ns.length ns.length (some 60)), 0, 0, _, upd_same, ?_, ?_, by omega, by omega, ?_, ?_, ?_⟩ ?_ ?_
    · rw [upd_ne (ne_of_none upd_same h3), upd_same, hc]
    · exact ne_of_none upd_same h3
    · rw [List.length_map]; omega
    · rw [List.length_map]; omega
    · rw [List.length_take]; omega
    · exact e2.free h3
    · exact e1.free h2
theorem sc__law_take : FnScope ["_law_feed_here", "_law_many", "_law_cell", "_law_got", "_law_seed"] ["_law_feed_here", "_law_many"] (defScope s__law_take) := ⟨rfl, rfl, rfl, by decide +kernel, rfl, by decide +kernel, by decide +kernel⟩
theorem c__law_take_ok (D : Df K mg "_law_take" s__law_take) (T : Txt mg) : Cl P w K mg base CX0 1 "_law_take" spTake [] := by
  refine cal_mk D sc__law_take (fun _ _ _ _ _ _ us hl => match us, hl with | [_, _], _ => rfl) (fun vs H Q E h => ?_) (fun f cdv A outer s H vs Q E hr h => ?_)
  · obtain ⟨a, l, m, rfl, _⟩ := h; rfl
  · obtain ⟨p, l, m, rfl, hF, m0, m1, k⟩ := h
    refine ⟨_, (Evl.pss_cut (ps_if (PW.pt (pw_and (pt_cmpR op_eq (pe_ix ix_list (pv 0) pe_int (fun _ _ => rfl)) pe_int (nomark _)) (pw_and1 (pt_cmpR op_lt (pe_ix ix_list (pv 0) pe_int (fun _ _ => rfl)) (pe_callB call_len (by rfl) T.b_len (by decide +kernel) (pa_cons (pe_ix ix_list (pv 0) pe_int (fun _ _ => rfl)) pa_nil)) (nomark _))))) (pss_cons (ps_set (i := 2) sc__law_take.nd rfl (by first | exact Or.inl rfl | exact Or.inr rfl) (pe_ix ix_seq (pe_ix ix_list (pv 0) pe_int (fun _ _ => rfl)) (pe_ix ix_list (pv 0) pe_int (fun _ _ => rfl)) (fun _ _ => rfl)))
  (pss_cons (ps_asg (pe_op op_add (pe_ix ix_list (pv 0) pe_int (fun _ _ => rfl)) pe_int) (pg_sub (pv 0) pe_int set_list))
  (pss_one (ps_if (pt_cmpR op_ge (pv 2) (pe_op op_pow pe_int pe_int) (nomark _)) (pss_one (ps_asg (pv 2) (pg_sub (pv 0) pe_int set_list))) (pss_one (ps_asg (pe_op op_modN (pe_callTy call_int1 (by rfl) T.b_int (by decide +kernel) (pa_cons (pe_op op_add (pe_op op_add (pe_op op_mul (pe_ix ix_list (pv 0) pe_int (fun _ _ => rfl)) pe_int) (pe_op op_mul (pe_op op_modN (pe_callTy call_int1 (by rfl) T.b_int (by decide +kernel) (pa_cons (pv 2) pa_nil)) pe_int) pe_int)) pe_int) pa_nil)) pe_int) (pg_sub (pv 0) pe_int set_list))))))) pss_nil)
  (pss_cons (ps_if (pt_cmpR op_gt (pe_ix ix_list (pv 0) pe_int (fun _ _ => rfl)) pe_int (nomark _)) (pss_cons (ps_set (i := 3) sc__law_take.nd rfl (by first | exact Or.inl rfl | exact Or.inr rfl) (pe_op op_modN (pe_callTy call_int1 (by rfl) T.b_int (by decide +kernel) (pa_cons (pe_ix ix_list (pv 0) pe_int (fun _ _ => rfl)) pa_nil)) (pv 1)))
  (pss_cons (ps_asg (pe_op op_fdivN (pe_ix ix_list (pv 0) pe_int (fun _ _ => rfl)) (pv 1)) (pg_sub (pv 0) pe_int set_list))
  (pss_one (ps_ret (pv 3))))) pss_nil)
  (pss_cons (ps_set (i := 4) sc__law_take.nd rfl (by first | exact Or.inl rfl | exact Or.inr rfl) (pe_ix ix_list (pv 0) pe_int (fun _ _ => rfl)))
  (pss_cons (ps_asg (pe_op op_modN (pe_callTy call_int1 (by rfl) T.b_int (by decide +kernel) (pa_cons (pe_op op_add (pe_op op_add (pe_op op_mul (pv 4) (pv 4)) (pe_op op_mul (pv 4) pe_int)) pe_int) pa_nil)) pe_int) (pg_sub (pv 0) pe_int set_list))
  (pss_one (ps_ret (pe_op op_modN (pe_callTy call_int1 (by rfl) T.b_int (by decide +kernel) (pa_cons (pe_op op_add (pe_op op_fdivN (pe_ix ix_list (pv 0) pe_int (fun _ _ => rfl)) pe_int) (pe_op op_mul (pe_op op_modN (pe_callTy call_int1 (by rfl) T.b_int (by decide +kernel) (pa_cons (pe_ix ix_list (pv 0) pe_int (fun _ _ => rfl)) pa_nil)) pe_int) pe_int)) pa_nil)) (pv 1)))))))), ?_⟩
    obtain ⟨ns, i, c, s, hp, hl, hlp, hi, hc, hs, hs2, hn⟩ := id hF
    refine ⟨fun σ' H' => (∃ x, σ' = [some (.ref p), some (.int m), x, none, none]) ∧ Mv p l H H', ?_, ?_⟩
    · have skip : ∀ x, (∃ y, [some (V.ref p), some (V.int m), x, none, none] = [some (V.ref p), some (V.int m), y, none, none]) ∧ Mv p l H H := fun x => ⟨⟨x, rfl⟩, Mv.refl hF⟩
      refine ⟨_, rfl, _, _, _, _, rfl, rfl, SqL.of hp, rfl, rfl, _, rfl, ?_⟩
      refine ite2 (fun hc0 => ?_) (fun _ => iteF (skip none))
      refine ⟨_, rfl, _, _, _, _, rfl, rfl, SqL.of hp, rfl, ⟨_, rfl, _, _, _, _, rfl, rfl, SqL.of hp, rfl, .ref l, _, rfl, .inl ⟨_, SqL.of hl, rfl⟩, ?_⟩⟩
      refine ⟨_, _, rfl, rfl, _, rfl, ?_⟩
      refine ite2 (fun hlt => ?_) (fun _ => skip none)
      have hlt2 : i < ((ns.map V.int).length : Int) := of_decide_eq_true hlt
      rw [List.length_map] at hlt2
      obtain ⟨z, hz⟩ : ∃ z, ns[i.toNat]? = some z := ⟨ns[i.toNat]'(by omega), List.getElem?_eq_getElem (by omega)⟩
      have hat : atI (ns.map V.int) i = some (.int z) := by
        have e : i = (i.toNat : Int) := by omega
        rw [e]
        exact atI_nat (by rw [List.getElem?_map, hz]; rfl)
      refine ⟨_, rfl, _, _, _, _, rfl, rfl, SqL.of hp, rfl, _, rfl, _, _, _, _, rfl, rfl, SqL.of hp, rfl, .inl ⟨l, _, _, _, rfl, rfl, SqL.of hl, hat, ?_⟩⟩
      -- feed[1] = feed[1] + 1
      refine ⟨_, rfl, _, _, _, _, rfl, rfl, SqL.of hp, rfl, _, _, rfl, rfl, _, rfl, p, _, 1, 1, rfl, rfl, hp, rfl, ?_⟩
      have hm1 : Mv p l H (upd H p (.lst [.ref l, .int (i + 1), .int c, .int s])) := Mv.put hl hlp (by omega) hc hs hs2 hn
      refine ⟨_, rfl, _, _, rfl, rfl, ⟨by decide, by decide, by decide⟩, _, _, rfl, rfl, _, rfl, ?_⟩
      refine ite2 (fun hz1 => ?_) (fun _ => ?_)
      · have hz2 : (10 : Int) ^ 18 ≤ z := of_decide_eq_true hz1
        refine ⟨_, rfl, _, rfl, p, _, 2, 2, rfl, rfl, upd_same, rfl, ⟨_, rfl⟩, ?_⟩
        have hz3 : (0 : Int) ≤ z := Int.le_trans (by decide) hz2
        rw [upd_upd]
        exact Mv.put hl hlp (by omega) hz3 hs hs2 hn
      · refine ⟨_, rfl, _, _, _, _, rfl, rfl, SqL.of upd_same, rfl, _, _, rfl, rfl, .inl ⟨by omega, by omega⟩, ?_⟩
        refine ⟨_, rfl, .inl ⟨_, rfl, ?_⟩⟩
        refine ⟨_, _, rfl, rfl, (show (2147483399 : Int) ≠ 0 by decide), _, _, rfl, rfl, .inr ⟨by decide, by decide⟩, _, _, rfl, rfl, _, _, rfl, rfl, .inl ⟨_, rfl, ?_⟩⟩
        refine ⟨_, _, rfl, rfl, (show (2147483647 : Int) ≠ 0 by decide), _, rfl, p, _, 3, 3, rfl, rfl, upd_same, rfl, ⟨_, rfl⟩, ?_⟩
        rw [upd_upd]
        exact Mv.put hl hlp (by omega) hc (mod_lt (by decide)).1 (mod_lt (by decide)).2 hn
    · rintro σ' H' ⟨⟨x, rfl⟩, hm⟩
      obtain ⟨ns, i, c, s, hp, hl, hlp, hi, hc, hs, hs2, hn⟩ := id hm.2
      refine ⟨_, rfl, _, _, _, _, rfl, rfl, SqL.of hp, rfl, _, _, rfl, rfl, _, rfl, ?_⟩
      refine ite2 (fun hc1 => ?_) (fun _ => ?_)
      · have hc2 : (0 : Int) < c := of_decide_eq_true hc1
        refine ⟨_, rfl, _, _, _, _, rfl, rfl, SqL.of hp, rfl, .inl ⟨_, rfl, _, rfl, _, _, rfl, rfl, by omega, ?_⟩⟩
        refine ⟨_, rfl, _, _, _, _, rfl, rfl, SqL.of hp, rfl, _, rfl, _, _, rfl, rfl, ⟨by omega, by omega⟩, _, rfl, p, _, 2, 2, rfl, rfl, hp, rfl, ?_⟩
        refine ⟨_, rfl, ?_⟩
        refine k _ _ (mod_lt m0).1 (mod_lt m0).2 (hm.trans (Mv.put hl hlp hi ?_ hs hs2 hn))
        exact Int.fdiv_nonneg hc (by omega)
      · refine ⟨_, rfl, _, _, _, _, rfl, rfl, SqL.of hp, rfl, ?_⟩
        refine ⟨_, rfl, _, rfl, _, _, rfl, rfl, .inl ⟨by omega, by omega⟩, _, rfl, _, _, rfl, rfl, .inl ⟨by omega, by omega⟩, _, _, rfl, rfl, _, _, rfl, rfl, .inl ⟨_, rfl, ?_⟩⟩
        refine ⟨_, _, rfl, rfl, (show (2147483647 : Int) ≠ 0 by decide), _, rfl, p, _, 3, 3, rfl, rfl, hp, rfl, ?_⟩
        have hm2 := hm.trans (Mv.put hl hlp hi hc (mod_lt (a := s * s + s * 16807 + 1299709) (b := 2147483647) (by decide)).1 (mod_lt (by decide)).2 hn)
        refine ⟨_, rfl, _, _, _, _, rfl, rfl, SqL.of upd_same, rfl, _, _, rfl, rfl, ⟨by decide, by decide⟩, ?_⟩
        refine ⟨_, rfl, _, _, _, _, rfl, rfl, SqL.of upd_same, rfl, .inl ⟨_, rfl, _, _, rfl, rfl, (show (6469 : Int) ≠ 0 by decide), _, _, rfl, rfl, .inr ⟨by decide, by decide⟩, _, _, rfl, rfl, .inl ⟨_, rfl, _, rfl, _, _, rfl, rfl, by omega, ?_⟩⟩⟩
        exact k _ _ (mod_lt m0).1 (mod_lt m0).2 hm2
end
end Toy
namespace Toy
open PySem PySem.Spec L2 G
open PyProof.Rows hiding St
def xnD : Nat → List Str := fun C => match C with | 0 => ["given", "code"] | 1 => ["given", "code"] | 2 => ["at", "code"] | 3 => ["name", "code"] | 4 => ["subject", "most", "code"] | _ => []
def cP (C : Nat) : Bool := decide (C < 3)
def ix_table : Nat → Option Nat := fun C => match C with | 2 => some 1 | _ => none
def ix_own_top : Nat → Option Nat := fun C => match C with | 2 => some 0 | _ => none
def ix_name : Nat → Option Nat := fun C => match C with | 0 => some 0 | 1 => some 0 | _ => none
def ix_own_options : Nat → Option Nat := fun C => match C with | 1 => some 1 | _ => none
def ix_own_places : Nat → Option Nat := fun C => match C with | 1 => some 2 | _ => none
def ix_own_parts : Nat → Option Nat := fun C => match C with | 1 => some 3 | _ => none
def ix_own_rules : Nat → Option Nat := fun C => match C with | 1 => some 4 | _ => none
def ix_kind : Nat → Option Nat := fun C => match C with | 0 => some 1 | _ => none
def ix_most : Nat → Option Nat := fun C => match C with | 0 => some 2 | _ => none
def xd_InvalidName : List D → List D := fun ds => [ds.headD .non, .str "InvalidName"]
def xd_InvalidNumber : List D → List D := fun ds => [ds.headD .non, .str "InvalidNumber"]
def xd_InvalidRule : List D → List D := fun ds => [ds.headD .non, .str "InvalidRule"]
def xd_DuplicateName : List D → List D := fun ds => [ds.headD .non, .str "DuplicateName"]
def xd_TooMany : List D → List D := fun ds => [ds.headD .non, (ds.drop 1).headD .non, .str "TooMany"]
def hvD : Nat → Option HV := fun C => match C with | 0 => some (.tup (.fld "code") (.fld "given")) | 1 => some (.tup (.fld "code") (.fld "given")) | 2 => some (.tup (.fld "code") (.fld "at")) | 3 => some (.tup (.fld "code") (.fld "name")) | 4 => some (.tup (.fld "code") (.tup (.fld "subject") (.fld "most"))) | _ => none
def b__law_mixed : Sst := (sSeq (sPar2 true true 2 3 (sN listD (sCons (sNm 1) sNil)) (sLst sNil))
  (sSeq (sWhile 70 (sB (s2 (eqPy true) (sNm 2) (sLst sNil)))
  (sApp 3 (xPop 2 (sCal 0 semTake (sCons (sNm 0) (sCons (sN lenD (sCons (sNm 2) sNil)) sNil)) sNil))))
  (sRet (sNm 3))))
def f__law_mixed (ds : List D) : M R := runB 4 b__law_mixed ds
def b__law_dashes : Sst := (sRet (sSl (sCal 0 (runF 2 [0, 1] [] f__law_mixed) (sCons (sNm 0) (sCons (sLst (sCons (sK (.str "-a")) (sCons (sK (.str "-b")) (sCons (sK (.str "-all")) (sCons (sK (.str "-abc")) (sCons (sK (.str "-on")) sNil)))))) sNil)) sNil) none (some (sNm 1))))
def f__law_dashes (ds : List D) : M R := runB 2 b__law_dashes ds
def b_is_name : Sst := (sSeq (sIfS (tOrB (tNotB (sB (sIsi bStr (sNm 0)))) (tNotB (sB (sCh leD leD (sK (.int (1))) (sN lenD (sCons (sNm 0) sNil)) (sK (.int (6))))))) (sRet (sK (.bl false))) sSkip)
  (sRet (sN allD (sCons (sLc (sSg (sNm 0)) (.n 1) [1] tYesB (s2 (inD false) (sNm 1) (sK (.str "abcdefghijklmnopqrstuvwxyz")))) sNil))))
def f_is_name (ds : List D) : M R := runB 2 b_is_name ds
def b_is_option_name : Sst := (sRet (sAnd (sIsi bStr (sNm 0)) (sAnd (s2 (eqPy false) (sSl (sNm 0) none (some (sK (.int (1))))) (sK (.str "-"))) (sCal 0 (runF 1 [0] [] f_is_name) (sCons (sSl (sNm 0) (some (sK (.int (1)))) none) sNil) sNil))))
def f_is_option_name (ds : List D) : M R := runB 1 b_is_option_name ds
def b_is_number : Sst := (sRet (sAnd (sIsi bInt (sNm 0)) (sNot (sIsi bBool (sNm 0)))))
def f_is_number (ds : List D) : M R := runB 1 b_is_number ds
def b_is_between : Sst := (sRet (sAnd (sCal 0 (runF 1 [0] [] f_is_number) (sCons (sNm 0) sNil) sNil) (sCh leD leD (sNm 1) (sNm 0) (sNm 2))))
def f_is_between (ds : List D) : M R := runB 3 b_is_between ds
def b_Option___init__ : Sst := (sSeq (sIfS (tNotB (sB (sCal 0 (runF 1 [0] [] f_is_option_name) (sCons (sNm 1) sNil) sNil))) (sRaise 0 1 xd_InvalidName (sCons (sNm 1) sNil)) sSkip)
  (sSeq (sIfS (tNotB (sB (sCal 0 (runF 3 [0, 1, 2] [] f_is_between) (sCons (sNm 3) (sCons (sK (.int (0))) (sCons (sK (.int (4))) sNil))) sNil))) (sRaise 1 1 xd_InvalidNumber (sCons (sNm 3) sNil)) sSkip)
  (sSeq (sStF ix_name 0 (sNm 1))
  (sSeq (sStF ix_kind 0 (sNm 2))
  (sStF ix_most 0 (sNm 3))))))
def f_Option___init__ (ds : List D) : M O := runI 0 4 b_Option___init__ ds
def b_need_different : Sst := (sFor (sEn (sNm 0)) (.t [1, 2])
  (sIfS (sB (s2 (inD false) (sNm 2) (sSl (sNm 0) none (some (sNm 1))))) (sRaise 3 1 xd_DuplicateName (sCons (sNm 2) sNil)) sSkip))
def f_need_different (ds : List D) : M R := runB 3 b_need_different ds
def b_Option_all_items : Sst := (sSeq (sAsg false 1 (sIf (sB (s2 (isND false) (sFl ix_kind (sNm 0)) (sK .non))) (sLst sNil) (fun _ => .fail)))
  (sRet (sLst (sCons (sFl ix_name (sNm 0)) (sStar (sLc (sSq (sNm 1)) (.n 2) [2] tYesB (s2 addD (s2 addD (sFl ix_name (sNm 0)) (sK (.str "="))) (sNm 2))) sNil)))))
def f_Option_all_items (ds : List D) : M R := runB 3 b_Option_all_items ds
def b_is_rule : Sst := (sSeq (sIfS (tOrB (tNotB (sB (sIsi bTuple (sNm 0)))) (tOrB (sB (s2 ltD (sN lenD (sCons (sNm 0) sNil)) (sK (.int (3))))) (tNotB (sB (sN allD (sCons (sLc (sSq (sSl (sNm 0) (some (sK (.int (1)))) none)) (.n 2) [2] tYesB (s2 (inD false) (sNm 2) (sNm 1))) sNil)))))) (sRet (sK (.bl false))) sSkip)
  (sSeq (sIfS (sB (s2 (eqPy true) (sN lenD (sCons (fun _ => .fail) sNil)) (s2 subD (sN lenD (sCons (sNm 0) sNil)) (sK (.int (1)))))) (sRet (sK (.bl false))) sSkip)
  (sSeq (sIfS (sB (s2 (eqPy false) (s2 ixD (sNm 0) (sK (.int (0)))) (sK (.str "needs")))) (sRet (s2 leD (sN lenD (sCons (sNm 0) sNil)) (s2 addD (sK (.int (4))) (sK (.int (2)))))) sSkip)
  (sRet (sAnd (s2 (inD false) (s2 ixD (sNm 0) (sK (.int (0)))) (sTup (sCons (sK (.str "bars")) (sCons (sK (.str "behind")) sNil)))) (s2 (eqPy false) (sN lenD (sCons (sNm 0) sNil)) (sK (.int (3)))))))))
def f_is_rule (ds : List D) : M R := runB 3 b_is_rule ds
def mt_all_items_1 : MSem := fun C => match C with | 0 => some (runF 1 [0] [] f_Option_all_items) | _ => none
def b_Command___init__ : Sst := (sSeq (sIfS (tNotB (sB (sCal 0 (runF 1 [0] [] f_is_name) (sCons (sNm 1) sNil) sNil))) (sRaise 0 1 xd_InvalidName (sCons (sNm 1) sNil)) sSkip)
  (sSeq (sAsg false 6 (sDk [(.inr "options", (sNm 2)), (.inr "places", (sNm 3)), (.inr "parts", (sNm 4)), (.inr "rules", (sNm 5))]))
  (sSeq (sFor (sKs (sK (.dk [.inr "options", .inr "places", .inr "parts", .inr "rules"] [.int (8), .int (4), .int (6), .int (8)]))) (.n 7)
  (sIfS (sB (s2 gtD (sN lenD (sCons (s2 ixD2 (sNm 6) (sNm 7)) sNil)) (s2 ixD2 (sK (.dk [.inr "options", .inr "places", .inr "parts", .inr "rules"] [.int (8), .int (4), .int (6), .int (8)])) (sNm 7)))) (sRaise 4 2 xd_TooMany (sCons (sNm 7) (sCons (s2 ixD2 (sK (.dk [.inr "options", .inr "places", .inr "parts", .inr "rules"] [.int (8), .int (4), .int (6), .int (8)])) (sNm 7)) sNil))) sSkip))
  (sSeq (sIfS (tAndB (sB (s2 gtD (sN lenD (sCons (sNm 3) sNil)) (sK (.int (0))))) (sB (s2 gtD (sN lenD (sCons (sNm 4) sNil)) (sK (.int (0)))))) sNev sSkip)
  (sSeq (sDrop (sCal 0 (runF 1 [0] [] f_need_different) (sCons (sLc (sSq (sNm 2)) (.n 8) [8] tYesB (sFl ix_name (sNm 8))) sNil) sNil))
  (sSeq (sDrop (sCal 0 (runF 1 [0] [] f_need_different) (sCons (sLc (sSq (sNm 4)) (.n 9) [9] tYesB (sFl ix_name (sNm 9))) sNil) sNil))
  (sSeq (sAsg false 10 (sLc2 (sSq (sNm 2)) (.n 8) [8, 11] tYesB (sSq (sMth 0 mt_all_items_1 (sNm 8) sNil sNil)) (.n 11) [11] tYesB (sNm 11)))
  (sSeq (sFor (sEn (sNm 5)) (.t [12, 13])
  (sIfS (tNotB (sB (sCal 0 (runF 2 [0, 1] [] f_is_rule) (sCons (sNm 13) (sCons (sNm 10) sNil)) sNil))) (sRaise 2 1 xd_InvalidRule (sCons (sNm 12) sNil)) sSkip))
  (sSeq (sStF ix_name 0 (sNm 1))
  (sSeq (sStF ix_own_options 0 (sN tupleD (sCons (sNm 2) sNil)))
  (sSeq (sStF ix_own_places 0 (sN tupleD (sCons (sNm 3) sNil)))
  (sSeq (sStF ix_own_parts 0 (sN tupleD (sCons (sNm 4) sNil)))
  (sStF ix_own_rules 0 (sN tupleD (sCons (sNm 5) sNil)))))))))))))))
def f_Command___init__ (ds : List D) : M O := runI 1 14 b_Command___init__ ds
def b_below (F : Nat → List D → M R) : Sst := (sRet (sLst (sCons (sTup sNil) (sStar (sLc2 (sSq (sFl ix_own_parts (sNm 0))) (.n 1) [1, 2] tYesB (sSq (sCal 0 (runF 1 [0] [] (F 0)) (sCons (sNm 1) sNil) sNil)) (.n 2) [2] tYesB (sTup (sCons (sFl ix_name (sNm 1)) (sStar (sNm 2) sNil)))) sNil))))
def F_11 : Nat → Nat → List D → M R
  | 0, _, _ => .fail
  | n + 1, k, ds => match k with | 0 => runB 3 (b_below (F_11 n)) ds | _ => .fail
def f_below (n : Nat) : List D → M R := F_11 n 0
def b_Command_part : Sst := (sSeq (sFor (sSq (sFl ix_own_parts (sNm 0))) (.n 2)
  (sIfS (sB (s2 (eqPy false) (sFl ix_name (sNm 2)) (sNm 1))) (sRet (sNm 2)) sSkip))
  sNev)
def f_Command_part (ds : List D) : M R := runB 3 b_Command_part ds
def mt_part_2 : MSem := fun C => match C with | 1 => some (runF 2 [0, 1] [] f_Command_part) | _ => none
def b_command_at : Sst := (sSeq (sAsg false 2 (sNm 0))
  (sSeq (sFor (sSq (sNm 1)) (.n 3)
  (sAsg false 2 (sMth 0 mt_part_2 (sNm 2) (sCons (sNm 3) sNil) sNil)))
  (sRet (sNm 2))))
def f_command_at (ds : List D) : M R := runB 4 b_command_at ds
def b_Command_options : Sst := (sRet (sN listD (sCons (sFl ix_own_options (sNm 0)) sNil)))
def f_Command_options (ds : List D) : M R := runB 1 b_Command_options ds
def mt_options_1 : MSem := fun C => match C with | 1 => some (runF 1 [0] [] f_Command_options) | _ => none
def b_Grammar___init__ : Sst := (sSeq (sAsg false 2 (sCal 0 (runF 1 [0] [] (f_below 8)) (sCons (sNm 1) sNil) sNil))
  (sSeq (sIfS (sB (s2 gtD (sN maxD (sCons (sLc (sSq (sNm 2)) (.n 3) [3] tYesB (sN lenD (sCons (sNm 3) sNil))) sNil)) (sK (.int (2))))) (sRaise 4 2 xd_TooMany (sCons (sK (.str "levels")) (sCons (sK (.int (2))) sNil))) sSkip)
  (sSeq (sIfS (sB (s2 gtD (sN lenD (sCons (sNm 2) sNil)) (sK (.int (12))))) (sRaise 4 2 xd_TooMany (sCons (sK (.str "commands")) (sCons (sK (.int (12))) sNil))) sSkip)
  (sSeq (sStF ix_own_top 0 (sNm 1))
  (sSeq (sStF ix_table 0 (sDn (sSq (sNm 2)) (.n 3) [3] tYesB (sNm 3) (sCal 0 (runF 2 [0, 1] [] f_command_at) (sCons (sNm 1) (sCons (sNm 3) sNil)) sNil)))
  (sFor (sSq (sNm 2)) (.n 3)
  (sSeq (sAsg false 4 (sLc2 (sRg1 (sCons (sN lenD (sCons (sNm 3) sNil)) sNil)) (.n 5) [5, 6] tYesB (sSq (sMth 0 mt_options_1 (s2 ixD2 (sFl ix_table (sNm 0)) (sSl (sNm 3) none (some (sNm 5)))) sNil sNil)) (.n 6) [6] tYesB (sFl ix_name (sNm 6))))
  (sFor (sSq (sMth 0 mt_options_1 (s2 ixD2 (sFl ix_table (sNm 0)) (sNm 3)) sNil sNil)) (.n 6)
  (sIfS (sB (s2 (inD false) (sFl ix_name (sNm 6)) (sNm 4))) (sRaise 3 1 xd_DuplicateName (sCons (sFl ix_name (sNm 6)) sNil)) sSkip)))))))))
def f_Grammar___init__ (ds : List D) : M O := runI 2 7 b_Grammar___init__ ds
def b_Command___len__ : Sst := (sRet (sN lenD (sCons (sCal 0 (runF 1 [0] [] (f_below 8)) (sCons (sNm 0) sNil) sNil) sNil)))
def f_Command___len__ (ds : List D) : M R := runB 1 b_Command___len__ ds
def b_Grammar___len__ : Sst := (sRet (sN lenK (sCons (sFl ix_table (sNm 0)) sNil)))
def f_Grammar___len__ (ds : List D) : M R := runB 1 b_Grammar___len__ ds
def b__law_same (F : Nat → List D → M R) : Sst := (sSeq (sIfS (tOrB (sB (s2 (isND false) (sNm 1) (sK .non))) (sB (s2 (isND false) (sNm 0) (sK .non)))) (sRet (sAnd (s2 (isND false) (sNm 0) (sK .non)) (s2 (isND false) (sNm 1) (sK .non)))) sSkip)
  (sSeq (sIfS (sB (sIsi (fun d => match bList d, bTuple d with | some a, some b => some (a || b) | _, _ => none) (sNm 1))) (sSeq (sIfS (sB (s2 (eqPy true) (sIsi bList (sNm 1)) (sIsi bList (sNm 0)))) (sRet (sK (.bl false))) sSkip)
  (sSeq (sIfS (sB (s2 (eqPy true) (sIsi bTuple (sNm 1)) (sIsi bTuple (sNm 0)))) (sRet (sK (.bl false))) sSkip)
  (sSeq (sIfS (sB (s2 (eqPy true) (sN lenD (sCons (sNm 0) sNil)) (sN lenD (sCons (sNm 1) sNil)))) (sRet (sK (.bl false))) sSkip)
  (sRet (sN allD (sCons (sLc (sRg1 (sCons (sN lenD (sCons (sNm 1) sNil)) sNil)) (.n 2) [2] tYesB (sCal 0 (runF 2 [0, 1] [] (F 0)) (sCons (s2 ixD (sNm 0) (sNm 2)) (sCons (s2 ixD (sNm 1) (sNm 2)) sNil)) sNil)) sNil)))))) sSkip)
  (sSeq (sIfS (sB (sIsi (fun d => match bList d, bTuple d with | some a, some b => some (a || b) | _, _ => none) (sNm 0))) (sRet (sK (.bl false))) sSkip)
  (sSeq (sIfS (sB (s2 (eqPy true) (sIsi bBool (sNm 0)) (sIsi bBool (sNm 1)))) (sRet (sK (.bl false))) sSkip)
  (sRet (sAnd (s2 (eqPy false) (sIsi bStr (sNm 0)) (sIsi bStr (sNm 1))) (s2 (eqPy false) (sNm 0) (sNm 1))))))))
def F_18 : Nat → Nat → List D → M R
  | 0, _, _ => .fail
  | n + 1, k, ds => match k with | 0 => runB 3 (b__law_same (F_18 n)) ds | _ => .fail
def f__law_same (n : Nat) : List D → M R := F_18 n 0
def mt___len___1 : MSem := fun C => match C with | 1 => some (runF 1 [0] [] f_Command___len__) | 2 => some (runF 1 [0] [] f_Grammar___len__) | _ => none
def te_0 : Se X := (sNew 0 (runF 1 [0] [] f_Grammar___init__) (sCons (sNm 8) sNil) sNil)
def te_1 : Se X := (sNew 0 (runF 1 [0] [] f_Grammar___init__) (sCons (sNm 12) sNil) sNil)
def te_2 : Se X := (sNew 0 (runF 1 [0] [] f_Grammar___init__) (sCons (sNm 15) sNil) sNil)
def te_3 : Se X := (sUnI mt___len___1 chkN (sNew 1 (runF 0 [0] [] f_Grammar___init__) sNil (sCons (sNm 16) sNil)))
def te_4 : Se X := (sNew 0 (runF 1 [0] [] f_Grammar___init__) (sCons (sNm 21) sNil) sNil)
def lamB : LamB := fun j => match j with | 0 => some (false, te_0) | 1 => some (false, te_1) | 2 => some (false, te_2) | 3 => some (false, te_3) | 4 => some (false, te_4) | _ => none
def b_law : Sst := (sSeq (sAsg false 2 (sK (.str "abcdef")))
  (sSeq (sFor (sRg1 (sCons (sK (.int (4))) sNil)) (.n 3)
  (sSeq (sAsg false 4 (sCal 0 (runF 2 [0, 1] [] f__law_dashes) (sCons (sNm 1) (sCons (sK (.int (4))) sNil)) sNil))
  (sSeq (sAsgT (.t [5, 6]) (sTup (sCons (sNew 0 (runF 1 [0, 1, 2] [.non, .int (1)] f_Option___init__) (sCons (s2 ixD (sNm 4) (sK (.int (0)))) sNil) sNil) (sCons (sNew 0 (runF 1 [0, 1, 2] [.non, .int (1)] f_Option___init__) (sCons (s2 ixD (sNm 4) (sK (.int (1)))) sNil) sNil) sNil))))
  (sSeq (sAsg false 7 (sNew 1 (runF 1 [0, 1, 2, 3, 4] [.tup [], .tup [], .tup []] f_Command___init__) (sCons (sK (.str "e")) sNil) (sCons (sLst (sCons (sNm 6) (sCons (sNm 5) sNil))) sNil)))
  (sSeq (sAsg false 8 (sNew 2 (runF 1 [0, 2, 3, 1, 4] [.tup [], .tup []] f_Command___init__) (sCons (sK (.str "x")) sNil) (sCons (sLst (sCons (sNew 1 (runF 1 [0, 2, 3, 1, 4] [.tup [], .tup [], .tup []] f_Command___init__) (sCons (sK (.str "c")) sNil) (sCons (sLst (sCons (sNew 1 (runF 1 [0, 2, 3, 1, 4] [.tup [], .tup [], .tup []] f_Command___init__) (sCons (sK (.str "d")) sNil) (sCons (sLst (sCons (sNm 7) sNil)) sNil)) sNil)) sNil)) sNil)) (sCons (sLst (sCons (sNm 5) sNil)) sNil))))
  (sSeq (sAsg false 9 (s2 addD (sK (.int (5))) (sCal 0 semTake (sCons (sNm 1) (sCons (sK (.int (2))) sNil)) sNil)))
  (sSeq (sAsg false 10 (sLc (sRg1 (sCons (sNm 9) sNil)) (.n 11) [11] tYesB (sNew 1 (runF 1 [0, 1, 2, 3, 4] [.tup [], .tup [], .tup []] f_Command___init__) (sCons (s2 ixD (sNm 2) (sNm 11)) sNil) (sCons (sLst (sCons (sNm 5) sNil)) sNil))))
  (sSeq (sAsg false 12 (sNew 1 (runF 1 [0, 2, 3, 1, 4] [.tup [], .tup [], .tup []] f_Command___init__) (sCons (sK (.str "x")) sNil) (sCons (sLst (sCons (sNew 1 (runF 1 [0, 2, 3, 1, 4] [.tup [], .tup [], .tup []] f_Command___init__) (sCons (sK (.str "a")) sNil) (sCons (sNm 10) sNil)) (sCons (sNew 1 (runF 1 [0, 2, 3, 1, 4] [.tup [], .tup [], .tup []] f_Command___init__) (sCons (sK (.str "b")) sNil) (sCons (sNm 10) sNil)) sNil))) sNil)))
  (sSeq (sAsg false 13 (sCal 0 semTake (sCons (sNm 1) (sCons (sK (.int (3))) sNil)) sNil))
  (sSeq (sAsg false 14 (sLc (sRg1 (sCons (sNm 13) sNil)) (.n 11) [11] tYesB (sNew 1 (runF 1 [0, 1, 2, 3, 4] [.tup [], .tup [], .tup []] f_Command___init__) (sCons (s2 ixD (sNm 2) (sNm 11)) sNil) (sCons (sLst (sCons (sNm 6) sNil)) sNil))))
  (sSeq (sAsg false 14 (s2 addD (sNm 14) (sLst (sCons (sNew 2 (runF 1 [0, 2, 3, 1, 4] [.tup [], .tup []] f_Command___init__) (sCons (sK (.str "z")) sNil) (sCons (sLst (sCons (sNm 7) sNil)) (sCons (sLst (sCons (sNew 0 (runF 1 [0, 1, 2] [.non, .int (1)] f_Option___init__) (sCons (s2 ixD (sNm 4) (sK (.int (2)))) sNil) sNil) sNil)) sNil))) sNil))))
  (sSeq (sAsg false 15 (sNew 2 (runF 1 [0, 2, 3, 1, 4] [.tup [], .tup []] f_Command___init__) (sCons (sK (.str "x")) sNil) (sCons (sNm 14) (sCons (sLst (sCons (sNm 5) sNil)) sNil))))
  (sSeq (sAsg false 16 (sNew 1 (runF 1 [0, 2, 3, 1, 4] [.tup [], .tup [], .tup []] f_Command___init__) (sCons (sK (.str "x")) sNil) (sCons (sLst (sCons (sNew 1 (runF 1 [0, 1, 2, 3, 4] [.tup [], .tup [], .tup []] f_Command___init__) (sCons (sK (.str "a")) sNil) (sCons (sLst (sCons (sNm 5) (sCons (sNm 6) sNil))) sNil)) (sCons (sNew 1 (runF 1 [0, 1, 2, 3, 4] [.tup [], .tup [], .tup []] f_Command___init__) (sCons (sK (.str "b")) sNil) (sCons (sLst (sCons (sNm 5) sNil)) sNil)) sNil))) sNil)))
  (sSeq (sAsg false 17 (sLst (sCons (sLam 0) (sCons (sLam 1) (sCons (sLam 2) (sCons (sLam 3) sNil))))))
  (sSeq (sAsg true 18 (sLst (sCons (sTup (sCons (sK (.str "TooMany")) (sCons (sTup (sCons (sK (.str "levels")) (sCons (sK (.int (2))) sNil))) sNil))) (sCons (sTup (sCons (sK (.str "TooMany")) (sCons (sTup (sCons (sK (.str "commands")) (sCons (sK (.int (12))) sNil))) sNil))) (sCons (sTup (sCons (sK (.str "DuplicateName")) (sCons (s2 ixD (sNm 4) (sK (.int (0)))) sNil))) (sCons (sTup (sCons (sK (.str "")) (sCons (sK (.int (3))) sNil))) sNil))))))
  (sSeq (sIfS (sB (s2 (eqPy false) (sNm 9) (sK (.int (5))))) (sStI 18 (1) (sIf (sB (s2 gtD (s2 addD (s2 addD (sK (.int (1))) (sK (.int (2)))) (s2 mulD (sK (.int (2))) (sNm 9))) (sK (.int (12))))) (sTup (sCons (sK (.str "TooMany")) (sCons (sTup (sCons (sK (.str "commands")) (sCons (sK (.int (12))) sNil))) sNil))) (sTup (sCons (sK (.str "")) (sCons (sK .non) sNil))))) sSkip)
  (sIfS (tNotB (sB (sCal 0 (runF 2 [0, 1] [] (f__law_same 8)) (sCons (sTryL 19 lamB (hndP hvD xnD) (sSq (sNm 17))) (sCons (sNm 18) sNil)) sNil))) (sRet (sK (.bl false))) sSkip)))))))))))))))))
  (sSeq (sAsg false 20 (sLc (sSg (sK (.str "abcdef"))) (.n 5) [5] tYesB (sNew 0 (runF 1 [0, 1, 2, 3, 4] [.tup [], .tup [], .tup [], .tup []] f_Command___init__) (sCons (sNm 5) sNil) sNil)))
  (sSeq (sAsg false 7 (sNew 1 (runF 1 [0, 2, 3, 1, 4] [.tup [], .tup [], .tup []] f_Command___init__) (sCons (sK (.str "a")) sNil) (sCons (sLst (sCons (sNew 1 (runF 1 [0, 2, 3, 1, 4] [.tup [], .tup [], .tup []] f_Command___init__) (sCons (sK (.str "b")) sNil) (sCons (sLst (sCons (sNew 1 (runF 1 [0, 2, 3, 1, 4] [.tup [], .tup [], .tup []] f_Command___init__) (sCons (sK (.str "c")) sNil) (sCons (sLst (sCons (sNew 0 (runF 1 [0, 1, 2, 3, 4] [.tup [], .tup [], .tup [], .tup []] f_Command___init__) (sCons (sK (.str "d")) sNil) sNil) sNil)) sNil)) sNil)) sNil)) sNil)) sNil)))
  (sSeq (sAsg false 21 (sNew 1 (runF 1 [0, 2, 3, 1, 4] [.tup [], .tup [], .tup []] f_Command___init__) (sCons (sK (.str "x")) sNil) (sCons (sLst (sCons (sNm 7) (sCons (sNew 1 (runF 1 [0, 2, 3, 1, 4] [.tup [], .tup [], .tup []] f_Command___init__) (sCons (sK (.str "e")) sNil) (sCons (sNm 20) sNil)) (sCons (sNew 1 (runF 1 [0, 2, 3, 1, 4] [.tup [], .tup [], .tup []] f_Command___init__) (sCons (sK (.str "f")) sNil) (sCons (sNm 20) sNil)) sNil)))) sNil)))
  (sSeq (sIfS (sB (s2 (eqPy true) (sTry lamB (hndP hvD xnD) (sLam 4)) (sTup (sCons (sK (.str "TooMany")) (sCons (sTup (sCons (sK (.str "levels")) (sCons (sK (.int (2))) sNil))) sNil))))) (sRet (sK (.bl false))) sSkip)
  (sSeq (sAsg false 20 (sSl (sNm 20) none (some (sK (.int (5))))))
  (sSeq (sAsg false 22 (sNew 1 (runF 1 [0, 2, 3, 1, 4] [.tup [], .tup [], .tup []] f_Command___init__) (sCons (sK (.str "x")) sNil) (sCons (sLst (sCons (sNew 1 (runF 1 [0, 2, 3, 1, 4] [.tup [], .tup [], .tup []] f_Command___init__) (sCons (sK (.str "a")) sNil) (sCons (sNm 20) sNil)) (sCons (sNew 1 (runF 1 [0, 2, 3, 1, 4] [.tup [], .tup [], .tup []] f_Command___init__) (sCons (sK (.str "b")) sNil) (sCons (sSl (sNm 20) none (some (sK (.int (4))))) sNil)) sNil))) sNil)))
  (sRet (sAnd (s2 (eqPy false) (sUnI mt___len___1 chkN (sNew 0 (runF 1 [0] [] f_Grammar___init__) (sCons (sNm 22) sNil) sNil)) (sK (.int (12)))) (sAnd (s2 (eqPy false) (sK (.int (2))) (sK (.int (2)))) (s2 (eqPy false) (sK (.int (12))) (sK (.int (12)))))))))))))))
end Toy
namespace Toy
open PySem PySem.Spec L2 G
open PyProof.Rows hiding St
/-! ### classes, attributes -/
def Bc (w : World) (K : PySem.W.Frag) (c : Cs) : Cf := { K := K, ad := fun C => match C with | 0 => c.Option | 1 => c.Command | 2 => c.Grammar | _ => c.Option, fl := fun C => match C with | 0 => ["name", "kind", "most"] | 1 => ["name", "own_options", "own_places", "own_parts", "own_rules"] | 2 => ["own_top", "table"] | _ => [], ae := fun C => match C with | 0 => c.InvalidName | 1 => c.InvalidNumber | 2 => c.InvalidRule | 3 => c.DuplicateName | 4 => c.TooMany | _ => 0, xn := xnD, fd := Fdx.no, self := none, dx := dxL w c }
section
variable {w : World} {K : PySem.W.Frag} {mg : Str → Option Value} {base : Heap} {c : Cs}
theorem tyf (A : AllW w K mg c) : TyF (Bc w K c) cP := ⟨fun C h => match C, h with | 0, h => A.ty_Option | 1, h => A.ty_Command | 2, h => A.ty_Grammar | (_ + 3), h => absurd h (by simp [cP])⟩
theorem fl_table (A : AllW w K mg c) : FlOk (Bc w K c) "table" ix_table := ⟨fun C i h => match C, h with | 0, h => (by cases h) | 1, h => (by cases h) | 2, h => (by cases h; exact ⟨A.cl_Grammar, A.na_Grammar_table, rfl, (show (["own_top", "table"] : List Str).Nodup by decide)⟩) | (_ + 3), h => (by cases h)⟩
theorem fl_own_top (A : AllW w K mg c) : FlOk (Bc w K c) "own_top" ix_own_top := ⟨fun C i h => match C, h with | 0, h => (by cases h) | 1, h => (by cases h) | 2, h => (by cases h; exact ⟨A.cl_Grammar, A.na_Grammar_own_top, rfl, (show (["own_top", "table"] : List Str).Nodup by decide)⟩) | (_ + 3), h => (by cases h)⟩
theorem fl_name (A : AllW w K mg c) : FlOk (Bc w K c) "name" ix_name := ⟨fun C i h => match C, h with | 0, h => (by cases h; exact ⟨A.cl_Option, A.na_Option_name, rfl, (show (["name", "kind", "most"] : List Str).Nodup by decide)⟩) | 1, h => (by cases h; exact ⟨A.cl_Command, A.na_Command_name, rfl, (show (["name", "own_options", "own_places", "own_parts", "own_rules"] : List Str).Nodup by decide)⟩) | 2, h => (by cases h) | (_ + 3), h => (by cases h)⟩
theorem fl_own_options (A : AllW w K mg c) : FlOk (Bc w K c) "own_options" ix_own_options := ⟨fun C i h => match C, h with | 0, h => (by cases h) | 1, h => (by cases h; exact ⟨A.cl_Command, A.na_Command_own_options, rfl, (show (["name", "own_options", "own_places", "own_parts", "own_rules"] : List Str).Nodup by decide)⟩) | 2, h => (by cases h) | (_ + 3), h => (by cases h)⟩
theorem fl_own_places (A : AllW w K mg c) : FlOk (Bc w K c) "own_places" ix_own_places := ⟨fun C i h => match C, h with | 0, h => (by cases h) | 1, h => (by cases h; exact ⟨A.cl_Command, A.na_Command_own_places, rfl, (show (["name", "own_options", "own_places", "own_parts", "own_rules"] : List Str).Nodup by decide)⟩) | 2, h => (by cases h) | (_ + 3), h => (by cases h)⟩
theorem fl_own_parts (A : AllW w K mg c) : FlOk (Bc w K c) "own_parts" ix_own_parts := ⟨fun C i h => match C, h with | 0, h => (by cases h) | 1, h => (by cases h; exact ⟨A.cl_Command, A.na_Command_own_parts, rfl, (show (["name", "own_options", "own_places", "own_parts", "own_rules"] : List Str).Nodup by decide)⟩) | 2, h => (by cases h) | (_ + 3), h => (by cases h)⟩
theorem fl_own_rules (A : AllW w K mg c) : FlOk (Bc w K c) "own_rules" ix_own_rules := ⟨fun C i h => match C, h with | 0, h => (by cases h) | 1, h => (by cases h; exact ⟨A.cl_Command, A.na_Command_own_rules, rfl, (show (["name", "own_options", "own_places", "own_parts", "own_rules"] : List Str).Nodup by decide)⟩) | 2, h => (by cases h) | (_ + 3), h => (by cases h)⟩
theorem fl_kind (A : AllW w K mg c) : FlOk (Bc w K c) "kind" ix_kind := ⟨fun C i h => match C, h with | 0, h => (by cases h; exact ⟨A.cl_Option, A.na_Option_kind, rfl, (show (["name", "kind", "most"] : List Str).Nodup by decide)⟩) | 1, h => (by cases h) | 2, h => (by cases h) | (_ + 3), h => (by cases h)⟩
theorem fl_most (A : AllW w K mg c) : FlOk (Bc w K c) "most" ix_most := ⟨fun C i h => match C, h with | 0, h => (by cases h; exact ⟨A.cl_Option, A.na_Option_most, rfl, (show (["name", "kind", "most"] : List Str).Nodup by decide)⟩) | 1, h => (by cases h) | 2, h => (by cases h) | (_ + 3), h => (by cases h)⟩
theorem xk_InvalidName (A : AllW w K mg c) : XMk P w K mg base "InvalidName" c.InvalidName 1 fun vs => [("code", .str "InvalidName"), ("given", vs.headD .non)] := by
  obtain ⟨f, cc, cd, T⟩ := A.sx_InvalidName
  exact xmk1 (code := "InvalidName") T A.n_InvalidName A.T.b_super rfl (fun L => ⟨_, rfl⟩) (by decide) (by decide) A.xno_InvalidName_given A.xno_InvalidName_code (fun kV doc pm an ct => L2.Binds.all fun us hl => match us, hl with | [_, _], _ => rfl)
theorem xk_InvalidNumber (A : AllW w K mg c) : XMk P w K mg base "InvalidNumber" c.InvalidNumber 1 fun vs => [("code", .str "InvalidNumber"), ("given", vs.headD .non)] := by
  obtain ⟨f, cc, cd, T⟩ := A.sx_InvalidNumber
  exact xmk1 (code := "InvalidNumber") T A.n_InvalidNumber A.T.b_super rfl (fun L => ⟨_, rfl⟩) (by decide) (by decide) A.xno_InvalidNumber_given A.xno_InvalidNumber_code (fun kV doc pm an ct => L2.Binds.all fun us hl => match us, hl with | [_, _], _ => rfl)
theorem xk_InvalidRule (A : AllW w K mg c) : XMk P w K mg base "InvalidRule" c.InvalidRule 1 fun vs => [("code", .str "InvalidRule"), ("at", vs.headD .non)] := by
  obtain ⟨f, cc, cd, T⟩ := A.sx_InvalidRule
  exact xmk1 (code := "InvalidRule") T A.n_InvalidRule A.T.b_super rfl (fun L => ⟨_, rfl⟩) (by decide) (by decide) A.xno_InvalidRule_at A.xno_InvalidRule_code (fun kV doc pm an ct => L2.Binds.all fun us hl => match us, hl with | [_, _], _ => rfl)
theorem xk_DuplicateName (A : AllW w K mg c) : XMk P w K mg base "DuplicateName" c.DuplicateName 1 fun vs => [("code", .str "DuplicateName"), ("name", vs.headD .non)] := by
  obtain ⟨f, cc, cd, T⟩ := A.sx_DuplicateName
  exact xmk1 (code := "DuplicateName") T A.n_DuplicateName A.T.b_super rfl (fun L => ⟨_, rfl⟩) (by decide) (by decide) A.xno_DuplicateName_name A.xno_DuplicateName_code (fun kV doc pm an ct => L2.Binds.all fun us hl => match us, hl with | [_, _], _ => rfl)
theorem xk_TooMany (A : AllW w K mg c) : XMk P w K mg base "TooMany" c.TooMany 2 fun vs => [("code", .str "TooMany"), ("most", (vs.drop 1).headD .non), ("subject", vs.headD .non)] := by
  obtain ⟨f, cc, cd, T⟩ := A.sx_TooMany
  exact xmk2 (code := "TooMany") T A.n_TooMany A.T.b_super rfl (fun L => ⟨_, rfl⟩) (by decide) (by decide) (by decide) (by decide) A.xno_TooMany_subject A.xno_TooMany_most A.xno_TooMany_code (fun kV doc pm an ct => L2.Binds.all fun us hl => match us, hl with | [_, _, _], _ => rfl)
theorem sc__law_try : FnScope ["_law_ask", "e"] ["_law_ask"] (defScope s__law_try) := ⟨rfl, rfl, rfl, by decide +kernel, rfl, by decide +kernel, by decide +kernel⟩
def hvl (c : Cs) : HvL := [([.ref c.InvalidWord, .ref c.InvalidName, .ref c.InvalidNumber, .ref c.InvalidWish, .ref c.InvalidLimit], (.tup (.fld "code") (.fld "given"))), ([.ref c.InvalidRule, .ref c.InvalidRow, .ref c.InvalidChange, .ref c.InvalidKey, .ref c.InvalidText, .ref c.InvalidCommand], (.tup (.fld "code") (.fld "at"))), ([.ref c.DuplicateName, .ref c.WrongKind, .ref c.UnknownName], (.tup (.fld "code") (.fld "name"))), ([.ref c.TooMany], (.tup (.fld "code") (.tup (.fld "subject") (.fld "most")))), ([.ref c.TooLong, .ref c.Full], (.tup (.fld "code") (.fld "most"))), ([.ref c.WrongWord], (.tup (.fld "code") (.tup (.fld "at") (.fld "why")))), ([.ref c.Mixed, .ref c.NotLive, .ref c.NoWord, .ref c.Unlike, .ref c.NothingLeft], (.tup (.fld "code") .non))]
def Bx (K : PySem.W.Frag) (c : Cs) (fd : Fdx) : Cf := (Bc w K c).wf fd
theorem gv__law_try (A : AllW w K mg c) (X : Cx) (hXm : X.mg = mg) (hXK : X.K = K) (gf : Addr) (cdv : Value) : GivesT X ["_law_ask", "e"] "_law_try" (defScope s__law_try) gf cdv (defBody s__law_try) "_law_ask" (rdTry X.K 1 2 (hvl c)) :=
  try_gives (n := "e") (by decide) rfl (by rfl) rfl rfl (fun Z hs hm => by
    rw [hXm] at hm
    exact (.cons (clt_tup (.cons (gl_of hs rfl) (by rw [hm]; exact A.n_InvalidWord) rfl rfl (.cons (gl_of hs rfl) (by rw [hm]; exact A.n_InvalidName) rfl rfl (.cons (gl_of hs rfl) (by rw [hm]; exact A.n_InvalidNumber) rfl rfl (.cons (gl_of hs rfl) (by rw [hm]; exact A.n_InvalidWish) rfl rfl (.cons (gl_of hs rfl) (by rw [hm]; exact A.n_InvalidLimit) rfl rfl .nil))))) (by show (5 : Nat) ≤ sizeLine; decide)) (.tup .fld .fld)
    (.cons (clt_tup (.cons (gl_of hs rfl) (by rw [hm]; exact A.n_InvalidRule) rfl rfl (.cons (gl_of hs rfl) (by rw [hm]; exact A.n_InvalidRow) rfl rfl (.cons (gl_of hs rfl) (by rw [hm]; exact A.n_InvalidChange) rfl rfl (.cons (gl_of hs rfl) (by rw [hm]; exact A.n_InvalidKey) rfl rfl (.cons (gl_of hs rfl) (by rw [hm]; exact A.n_InvalidText) rfl rfl (.cons (gl_of hs rfl) (by rw [hm]; exact A.n_InvalidCommand) rfl rfl .nil)))))) (by show (6 : Nat) ≤ sizeLine; decide)) (.tup .fld .fld)
    (.cons (clt_tup (.cons (gl_of hs rfl) (by rw [hm]; exact A.n_DuplicateName) rfl rfl (.cons (gl_of hs rfl) (by rw [hm]; exact A.n_WrongKind) rfl rfl (.cons (gl_of hs rfl) (by rw [hm]; exact A.n_UnknownName) rfl rfl .nil))) (by show (3 : Nat) ≤ sizeLine; decide)) (.tup .fld .fld)
    (.cons (clt_name (gl_of hs rfl) (by rw [hm]; exact A.n_TooMany)) (.tup .fld (.tup .fld .fld))
    (.cons (clt_tup (.cons (gl_of hs rfl) (by rw [hm]; exact A.n_TooLong) rfl rfl (.cons (gl_of hs rfl) (by rw [hm]; exact A.n_Full) rfl rfl .nil)) (by show (2 : Nat) ≤ sizeLine; decide)) (.tup .fld .fld)
    (.cons (clt_name (gl_of hs rfl) (by rw [hm]; exact A.n_WrongWord)) (.tup .fld (.tup .fld .fld))
    (.cons (clt_tup (.cons (gl_of hs rfl) (by rw [hm]; exact A.n_Mixed) rfl rfl (.cons (gl_of hs rfl) (by rw [hm]; exact A.n_NotLive) rfl rfl (.cons (gl_of hs rfl) (by rw [hm]; exact A.n_NoWord) rfl rfl (.cons (gl_of hs rfl) (by rw [hm]; exact A.n_Unlike) rfl rfl (.cons (gl_of hs rfl) (by rw [hm]; exact A.n_NothingLeft) rfl rfl .nil))))) (by show (5 : Nat) ≤ sizeLine; decide)) (.tup .fld .non)
    .nil)))))))) fun f => rfl
theorem hnd_ok (A : AllW w K mg c) (fd : Fdx) : HndOk K ((Bc w K c).wf fd) (hvl c) hvD := ⟨fun C h e => match C, e with | 0, e => (by cases e; exact ⟨(.inl ⟨(exa_cons A.exm_InvalidName_InvalidWord (exa_cons A.exm_InvalidName_InvalidName (exa_cons A.exm_InvalidName_InvalidNumber (exa_cons A.exm_InvalidName_InvalidWish (exa_cons A.exm_InvalidName_InvalidLimit exa_nil))))), rfl⟩), A.xf_InvalidName, fun f hf => (by simp only [HV.names, List.mem_append, List.mem_singleton, List.not_mem_nil, or_false, false_or] at hf; rcases hf with rfl | rfl <;> first | exact A.xno_InvalidName_code | exact A.xno_InvalidName_given)⟩) | 1, e => (by cases e; exact ⟨(.inl ⟨(exa_cons A.exm_InvalidNumber_InvalidWord (exa_cons A.exm_InvalidNumber_InvalidName (exa_cons A.exm_InvalidNumber_InvalidNumber (exa_cons A.exm_InvalidNumber_InvalidWish (exa_cons A.exm_InvalidNumber_InvalidLimit exa_nil))))), rfl⟩), A.xf_InvalidNumber, fun f hf => (by simp only [HV.names, List.mem_append, List.mem_singleton, List.not_mem_nil, or_false, false_or] at hf; rcases hf with rfl | rfl <;> first | exact A.xno_InvalidNumber_code | exact A.xno_InvalidNumber_given)⟩) | 2, e => (by cases e; exact ⟨(.inr ⟨(exa_cons A.exm_InvalidRule_InvalidWord (exa_cons A.exm_InvalidRule_InvalidName (exa_cons A.exm_InvalidRule_InvalidNumber (exa_cons A.exm_InvalidRule_InvalidWish (exa_cons A.exm_InvalidRule_InvalidLimit exa_nil))))), (.inl ⟨(exa_cons A.exm_InvalidRule_InvalidRule (exa_cons A.exm_InvalidRule_InvalidRow (exa_cons A.exm_InvalidRule_InvalidChange (exa_cons A.exm_InvalidRule_InvalidKey (exa_cons A.exm_InvalidRule_InvalidText (exa_cons A.exm_InvalidRule_InvalidCommand exa_nil)))))), rfl⟩)⟩), A.xf_InvalidRule, fun f hf => (by simp only [HV.names, List.mem_append, List.mem_singleton, List.not_mem_nil, or_false, false_or] at hf; rcases hf with rfl | rfl <;> first | exact A.xno_InvalidRule_code | exact A.xno_InvalidRule_at)⟩) | 3, e => (by cases e; exact ⟨(.inr ⟨(exa_cons A.exm_DuplicateName_InvalidWord (exa_cons A.exm_DuplicateName_InvalidName (exa_cons A.exm_DuplicateName_InvalidNumber (exa_cons A.exm_DuplicateName_InvalidWish (exa_cons A.exm_DuplicateName_InvalidLimit exa_nil))))), (.inr ⟨(exa_cons A.exm_DuplicateName_InvalidRule (exa_cons A.exm_DuplicateName_InvalidRow (exa_cons A.exm_DuplicateName_InvalidChange (exa_cons A.exm_DuplicateName_InvalidKey (exa_cons A.exm_DuplicateName_InvalidText (exa_cons A.exm_DuplicateName_InvalidCommand exa_nil)))))), (.inl ⟨(exa_cons A.exm_DuplicateName_DuplicateName (exa_cons A.exm_DuplicateName_WrongKind (exa_cons A.exm_DuplicateName_UnknownName exa_nil))), rfl⟩)⟩)⟩), A.xf_DuplicateName, fun f hf => (by simp only [HV.names, List.mem_append, List.mem_singleton, List.not_mem_nil, or_false, false_or] at hf; rcases hf with rfl | rfl <;> first | exact A.xno_DuplicateName_code | exact A.xno_DuplicateName_name)⟩) | 4, e => (by cases e; exact ⟨(.inr ⟨(exa_cons A.exm_TooMany_InvalidWord (exa_cons A.exm_TooMany_InvalidName (exa_cons A.exm_TooMany_InvalidNumber (exa_cons A.exm_TooMany_InvalidWish (exa_cons A.exm_TooMany_InvalidLimit exa_nil))))), (.inr ⟨(exa_cons A.exm_TooMany_InvalidRule (exa_cons A.exm_TooMany_InvalidRow (exa_cons A.exm_TooMany_InvalidChange (exa_cons A.exm_TooMany_InvalidKey (exa_cons A.exm_TooMany_InvalidText (exa_cons A.exm_TooMany_InvalidCommand exa_nil)))))), (.inr ⟨(exa_cons A.exm_TooMany_DuplicateName (exa_cons A.exm_TooMany_WrongKind (exa_cons A.exm_TooMany_UnknownName exa_nil))), (.inl ⟨(exa_cons A.exm_TooMany_TooMany exa_nil), rfl⟩)⟩)⟩)⟩), A.xf_TooMany, fun f hf => (by simp only [HV.names, List.mem_append, List.mem_singleton, List.not_mem_nil, or_false, false_or] at hf; rcases hf with rfl | rfl | rfl <;> first | exact A.xno_TooMany_code | exact A.xno_TooMany_subject | exact A.xno_TooMany_most)⟩) | (_ + 5), e => (by cases e)⟩
theorem cf__law_take_2 (A : AllW w K mg c) : ClF P w K mg base (L2.CX P w) 1 "_law_take" [] (spC (Bc w K c) semTake) := by
  obtain ⟨f, fd, ps, ds, F, hm, hk, hb, hv⟩ := (c__law_take_ok (P := P) (w := w) (base := base) A.d__law_take A.T).ex
  exact ⟨f, hm, hk, G.FnOk.toTake F hb hv⟩
theorem sc__law_mixed : FnScope ["_law_feed_here", "_law_some", "_law_row", "_law_found"] ["_law_feed_here", "_law_some"] (defScope s__law_mixed) := ⟨rfl, rfl, rfl, by decide +kernel, rfl, by decide +kernel, by decide +kernel⟩
theorem o__law_mixed (A : AllW w K mg c) : ∃ f, mg "_law_mixed" = some (.ref f) ∧ PySem.W.keepIn K (.ref f) = true ∧ Fo P w K mg base (L2.CX P w) (1 + 1) "_law_mixed" "_law_mixed" s__law_mixed [] [] f ["_law_feed_here", "_law_some"] (spB (Bc w K c) f__law_mixed 2) := by
  obtain ⟨f, G⟩ := A.g__law_mixed
  exact ⟨f, G.mg, G.kp, fn_run (P := P) (w := w) (base := base) (B := Bc w K c) G.fd sc__law_mixed rfl fun cdv A' outer s H E fd T hr hp =>
  (es_cons (es_par2 (kx := true) (ky := true) (i := 2) (j := 3) (.inr rfl) (.inr rfl) (by rfl) sc__law_mixed.nd rfl rfl (by decide) rfl rfl (ev_cT call_list_of pr_list (by rfl) A.T.b_list (by decide +kernel) (ea_cons (ev_nm (i := 1) rfl (by first | exact .inl rfl | exact .inr (.inl rfl) | exact .inr (.inr rfl))) ea_nil)) (ev_lst ea_nil) (by rfl))
  (es_cons (es_while 70 hp (et_cmp (op_neD hr.units) pr_ne (ev_nm (i := 2) rfl (by first | exact .inl rfl | exact .inr (.inl rfl) | exact .inr (.inr rfl))) (ev_lst ea_nil) (nomark _))
  (es_one (es_app (i := 3) rfl (by first | exact .inl rfl | exact .inr (.inl rfl) | exact .inr (.inr rfl)) (ex_pop (i := 2) rfl (by first | exact .inl rfl | exact .inr (.inl rfl) | exact .inr (.inr rfl)) (ev_cal (B := Bc w K c) ⟨rfl, rfl, rfl, rfl, rfl, rfl⟩ (cf__law_take_2 A) (hr.mono (by decide)) (by rfl) (ea_cons (ev_nm (i := 0) rfl (by first | exact .inl rfl | exact .inr (.inl rfl) | exact .inr (.inr rfl))) (ea_cons (ev_cB call_len pr_len (by rfl) A.T.b_len (by decide +kernel) (ea_cons (ev_nm (i := 2) rfl (by first | exact .inl rfl | exact .inr (.inl rfl) | exact .inr (.inr rfl))) ea_nil)) ea_nil)) ek_nil)))))
  (es_one (es_ret (ev_nm (i := 3) rfl (by first | exact .inl rfl | exact .inr (.inl rfl) | exact .inr (.inr rfl)))))))⟩
theorem cf__law_mixed_2 (A : AllW w K mg c) : ClF P w K mg base (L2.CX P w) (1 + 1) "_law_mixed" [] (spC (Bc w K c) (runF 2 [0, 1] [] f__law_mixed)) := by
  obtain ⟨f, h1, h2, o⟩ := o__law_mixed (w := w) (base := base) A
  exact ⟨f, h1, h2, (form_of (n := 2) (ix := [0, 1]) (dd := []) o (kbA fun kV doc pm an cdv ct us ws h1 h2 => match us, ws, h1, h2 with | [_, _], [], _, _ => rfl) (fun _ _ => .nil) rfl (by first | decide | exact (show ∀ i ∈ ([0, 1] : List Nat), i < 2 by decide)))⟩
theorem sc__law_dashes : FnScope ["_law_feed_here", "_law_many"] ["_law_feed_here", "_law_many"] (defScope s__law_dashes) := ⟨rfl, rfl, rfl, by decide +kernel, rfl, by decide +kernel, by decide +kernel⟩
theorem o__law_dashes (A : AllW w K mg c) : ∃ f, mg "_law_dashes" = some (.ref f) ∧ PySem.W.keepIn K (.ref f) = true ∧ Fo P w K mg base (L2.CX P w) (3 + 1) "_law_dashes" "_law_dashes" s__law_dashes [] [] f ["_law_feed_here", "_law_many"] (spB (Bc w K c) f__law_dashes 2) := by
  obtain ⟨f, G⟩ := A.g__law_dashes
  exact ⟨f, G.mg, G.kp, fn_run (P := P) (w := w) (base := base) (B := Bc w K c) G.fd sc__law_dashes rfl fun cdv A' outer s H E fd T hr hp =>
  (es_one (es_ret (ev_sl rfl (ev_cal (B := Bc w K c) ⟨rfl, rfl, rfl, rfl, rfl, rfl⟩ (cf__law_mixed_2 A) (hr.mono (by decide)) (by rfl) (ea_cons (ev_nm (i := 0) rfl (by first | exact .inl rfl | exact .inr (.inl rfl) | exact .inr (.inr rfl))) (ea_cons (ev_lst (ea_cons ev_str (ea_cons ev_str (ea_cons ev_str (ea_cons ev_str (ea_cons ev_str ea_nil)))))) ea_nil)) ek_nil) eo_none (eo_some (ev_nm (i := 1) rfl (by first | exact .inl rfl | exact .inr (.inl rfl) | exact .inr (.inr rfl)))))))⟩
theorem cf__law_dashes_2 (A : AllW w K mg c) : ClF P w K mg base (L2.CX P w) (3 + 1) "_law_dashes" [] (spC (Bc w K c) (runF 2 [0, 1] [] f__law_dashes)) := by
  obtain ⟨f, h1, h2, o⟩ := o__law_dashes (w := w) (base := base) A
  exact ⟨f, h1, h2, (form_of (n := 2) (ix := [0, 1]) (dd := []) o (kbA fun kV doc pm an cdv ct us ws h1 h2 => match us, ws, h1, h2 with | [_, _], [], _, _ => rfl) (fun _ _ => .nil) rfl (by first | decide | exact (show ∀ i ∈ ([0, 1] : List Nat), i < 2 by decide)))⟩
theorem sc_is_name : FnScope ["value", "sign"] ["value"] (defScope s_is_name) := ⟨rfl, rfl, rfl, by decide +kernel, rfl, by decide +kernel, by decide +kernel⟩
theorem o_is_name (A : AllW w K mg c) : ∃ f, mg "is_name" = some (.ref f) ∧ PySem.W.keepIn K (.ref f) = true ∧ Fo P w K mg base (L2.CX P w) (0 + 1) "is_name" "is_name" s_is_name [] [] f ["value"] (spB (Bc w K c) f_is_name 1) := by
  obtain ⟨f, G⟩ := A.g_is_name
  exact ⟨f, G.mg, G.kp, fn_run (P := P) (w := w) (base := base) (B := Bc w K c) G.fd sc_is_name rfl fun cdv A' outer s H E fd T hr hp =>
  (es_cons (es_if (et_w (ew_or (et_not (et_val (ev_isi (p := bStr) rfl (SameB.tf (B := Bc w K c) ⟨rfl, rfl, rfl, rfl, rfl, rfl⟩ (tyf A)) (fun C fs h => by cases h) (ik_str) (.ty _) (by rfl) A.T.b_isinstance (ev_nm (i := 0) rfl (by first | exact .inl rfl | exact .inr (.inl rfl) | exact .inr (.inr rfl))) (pe_bltn (v := .ty "str") (by rfl) A.T.b_str (by decide +kernel) rfl)))) (ew_or1 (et_not (et_chain op_le op_le pr_le pr_le ev_int (ev_cB call_len pr_len (by rfl) A.T.b_len (by decide +kernel) (ea_cons (ev_nm (i := 0) rfl (by first | exact .inl rfl | exact .inr (.inl rfl) | exact .inr (.inr rfl))) ea_nil)) (ev_k (C8.pe_gc (by rfl) A.GC.g_MOST_LETTERS) (.int _))))))) (es_one (es_ret ev_bl)) es_nil)
  (es_one (es_ret (ev_cB (cr_all rfl) pr_all (by rfl) A.T.b_all (by decide +kernel) (ea_cons (ev_lc (own := [("sign", 1)]) rfl sc_is_name.nd (ei_str (ev_nm (i := 0) rfl (by first | exact .inl rfl | exact .inr (.inl rfl) | exact .inr (.inr rfl)))) (blkOk_by (N := ["value", "sign"]) (sc := defScope s_is_name) (by decide +kernel)) (fun _ _ => .inr rfl) (by decide) (fun _ _ _ _ _ => (eg_n (i := 1) (.inr rfl) sc_is_name.nd rfl (Or.inl rfl))) (fun _ _ _ _ _ => ets_nil) (fun _ _ _ _ _ => (ev_cmp (op_In hr.units65) pr_in (ev_nm (i := 1) rfl (by first | exact .inl rfl | exact .inr (.inl rfl) | exact .inr (.inr rfl))) (ev_k (C8.pe_gc (by rfl) A.GC.g_LETTERS) (.str _ (by decide +kernel))) (by rfl)))) ea_nil)))))⟩
theorem cf_is_name_1 (A : AllW w K mg c) : ClF P w K mg base (L2.CX P w) (0 + 1) "is_name" [] (spC (Bc w K c) (runF 1 [0] [] f_is_name)) := by
  obtain ⟨f, h1, h2, o⟩ := o_is_name (w := w) (base := base) A
  exact ⟨f, h1, h2, (form_of (n := 1) (ix := [0]) (dd := []) o (kbA fun kV doc pm an cdv ct us ws h1 h2 => match us, ws, h1, h2 with | [_], [], _, _ => rfl) (fun _ _ => .nil) rfl (by first | decide | exact (show ∀ i ∈ ([0] : List Nat), i < 1 by decide)))⟩
theorem sc_is_option_name : FnScope ["value"] ["value"] (defScope s_is_option_name) := ⟨rfl, rfl, rfl, by decide +kernel, rfl, by decide +kernel, by decide +kernel⟩
theorem o_is_option_name (A : AllW w K mg c) : ∃ f, mg "is_option_name" = some (.ref f) ∧ PySem.W.keepIn K (.ref f) = true ∧ Fo P w K mg base (L2.CX P w) (2 + 1) "is_option_name" "is_option_name" s_is_option_name [] [] f ["value"] (spB (Bc w K c) f_is_option_name 1) := by
  obtain ⟨f, G⟩ := A.g_is_option_name
  exact ⟨f, G.mg, G.kp, fn_run (P := P) (w := w) (base := base) (B := Bc w K c) G.fd sc_is_option_name rfl fun cdv A' outer s H E fd T hr hp =>
  (es_one (es_ret (ev_and (ev_isi (p := bStr) rfl (SameB.tf (B := Bc w K c) ⟨rfl, rfl, rfl, rfl, rfl, rfl⟩ (tyf A)) (fun C fs h => by cases h) (ik_str) (.ty _) (by rfl) A.T.b_isinstance (ev_nm (i := 0) rfl (by first | exact .inl rfl | exact .inr (.inl rfl) | exact .inr (.inr rfl))) (pe_bltn (v := .ty "str") (by rfl) A.T.b_str (by decide +kernel) rfl)) (ev_and (ev_cmp (op_eqD hr.units) pr_eq (ev_sl rfl (ev_nm (i := 0) rfl (by first | exact .inl rfl | exact .inr (.inl rfl) | exact .inr (.inr rfl))) eo_none (eo_some ev_int)) ev_str (nomark _)) (ev_one (ev_cal (B := Bc w K c) ⟨rfl, rfl, rfl, rfl, rfl, rfl⟩ (cf_is_name_1 A) (hr.mono (by decide)) (by rfl) (ea_cons (ev_sl rfl (ev_nm (i := 0) rfl (by first | exact .inl rfl | exact .inr (.inl rfl) | exact .inr (.inr rfl))) (eo_some ev_int) eo_none) ea_nil) ek_nil))))))⟩
theorem cf_is_option_name_1 (A : AllW w K mg c) : ClF P w K mg base (L2.CX P w) (2 + 1) "is_option_name" [] (spC (Bc w K c) (runF 1 [0] [] f_is_option_name)) := by
  obtain ⟨f, h1, h2, o⟩ := o_is_option_name (w := w) (base := base) A
  exact ⟨f, h1, h2, (form_of (n := 1) (ix := [0]) (dd := []) o (kbA fun kV doc pm an cdv ct us ws h1 h2 => match us, ws, h1, h2 with | [_], [], _, _ => rfl) (fun _ _ => .nil) rfl (by first | decide | exact (show ∀ i ∈ ([0] : List Nat), i < 1 by decide)))⟩
theorem sc_is_number : FnScope ["value"] ["value"] (defScope s_is_number) := ⟨rfl, rfl, rfl, by decide +kernel, rfl, by decide +kernel, by decide +kernel⟩
theorem o_is_number (A : AllW w K mg c) : ∃ f, mg "is_number" = some (.ref f) ∧ PySem.W.keepIn K (.ref f) = true ∧ Fo P w K mg base (L2.CX P w) (0 + 1) "is_number" "is_number" s_is_number [] [] f ["value"] (spB (Bc w K c) f_is_number 1) := by
  obtain ⟨f, G⟩ := A.g_is_number
  exact ⟨f, G.mg, G.kp, fn_run (P := P) (w := w) (base := base) (B := Bc w K c) G.fd sc_is_number rfl fun cdv A' outer s H E fd T hr hp =>
  (es_one (es_ret (ev_and (ev_isi (p := bInt) rfl (SameB.tf (B := Bc w K c) ⟨rfl, rfl, rfl, rfl, rfl, rfl⟩ (tyf A)) (fun C fs h => by cases h) (ik_int) (.ty _) (by rfl) A.T.b_isinstance (ev_nm (i := 0) rfl (by first | exact .inl rfl | exact .inr (.inl rfl) | exact .inr (.inr rfl))) (pe_bltn (v := .ty "int") (by rfl) A.T.b_int (by decide +kernel) rfl)) (ev_one (ev_not (ev_isi (p := bBool) rfl (SameB.tf (B := Bc w K c) ⟨rfl, rfl, rfl, rfl, rfl, rfl⟩ (tyf A)) (fun C fs h => by cases h) (ik_bool) (.ty _) (by rfl) A.T.b_isinstance (ev_nm (i := 0) rfl (by first | exact .inl rfl | exact .inr (.inl rfl) | exact .inr (.inr rfl))) (pe_bltn (v := .ty "bool") (by rfl) A.T.b_bool (by decide +kernel) rfl)))))))⟩
theorem cf_is_number_1 (A : AllW w K mg c) : ClF P w K mg base (L2.CX P w) (0 + 1) "is_number" [] (spC (Bc w K c) (runF 1 [0] [] f_is_number)) := by
  obtain ⟨f, h1, h2, o⟩ := o_is_number (w := w) (base := base) A
  exact ⟨f, h1, h2, (form_of (n := 1) (ix := [0]) (dd := []) o (kbA fun kV doc pm an cdv ct us ws h1 h2 => match us, ws, h1, h2 with | [_], [], _, _ => rfl) (fun _ _ => .nil) rfl (by first | decide | exact (show ∀ i ∈ ([0] : List Nat), i < 1 by decide)))⟩
theorem sc_is_between : FnScope ["value", "least", "most"] ["value", "least", "most"] (defScope s_is_between) := ⟨rfl, rfl, rfl, by decide +kernel, rfl, by decide +kernel, by decide +kernel⟩
theorem o_is_between (A : AllW w K mg c) : ∃ f, mg "is_between" = some (.ref f) ∧ PySem.W.keepIn K (.ref f) = true ∧ Fo P w K mg base (L2.CX P w) (2 + 1) "is_between" "is_between" s_is_between [] [] f ["value", "least", "most"] (spB (Bc w K c) f_is_between 3) := by
  obtain ⟨f, G⟩ := A.g_is_between
  exact ⟨f, G.mg, G.kp, fn_run (P := P) (w := w) (base := base) (B := Bc w K c) G.fd sc_is_between rfl fun cdv A' outer s H E fd T hr hp =>
  (es_one (es_ret (ev_and (ev_cal (B := Bc w K c) ⟨rfl, rfl, rfl, rfl, rfl, rfl⟩ (cf_is_number_1 A) (hr.mono (by decide)) (by rfl) (ea_cons (ev_nm (i := 0) rfl (by first | exact .inl rfl | exact .inr (.inl rfl) | exact .inr (.inr rfl))) ea_nil) ek_nil) (ev_one (ev_chain op_le op_le pr_le pr_le (ev_nm (i := 1) rfl (by first | exact .inl rfl | exact .inr (.inl rfl) | exact .inr (.inr rfl))) (ev_nm (i := 0) rfl (by first | exact .inl rfl | exact .inr (.inl rfl) | exact .inr (.inr rfl))) (ev_nm (i := 2) rfl (by first | exact .inl rfl | exact .inr (.inl rfl) | exact .inr (.inr rfl))))))))⟩
theorem cf_is_between_3 (A : AllW w K mg c) : ClF P w K mg base (L2.CX P w) (2 + 1) "is_between" [] (spC (Bc w K c) (runF 3 [0, 1, 2] [] f_is_between)) := by
  obtain ⟨f, h1, h2, o⟩ := o_is_between (w := w) (base := base) A
  exact ⟨f, h1, h2, (form_of (n := 3) (ix := [0, 1, 2]) (dd := []) o (kbA fun kV doc pm an cdv ct us ws h1 h2 => match us, ws, h1, h2 with | [_, _, _], [], _, _ => rfl) (fun _ _ => .nil) rfl (by first | decide | exact (show ∀ i ∈ ([0, 1, 2] : List Nat), i < 3 by decide)))⟩
theorem sc_Option___init__ : FnScope ["self", "name", "kind", "most"] ["self", "name", "kind", "most"] (defScope s_Option___init__) := ⟨rfl, rfl, rfl, by decide +kernel, rfl, by decide +kernel, by decide +kernel⟩
theorem o_Option___init__ (A : AllW w K mg c) : Fo P w K mg base (L2.CX P w) (4 + 1) "__init__" "Option.__init__" s_Option___init__ [.non] [("most", .int (1))] c.Option___init__ ["self", "name", "kind", "most"] (spJ (Bc w K c) 0 f_Option___init__ 4) :=
  fn_init (P := P) (w := w) (base := base) (B := Bc w K c) A.f_Option___init__ sc_Option___init__ (by decide) (by decide) fun cdv A' outer s H He E fd T a hr hp =>
  (es_cons (es_if (et_not (et_val (ev_cal (B := Bc w K c) ⟨rfl, rfl, rfl, rfl, rfl, rfl⟩ (cf_is_option_name_1 A) (hr.mono (by decide)) (by rfl) (ea_cons (ev_nm (i := 1) rfl (by first | exact .inl rfl | exact .inr (.inl rfl) | exact .inr (.inr rfl))) ea_nil) ek_nil))) (es_one (es_raise (C := 0) (mkD := xd_InvalidName) rfl (hr.mono (by decide)) (xk_InvalidName A) rfl (rel1 (by decide) (by decide +kernel)) (by rfl) (ea_cons (ev_nm (i := 1) rfl (by first | exact .inl rfl | exact .inr (.inl rfl) | exact .inr (.inr rfl))) ea_nil))) es_nil)
  (es_cons (es_if (et_not (et_val (ev_cal (B := Bc w K c) ⟨rfl, rfl, rfl, rfl, rfl, rfl⟩ (cf_is_between_3 A) (hr.mono (by decide)) (by rfl) (ea_cons (ev_nm (i := 3) rfl (by first | exact .inl rfl | exact .inr (.inl rfl) | exact .inr (.inr rfl))) (ea_cons ev_int (ea_cons (ev_k (C8.pe_gc (by rfl) A.GC.g_MOST_TIMES) (.int _)) ea_nil))) ek_nil))) (es_one (es_raise (C := 1) (mkD := xd_InvalidNumber) rfl (hr.mono (by decide)) (xk_InvalidNumber A) rfl (rel1 (by decide) (by decide +kernel)) (by rfl) (ea_cons (ev_nm (i := 3) rfl (by first | exact .inl rfl | exact .inr (.inl rfl) | exact .inr (.inr rfl))) ea_nil))) es_nil)
  (es_cons (es_stf (i := 0) rfl (SameB.flo (B := Bc w K c) ⟨rfl, rfl, rfl, rfl, rfl, rfl⟩ (fl_name A)) rfl (by first | exact .inl rfl | exact .inr (.inl rfl) | exact .inr (.inr rfl)) (ev_nm (i := 1) rfl (by first | exact .inl rfl | exact .inr (.inl rfl) | exact .inr (.inr rfl))))
  (es_cons (es_stf (i := 0) rfl (SameB.flo (B := Bc w K c) ⟨rfl, rfl, rfl, rfl, rfl, rfl⟩ (fl_kind A)) rfl (by first | exact .inl rfl | exact .inr (.inl rfl) | exact .inr (.inr rfl)) (ev_nm (i := 2) rfl (by first | exact .inl rfl | exact .inr (.inl rfl) | exact .inr (.inr rfl))))
  (es_one (es_stf (i := 0) rfl (SameB.flo (B := Bc w K c) ⟨rfl, rfl, rfl, rfl, rfl, rfl⟩ (fl_most A)) rfl (by first | exact .inl rfl | exact .inr (.inl rfl) | exact .inr (.inr rfl)) (ev_nm (i := 3) rfl (by first | exact .inl rfl | exact .inr (.inl rfl) | exact .inr (.inr rfl)))))))))
theorem mk_Option_1 (A : AllW w K mg c) : MkA P w K mg base (L2.CX P w) (4 + 1) "Option" ((Bc w K c).ad 0) [] (spI (Bc w K c) 0 (runF 1 [0, 1, 2] [.non, .int (1)] f_Option___init__)) :=
  ⟨⟨_, A.mk_Option, (form_init (n := 1) (ix := [0, 1, 2]) (dd := [.non, .int (1)]) (o_Option___init__ (w := w) (base := base) A) (kbD (ms := [("most", .int (1))]) (by simp) (by simp) (by simp) fun T D doc pm an cdv ct us ws its mv h1 h2 h3 h4 => match us, ws, its, mv, h1, h2, h3, h4 with | [_, _], [], [_], [_], _, _, _, _ => ⟨_, rfl, ⟨_, _, _, _, _, _, rfl, rfl, rfl⟩⟩) (fun _ _ => (.cons .non (.cons (.int _) .nil))) rfl (by first | decide | exact (show ∀ i ∈ ([0, 1, 2] : List Nat), i < 3 by decide)))⟩, A.n_Option⟩
theorem sc_need_different : FnScope ["names", "at", "name"] ["names"] (defScope s_need_different) := ⟨rfl, rfl, rfl, by decide +kernel, rfl, by decide +kernel, by decide +kernel⟩
theorem o_need_different (A : AllW w K mg c) : ∃ f, mg "need_different" = some (.ref f) ∧ PySem.W.keepIn K (.ref f) = true ∧ Fo P w K mg base (L2.CX P w) (2 + 1) "need_different" "need_different" s_need_different [] [] f ["names"] (spB (Bc w K c) f_need_different 1) := by
  obtain ⟨f, G⟩ := A.g_need_different
  exact ⟨f, G.mg, G.kp, fn_run (P := P) (w := w) (base := base) (B := Bc w K c) G.fd sc_need_different rfl fun cdv A' outer s H E fd T hr hp =>
  (es_one (es_for hp rfl (ei_en rfl (by rfl) A.T.b_enumerate (ev_nm (i := 0) rfl (by first | exact .inl rfl | exact .inr (.inl rfl) | exact .inr (.inr rfl)))) (eg_t (is := [1, 2]) (fun _ _ => .inr rfl) rfl rfl (egs_cons (i := 1) sc_need_different.nd rfl (by first | exact Or.inl rfl | exact Or.inr rfl) (egs_cons (i := 2) sc_need_different.nd rfl (by first | exact Or.inl rfl | exact Or.inr rfl) egs_nil)))
  (es_one (es_if (et_cmp (op_In hr.units65) pr_in (ev_nm (i := 2) rfl (by first | exact .inl rfl | exact .inr (.inl rfl) | exact .inr (.inr rfl))) (ev_sl rfl (ev_nm (i := 0) rfl (by first | exact .inl rfl | exact .inr (.inl rfl) | exact .inr (.inr rfl))) eo_none (eo_some (ev_nm (i := 1) rfl (by first | exact .inl rfl | exact .inr (.inl rfl) | exact .inr (.inr rfl))))) (by rfl)) (es_one (es_raise (C := 3) (mkD := xd_DuplicateName) rfl (hr.mono (by decide)) (xk_DuplicateName A) rfl (rel1 (by decide) (by decide +kernel)) (by rfl) (ea_cons (ev_nm (i := 2) rfl (by first | exact .inl rfl | exact .inr (.inl rfl) | exact .inr (.inr rfl))) ea_nil))) es_nil))))⟩
theorem cf_need_different_1 (A : AllW w K mg c) : ClF P w K mg base (L2.CX P w) (2 + 1) "need_different" [] (spC (Bc w K c) (runF 1 [0] [] f_need_different)) := by
  obtain ⟨f, h1, h2, o⟩ := o_need_different (w := w) (base := base) A
  exact ⟨f, h1, h2, (form_of (n := 1) (ix := [0]) (dd := []) o (kbA fun kV doc pm an cdv ct us ws h1 h2 => match us, ws, h1, h2 with | [_], [], _, _ => rfl) (fun _ _ => .nil) rfl (by first | decide | exact (show ∀ i ∈ ([0] : List Nat), i < 1 by decide)))⟩
theorem sc_Option_all_items : FnScope ["self", "words", "word"] ["self"] (defScope s_Option_all_items) := ⟨rfl, rfl, rfl, by decide +kernel, rfl, by decide +kernel, by decide +kernel⟩
theorem o_Option_all_items (A : AllW w K mg c) : Fo P w K mg base (L2.CX P w) (0 + 1) "all_items" "Option.all_items" s_Option_all_items [] [] c.Option_all_items ["self"] (spB (Bc w K c) f_Option_all_items 1) :=
  fn_run (P := P) (w := w) (base := base) (B := Bc w K c) A.f_Option_all_items sc_Option_all_items rfl fun cdv A' outer s H E fd T hr hp =>
  (es_cons (es_set (keep := false) (i := 1) (.inr rfl) sc_Option_all_items.nd rfl (by first | exact Or.inl rfl | exact Or.inr rfl) (ev_if (et_cmp op_isN pr_isN (ev_fl rfl (SameB.flo (B := Bc w K c) ⟨rfl, rfl, rfl, rfl, rfl, rfl⟩ (fl_kind A)) (ev_nm (i := 0) rfl (by first | exact .inl rfl | exact .inr (.inl rfl) | exact .inr (.inr rfl)))) ev_non (nomark _)) (ev_lst ea_nil) ev_fail))
  (es_one (es_ret (ev_lst (ea_cons (ev_fl rfl (SameB.flo (B := Bc w K c) ⟨rfl, rfl, rfl, rfl, rfl, rfl⟩ (fl_name A)) (ev_nm (i := 0) rfl (by first | exact .inl rfl | exact .inr (.inl rfl) | exact .inr (.inr rfl)))) (ea_star rfl (ev_lc (own := [("word", 2)]) rfl sc_Option_all_items.nd (ei_sq rfl (ev_nm (i := 1) rfl (by first | exact .inl rfl | exact .inr (.inl rfl) | exact .inr (.inr rfl)))) (blkOk_by (N := ["self", "words", "word"]) (sc := defScope s_Option_all_items) (by decide +kernel)) (fun _ _ => .inr rfl) (by decide) (fun _ _ _ _ _ => (eg_n (i := 2) (.inr rfl) sc_Option_all_items.nd rfl (Or.inl rfl))) (fun _ _ _ _ _ => ets_nil) (fun _ _ _ _ _ => (ev_bin op_Add pr_add (ev_bin op_Add pr_add (ev_fl rfl (SameB.flo (B := Bc w K c) ⟨rfl, rfl, rfl, rfl, rfl, rfl⟩ (fl_name A)) (ev_nm (i := 0) rfl (by first | exact .inl rfl | exact .inr (.inl rfl) | exact .inr (.inr rfl)))) ev_str) (ev_nm (i := 2) rfl (by first | exact .inl rfl | exact .inr (.inl rfl) | exact .inr (.inr rfl)))))) ea_nil))))))
theorem sc_is_rule : FnScope ["value", "items", "one"] ["value", "items"] (defScope s_is_rule) := ⟨rfl, rfl, rfl, by decide +kernel, rfl, by decide +kernel, by decide +kernel⟩
theorem o_is_rule (A : AllW w K mg c) : ∃ f, mg "is_rule" = some (.ref f) ∧ PySem.W.keepIn K (.ref f) = true ∧ Fo P w K mg base (L2.CX P w) (0 + 1) "is_rule" "is_rule" s_is_rule [] [] f ["value", "items"] (spB (Bc w K c) f_is_rule 2) := by
  obtain ⟨f, G⟩ := A.g_is_rule
  exact ⟨f, G.mg, G.kp, fn_run (P := P) (w := w) (base := base) (B := Bc w K c) G.fd sc_is_rule rfl fun cdv A' outer s H E fd T hr hp =>
  (es_cons (es_if (et_w (ew_or (et_not (et_val (ev_isi (p := bTuple) rfl (SameB.tf (B := Bc w K c) ⟨rfl, rfl, rfl, rfl, rfl, rfl⟩ (tyf A)) (fun C fs h => by cases h) (ik_tuple) (.ty _) (by rfl) A.T.b_isinstance (ev_nm (i := 0) rfl (by first | exact .inl rfl | exact .inr (.inl rfl) | exact .inr (.inr rfl))) (pe_bltn (v := .ty "tuple") (by rfl) A.T.b_tuple (by decide +kernel) rfl)))) (ew_or (et_cmp op_lt pr_lt (ev_cB call_len pr_len (by rfl) A.T.b_len (by decide +kernel) (ea_cons (ev_nm (i := 0) rfl (by first | exact .inl rfl | exact .inr (.inl rfl) | exact .inr (.inr rfl))) ea_nil)) ev_int (nomark _)) (ew_or1 (et_not (et_val (ev_cB (cr_all rfl) pr_all (by rfl) A.T.b_all (by decide +kernel) (ea_cons (ev_lc (own := [("one", 2)]) rfl sc_is_rule.nd (ei_sq rfl (ev_sl rfl (ev_nm (i := 0) rfl (by first | exact .inl rfl | exact .inr (.inl rfl) | exact .inr (.inr rfl))) (eo_some ev_int) eo_none)) (blkOk_by (N := ["value", "items", "one"]) (sc := defScope s_is_rule) (by decide +kernel)) (fun _ _ => .inr rfl) (by decide) (fun _ _ _ _ _ => (eg_n (i := 2) (.inr rfl) sc_is_rule.nd rfl (Or.inl rfl))) (fun _ _ _ _ _ => ets_nil) (fun _ _ _ _ _ => (ev_cmp (op_In hr.units65) pr_in (ev_nm (i := 2) rfl (by first | exact .inl rfl | exact .inr (.inl rfl) | exact .inr (.inr rfl))) (ev_nm (i := 1) rfl (by first | exact .inl rfl | exact .inr (.inl rfl) | exact .inr (.inr rfl))) (by rfl)))) ea_nil)))))))) (es_one (es_ret ev_bl)) es_nil)
  (es_cons (es_if (et_cmp (op_neD hr.units) pr_ne (ev_cB call_len pr_len (by rfl) A.T.b_len (by decide +kernel) (ea_cons ev_fail ea_nil)) (ev_bin op_sub pr_sub (ev_cB call_len pr_len (by rfl) A.T.b_len (by decide +kernel) (ea_cons (ev_nm (i := 0) rfl (by first | exact .inl rfl | exact .inr (.inl rfl) | exact .inr (.inr rfl))) ea_nil)) ev_int) (nomark _)) (es_one (es_ret ev_bl)) es_nil)
  (es_cons (es_if (et_cmp (op_eqD hr.units) pr_eq (ev_ix rfl (ev_nm (i := 0) rfl (by first | exact .inl rfl | exact .inr (.inl rfl) | exact .inr (.inr rfl))) ev_int) ev_str (nomark _)) (es_one (es_ret (ev_cmp op_le pr_le (ev_cB call_len pr_len (by rfl) A.T.b_len (by decide +kernel) (ea_cons (ev_nm (i := 0) rfl (by first | exact .inl rfl | exact .inr (.inl rfl) | exact .inr (.inr rfl))) ea_nil)) (ev_bin op_Add pr_add (ev_k (C8.pe_gc (by rfl) A.GC.g_MOST_NEEDS) (.int _)) ev_int) (nomark _)))) es_nil)
  (es_one (es_ret (ev_and (ev_cmp (op_In hr.units65) pr_in (ev_ix rfl (ev_nm (i := 0) rfl (by first | exact .inl rfl | exact .inr (.inl rfl) | exact .inr (.inr rfl))) ev_int) (ev_tup (ea_cons ev_str (ea_cons ev_str ea_nil))) (by rfl)) (ev_one (ev_cmp (op_eqD hr.units) pr_eq (ev_cB call_len pr_len (by rfl) A.T.b_len (by decide +kernel) (ea_cons (ev_nm (i := 0) rfl (by first | exact .inl rfl | exact .inr (.inl rfl) | exact .inr (.inr rfl))) ea_nil)) ev_int (nomark _)))))))))⟩
theorem cf_is_rule_2 (A : AllW w K mg c) : ClF P w K mg base (L2.CX P w) (0 + 1) "is_rule" [] (spC (Bc w K c) (runF 2 [0, 1] [] f_is_rule)) := by
  obtain ⟨f, h1, h2, o⟩ := o_is_rule (w := w) (base := base) A
  exact ⟨f, h1, h2, (form_of (n := 2) (ix := [0, 1]) (dd := []) o (kbA fun kV doc pm an cdv ct us ws h1 h2 => match us, ws, h1, h2 with | [_, _], [], _, _ => rfl) (fun _ _ => .nil) rfl (by first | decide | exact (show ∀ i ∈ ([0, 1] : List Nat), i < 2 by decide)))⟩
theorem mo_all_items_1 (A : AllW w K mg c) : MtOk P w K mg base (Bc w K c) 1 "all_items" [] mt_all_items_1 :=
  ⟨fun C f h => match C, h with | 0, h => (by cases h; exact ⟨⟨⟨_, A.me_Option_all_items, ((form_of (n := 1) (ix := [0]) (dd := []) (o_Option_all_items (w := w) (base := base) A) (kbA fun kV doc pm an cdv ct us ws h1 h2 => match us, ws, h1, h2 with | [_], [], _, _ => rfl) (fun _ _ => .nil) rfl (by first | decide | exact (show ∀ i ∈ ([0] : List Nat), i < 1 by decide)))).mono (by decide)⟩, A.cl_Option⟩, (show ("all_items" : Str) ∉ (["name", "kind", "most"] : List Str) by decide +kernel)⟩) | 1, h => (by cases h) | 2, h => (by cases h) | (_ + 3), h => (by cases h)⟩
theorem sc_Command___init__ : FnScope ["self", "name", "options", "places", "parts", "rules", "rows", "word", "option", "part", "items", "item", "at", "rule"] ["self", "name", "options", "places", "parts", "rules"] (defScope s_Command___init__) := ⟨rfl, rfl, rfl, by decide +kernel, rfl, by decide +kernel, by decide +kernel⟩
theorem o_Command___init__ (A : AllW w K mg c) : Fo P w K mg base (L2.CX P w) (4 + 1) "__init__" "Command.__init__" s_Command___init__ [] [("options", .ref c.t_Command___init___options), ("places", .ref c.t_Command___init___places), ("parts", .ref c.t_Command___init___parts), ("rules", .ref c.t_Command___init___rules)] c.Command___init__ ["self", "name", "options", "places", "parts", "rules"] (spJ (Bc w K c) 1 f_Command___init__ 6) :=
  fn_init (P := P) (w := w) (base := base) (B := Bc w K c) A.f_Command___init__ sc_Command___init__ (by decide) (by decide) fun cdv A' outer s H He E fd T a hr hp =>
  (es_cons (es_if (et_not (et_val (ev_cal (B := Bc w K c) ⟨rfl, rfl, rfl, rfl, rfl, rfl⟩ (cf_is_name_1 A) (hr.mono (by decide)) (by rfl) (ea_cons (ev_nm (i := 1) rfl (by first | exact .inl rfl | exact .inr (.inl rfl) | exact .inr (.inr rfl))) ea_nil) ek_nil))) (es_one (es_raise (C := 0) (mkD := xd_InvalidName) rfl (hr.mono (by decide)) (xk_InvalidName A) rfl (rel1 (by decide) (by decide +kernel)) (by rfl) (ea_cons (ev_nm (i := 1) rfl (by first | exact .inl rfl | exact .inr (.inl rfl) | exact .inr (.inr rfl))) ea_nil))) es_nil)
  (es_cons (es_set (keep := false) (i := 6) (.inl (by decide)) sc_Command___init__.nd rfl (by first | exact Or.inl rfl | exact Or.inr rfl) (ev_dd (kfs := [(.inr "options", (sNm 2)), (.inr "places", (sNm 3)), (.inr "parts", (sNm 4)), (.inr "rules", (sNm 5))]) (pps_cons pe_str (ev_nm (i := 2) rfl (by first | exact .inl rfl | exact .inr (.inl rfl) | exact .inr (.inr rfl))) (pps_cons pe_str (ev_nm (i := 3) rfl (by first | exact .inl rfl | exact .inr (.inl rfl) | exact .inr (.inr rfl))) (pps_cons pe_str (ev_nm (i := 4) rfl (by first | exact .inl rfl | exact .inr (.inl rfl) | exact .inr (.inr rfl))) (pps_cons pe_str (ev_nm (i := 5) rfl (by first | exact .inl rfl | exact .inr (.inl rfl) | exact .inr (.inr rfl))) pps_nil)))) (by decide) (by decide)))
  (es_cons (es_for hp rfl (ei_ks rfl (SameB.so (B := Bc w K c) ⟨rfl, rfl, rfl, rfl, rfl, rfl⟩ A.so) (ev_gd (a := c.s_BOUNDS) (kvs := [(.inr "options", .int (8)), (.inr "places", .int (4)), (.inr "parts", .int (6)), (.inr "rules", .int (8))]) (ds := [.int (8), .int (4), .int (6), .int (8)]) (by rfl) A.sn_BOUNDS (.head _) (fun _ => (.cons (.int _) (.cons (.int _) (.cons (.int _) (.cons (.int _) .nil))))))) (eg_n (i := 7) (.inl (by decide)) sc_Command___init__.nd rfl (by first | exact Or.inl rfl | exact Or.inr rfl))
  (es_one (es_if (et_cmp op_gt pr_gt (ev_cB call_len pr_len (by rfl) A.T.b_len (by decide +kernel) (ea_cons (ev_ix2 rfl (SameB.so (B := Bc w K c) ⟨rfl, rfl, rfl, rfl, rfl, rfl⟩ A.so) hr.units65 (ev_nm (i := 6) rfl (by first | exact .inl rfl | exact .inr (.inl rfl) | exact .inr (.inr rfl))) (ev_nm (i := 7) rfl (by first | exact .inl rfl | exact .inr (.inl rfl) | exact .inr (.inr rfl)))) ea_nil)) (ev_ix2 rfl (SameB.so (B := Bc w K c) ⟨rfl, rfl, rfl, rfl, rfl, rfl⟩ A.so) hr.units65 (ev_gd (a := c.s_BOUNDS) (kvs := [(.inr "options", .int (8)), (.inr "places", .int (4)), (.inr "parts", .int (6)), (.inr "rules", .int (8))]) (ds := [.int (8), .int (4), .int (6), .int (8)]) (by rfl) A.sn_BOUNDS (.head _) (fun _ => (.cons (.int _) (.cons (.int _) (.cons (.int _) (.cons (.int _) .nil)))))) (ev_nm (i := 7) rfl (by first | exact .inl rfl | exact .inr (.inl rfl) | exact .inr (.inr rfl)))) (nomark _)) (es_one (es_raise (C := 4) (mkD := xd_TooMany) rfl (hr.mono (by decide)) (xk_TooMany A) rfl (rel2 (by decide) (by decide) (by decide) (by decide +kernel)) (by rfl) (ea_cons (ev_nm (i := 7) rfl (by first | exact .inl rfl | exact .inr (.inl rfl) | exact .inr (.inr rfl))) (ea_cons (ev_ix2 rfl (SameB.so (B := Bc w K c) ⟨rfl, rfl, rfl, rfl, rfl, rfl⟩ A.so) hr.units65 (ev_gd (a := c.s_BOUNDS) (kvs := [(.inr "options", .int (8)), (.inr "places", .int (4)), (.inr "parts", .int (6)), (.inr "rules", .int (8))]) (ds := [.int (8), .int (4), .int (6), .int (8)]) (by rfl) A.sn_BOUNDS (.head _) (fun _ => (.cons (.int _) (.cons (.int _) (.cons (.int _) (.cons (.int _) .nil)))))) (ev_nm (i := 7) rfl (by first | exact .inl rfl | exact .inr (.inl rfl) | exact .inr (.inr rfl)))) ea_nil)))) es_nil)))
  (es_cons (es_if (et_w (ew_and (et_cmp op_gt pr_gt (ev_cB call_len pr_len (by rfl) A.T.b_len (by decide +kernel) (ea_cons (ev_nm (i := 3) rfl (by first | exact .inl rfl | exact .inr (.inl rfl) | exact .inr (.inr rfl))) ea_nil)) ev_int (nomark _)) (ew_and1 (et_cmp op_gt pr_gt (ev_cB call_len pr_len (by rfl) A.T.b_len (by decide +kernel) (ea_cons (ev_nm (i := 4) rfl (by first | exact .inl rfl | exact .inr (.inl rfl) | exact .inr (.inr rfl))) ea_nil)) ev_int (nomark _))))) (es_one es_never) es_nil)
  (es_cons (es_expr (ev_cal (B := Bc w K c) ⟨rfl, rfl, rfl, rfl, rfl, rfl⟩ (cf_need_different_1 A) (hr.mono (by decide)) (by rfl) (ea_cons (ev_lc (own := [("option", 8)]) rfl sc_Command___init__.nd (ei_sq rfl (ev_nm (i := 2) rfl (by first | exact .inl rfl | exact .inr (.inl rfl) | exact .inr (.inr rfl)))) (blkOk_by (N := ["self", "name", "options", "places", "parts", "rules", "rows", "word", "option", "part", "items", "item", "at", "rule"]) (sc := defScope s_Command___init__) (by decide +kernel)) (fun i hi => .inl (fun e => by subst e; revert hi; decide)) (by decide) (fun _ _ _ _ _ => (eg_n (i := 8) (.inl (by decide)) sc_Command___init__.nd rfl (Or.inl rfl))) (fun _ _ _ _ _ => ets_nil) (fun _ _ _ _ _ => (ev_fl rfl (SameB.flo (B := Bc w K c) ⟨rfl, rfl, rfl, rfl, rfl, rfl⟩ (fl_name A)) (ev_nm (i := 8) rfl (by first | exact .inl rfl | exact .inr (.inl rfl) | exact .inr (.inr rfl)))))) ea_nil) ek_nil))
  (es_cons (es_expr (ev_cal (B := Bc w K c) ⟨rfl, rfl, rfl, rfl, rfl, rfl⟩ (cf_need_different_1 A) (hr.mono (by decide)) (by rfl) (ea_cons (ev_lc (own := [("part", 9)]) rfl sc_Command___init__.nd (ei_sq rfl (ev_nm (i := 4) rfl (by first | exact .inl rfl | exact .inr (.inl rfl) | exact .inr (.inr rfl)))) (blkOk_by (N := ["self", "name", "options", "places", "parts", "rules", "rows", "word", "option", "part", "items", "item", "at", "rule"]) (sc := defScope s_Command___init__) (by decide +kernel)) (fun i hi => .inl (fun e => by subst e; revert hi; decide)) (by decide) (fun _ _ _ _ _ => (eg_n (i := 9) (.inl (by decide)) sc_Command___init__.nd rfl (Or.inl rfl))) (fun _ _ _ _ _ => ets_nil) (fun _ _ _ _ _ => (ev_fl rfl (SameB.flo (B := Bc w K c) ⟨rfl, rfl, rfl, rfl, rfl, rfl⟩ (fl_name A)) (ev_nm (i := 9) rfl (by first | exact .inl rfl | exact .inr (.inl rfl) | exact .inr (.inr rfl)))))) ea_nil) ek_nil))
  (es_cons (es_setLc2 (keep := false) (i := 10) (own := [("option", 8), ("item", 11)]) (vs1 := [11]) (.inl (by decide)) rfl sc_Command___init__.nd rfl rfl (sw_true rfl rfl rfl (by decide +kernel)) (ei_sq rfl (ev_nm (i := 2) rfl (by first | exact .inl rfl | exact .inr (.inl rfl) | exact .inr (.inr rfl)))) (blkOk_by (N := ["self", "name", "options", "places", "parts", "rules", "rows", "word", "option", "part", "items", "item", "at", "rule"]) (sc := defScope s_Command___init__) (by decide +kernel)) (by decide) (fun i hi => .inl (fun e => by subst e; revert hi; decide)) (by decide) (by decide) (fun _ _ _ _ _ => (eg_n (i := 8) (.inl (by decide)) sc_Command___init__.nd rfl (Or.inl rfl))) (fun _ _ _ _ _ => ets_nil) (fun _ _ _ _ _ => (ei_sq rfl (ev_mth0 (B := Bc w K c) ⟨rfl, rfl, rfl, rfl, rfl, rfl⟩ (mo_all_items_1 A) (hr.blk.mono (by decide)) (ev_nm (i := 8) rfl (by first | exact .inl rfl | exact .inr (.inl rfl) | exact .inr (.inr rfl))) ek_nil))) (fun _ _ _ _ _ => (eg_n (i := 11) (.inl (by decide)) sc_Command___init__.nd rfl (Or.inl rfl))) (fun _ _ _ _ _ => ets_nil) (fun _ _ _ _ _ => (ev_nm (i := 11) rfl (by first | exact .inl rfl | exact .inr (.inl rfl) | exact .inr (.inr rfl)))))
  (es_cons (es_for hp rfl (ei_en rfl (by rfl) A.T.b_enumerate (ev_nm (i := 5) rfl (by first | exact .inl rfl | exact .inr (.inl rfl) | exact .inr (.inr rfl)))) (eg_t (is := [12, 13]) (fun i hi => .inl (fun e => by subst e; revert hi; decide)) rfl rfl (egs_cons (i := 12) sc_Command___init__.nd rfl (by first | exact Or.inl rfl | exact Or.inr rfl) (egs_cons (i := 13) sc_Command___init__.nd rfl (by first | exact Or.inl rfl | exact Or.inr rfl) egs_nil)))
  (es_one (es_if (et_not (et_val (ev_cal (B := Bc w K c) ⟨rfl, rfl, rfl, rfl, rfl, rfl⟩ (cf_is_rule_2 A) (hr.mono (by decide)) (by rfl) (ea_cons (ev_nm (i := 13) rfl (by first | exact .inl rfl | exact .inr (.inl rfl) | exact .inr (.inr rfl))) (ea_cons (ev_nm (i := 10) rfl (by first | exact .inl rfl | exact .inr (.inl rfl) | exact .inr (.inr rfl))) ea_nil)) ek_nil))) (es_one (es_raise (C := 2) (mkD := xd_InvalidRule) rfl (hr.mono (by decide)) (xk_InvalidRule A) rfl (rel1 (by decide) (by decide +kernel)) (by rfl) (ea_cons (ev_nm (i := 12) rfl (by first | exact .inl rfl | exact .inr (.inl rfl) | exact .inr (.inr rfl))) ea_nil))) es_nil)))
  (es_cons (es_stf (i := 0) rfl (SameB.flo (B := Bc w K c) ⟨rfl, rfl, rfl, rfl, rfl, rfl⟩ (fl_name A)) rfl (by first | exact .inl rfl | exact .inr (.inl rfl) | exact .inr (.inr rfl)) (ev_nm (i := 1) rfl (by first | exact .inl rfl | exact .inr (.inl rfl) | exact .inr (.inr rfl))))
  (es_cons (es_stf (i := 0) rfl (SameB.flo (B := Bc w K c) ⟨rfl, rfl, rfl, rfl, rfl, rfl⟩ (fl_own_options A)) rfl (by first | exact .inl rfl | exact .inr (.inl rfl) | exact .inr (.inr rfl)) (ev_cT call_tuple_of pr_tuple (by rfl) A.T.b_tuple (by decide +kernel) (ea_cons (ev_nm (i := 2) rfl (by first | exact .inl rfl | exact .inr (.inl rfl) | exact .inr (.inr rfl))) ea_nil)))
  (es_cons (es_stf (i := 0) rfl (SameB.flo (B := Bc w K c) ⟨rfl, rfl, rfl, rfl, rfl, rfl⟩ (fl_own_places A)) rfl (by first | exact .inl rfl | exact .inr (.inl rfl) | exact .inr (.inr rfl)) (ev_cT call_tuple_of pr_tuple (by rfl) A.T.b_tuple (by decide +kernel) (ea_cons (ev_nm (i := 3) rfl (by first | exact .inl rfl | exact .inr (.inl rfl) | exact .inr (.inr rfl))) ea_nil)))
  (es_cons (es_stf (i := 0) rfl (SameB.flo (B := Bc w K c) ⟨rfl, rfl, rfl, rfl, rfl, rfl⟩ (fl_own_parts A)) rfl (by first | exact .inl rfl | exact .inr (.inl rfl) | exact .inr (.inr rfl)) (ev_cT call_tuple_of pr_tuple (by rfl) A.T.b_tuple (by decide +kernel) (ea_cons (ev_nm (i := 4) rfl (by first | exact .inl rfl | exact .inr (.inl rfl) | exact .inr (.inr rfl))) ea_nil)))
  (es_one (es_stf (i := 0) rfl (SameB.flo (B := Bc w K c) ⟨rfl, rfl, rfl, rfl, rfl, rfl⟩ (fl_own_rules A)) rfl (by first | exact .inl rfl | exact .inr (.inl rfl) | exact .inr (.inr rfl)) (ev_cT call_tuple_of pr_tuple (by rfl) A.T.b_tuple (by decide +kernel) (ea_cons (ev_nm (i := 5) rfl (by first | exact .inl rfl | exact .inr (.inl rfl) | exact .inr (.inr rfl))) ea_nil))))))))))))))))
theorem mk_Command_1_options (A : AllW w K mg c) : MkA P w K mg base (L2.CX P w) (4 + 1) "Command" ((Bc w K c).ad 1) ["options"] (spI (Bc w K c) 1 (runF 1 [0, 1, 2, 3, 4] [.tup [], .tup [], .tup []] f_Command___init__)) :=
  ⟨⟨_, A.mk_Command, (form_init (n := 1) (ix := [0, 1, 2, 3, 4]) (dd := [.tup [], .tup [], .tup []]) (o_Command___init__ (w := w) (base := base) A) (kbB (ms := [("places", .ref c.t_Command___init___places), ("parts", .ref c.t_Command___init___parts), ("rules", .ref c.t_Command___init___rules)]) (by simp) (by simp) fun D doc pm an cdv ct us ws mv h1 h2 h3 => match us, ws, mv, h1, h2, h3 with | [_, _], [_], [_, _, _], _, _, _ => ⟨_, _, _, _, _, _, rfl, rfl, ⟨_, _, _, _, _, _, rfl, rfl, ⟨_, _, _, _, _, _, rfl, rfl, rfl⟩⟩⟩) (fun _ _ => (.cons (.tup (A.td_t_Command___init___places _) .nil) (.cons (.tup (A.td_t_Command___init___parts _) .nil) (.cons (.tup (A.td_t_Command___init___rules _) .nil) .nil)))) rfl (by first | decide | exact (show ∀ i ∈ ([0, 1, 2, 3, 4] : List Nat), i < 5 by decide)))⟩, A.n_Command⟩
theorem mk_Command_1_parts_options (A : AllW w K mg c) : MkA P w K mg base (L2.CX P w) (4 + 1) "Command" ((Bc w K c).ad 1) ["parts", "options"] (spI (Bc w K c) 1 (runF 1 [0, 2, 3, 1, 4] [.tup [], .tup []] f_Command___init__)) :=
  ⟨⟨_, A.mk_Command, (form_init (n := 1) (ix := [0, 2, 3, 1, 4]) (dd := [.tup [], .tup []]) (o_Command___init__ (w := w) (base := base) A) (kbB (ms := [("places", .ref c.t_Command___init___places), ("rules", .ref c.t_Command___init___rules)]) (by simp) (by simp) fun D doc pm an cdv ct us ws mv h1 h2 h3 => match us, ws, mv, h1, h2, h3 with | [_, _], [_, _], [_, _], _, _, _ => ⟨_, _, _, _, _, _, rfl, rfl, ⟨_, _, _, _, _, _, rfl, rfl, rfl⟩⟩) (fun _ _ => (.cons (.tup (A.td_t_Command___init___places _) .nil) (.cons (.tup (A.td_t_Command___init___rules _) .nil) .nil))) rfl (by first | decide | exact (show ∀ i ∈ ([0, 2, 3, 1, 4] : List Nat), i < 5 by decide)))⟩, A.n_Command⟩
theorem mk_Command_1_parts (A : AllW w K mg c) : MkA P w K mg base (L2.CX P w) (4 + 1) "Command" ((Bc w K c).ad 1) ["parts"] (spI (Bc w K c) 1 (runF 1 [0, 2, 3, 1, 4] [.tup [], .tup [], .tup []] f_Command___init__)) :=
  ⟨⟨_, A.mk_Command, (form_init (n := 1) (ix := [0, 2, 3, 1, 4]) (dd := [.tup [], .tup [], .tup []]) (o_Command___init__ (w := w) (base := base) A) (kbB (ms := [("options", .ref c.t_Command___init___options), ("places", .ref c.t_Command___init___places), ("rules", .ref c.t_Command___init___rules)]) (by simp) (by simp) fun D doc pm an cdv ct us ws mv h1 h2 h3 => match us, ws, mv, h1, h2, h3 with | [_, _], [_], [_, _, _], _, _, _ => ⟨_, _, _, _, _, _, rfl, rfl, ⟨_, _, _, _, _, _, rfl, rfl, ⟨_, _, _, _, _, _, rfl, rfl, rfl⟩⟩⟩) (fun _ _ => (.cons (.tup (A.td_t_Command___init___options _) .nil) (.cons (.tup (A.td_t_Command___init___places _) .nil) (.cons (.tup (A.td_t_Command___init___rules _) .nil) .nil)))) rfl (by first | decide | exact (show ∀ i ∈ ([0, 2, 3, 1, 4] : List Nat), i < 5 by decide)))⟩, A.n_Command⟩
theorem mk_Command_1 (A : AllW w K mg c) : MkA P w K mg base (L2.CX P w) (4 + 1) "Command" ((Bc w K c).ad 1) [] (spI (Bc w K c) 1 (runF 1 [0, 1, 2, 3, 4] [.tup [], .tup [], .tup [], .tup []] f_Command___init__)) :=
  ⟨⟨_, A.mk_Command, (form_init (n := 1) (ix := [0, 1, 2, 3, 4]) (dd := [.tup [], .tup [], .tup [], .tup []]) (o_Command___init__ (w := w) (base := base) A) (kbB (ms := [("options", .ref c.t_Command___init___options), ("places", .ref c.t_Command___init___places), ("parts", .ref c.t_Command___init___parts), ("rules", .ref c.t_Command___init___rules)]) (by simp) (by simp) fun D doc pm an cdv ct us ws mv h1 h2 h3 => match us, ws, mv, h1, h2, h3 with | [_, _], [], [_, _, _, _], _, _, _ => ⟨_, _, _, _, _, _, rfl, rfl, ⟨_, _, _, _, _, _, rfl, rfl, ⟨_, _, _, _, _, _, rfl, rfl, ⟨_, _, _, _, _, _, rfl, rfl, rfl⟩⟩⟩⟩) (fun _ _ => (.cons (.tup (A.td_t_Command___init___options _) .nil) (.cons (.tup (A.td_t_Command___init___places _) .nil) (.cons (.tup (A.td_t_Command___init___parts _) .nil) (.cons (.tup (A.td_t_Command___init___rules _) .nil) .nil))))) rfl (by first | decide | exact (show ∀ i ∈ ([0, 1, 2, 3, 4] : List Nat), i < 5 by decide)))⟩, A.n_Command⟩
/-! a recursion: below -/
theorem sc_below : FnScope ["command", "part", "path"] ["command"] (defScope s_below) := ⟨rfl, rfl, rfl, by decide +kernel, rfl, by decide +kernel, by decide +kernel⟩
structure Rc_11 (w : World) (K : PySem.W.Frag) (mg : Str → Option Value) (base : Heap) (c : Cs) (n : Nat) : Prop where
  cf_below_1 : ClF P w K mg base (L2.CX P w) (0 + 2 * n) "below" [] (spC (Bc w K c) (runF 1 [0] [] (F_11 n 0)))
theorem o_below {n : Nat} (R : Rc_11 w K mg base c n) (A : AllW w K mg c) : ∃ f, mg "below" = some (.ref f) ∧ PySem.W.keepIn K (.ref f) = true ∧ Fo P w K mg base (L2.CX P w) (0 + 2 * n + 1 + 1) "below" "below" s_below [] [] f ["command"] (spB (Bc w K c) (runB 3 (b_below (F_11 n))) 1) := by
  obtain ⟨f, G⟩ := A.g_below
  exact ⟨f, G.mg, G.kp, fn_run (P := P) (w := w) (base := base) (B := Bc w K c) G.fd sc_below rfl fun cdv A' outer s H E fd T hr hp =>
  (es_one (es_ret (ev_lst (ea_cons (ev_tup ea_nil) (ea_star rfl (ev_lc2 (own := [("part", 1), ("path", 2)]) (vs1 := [2]) rfl sc_below.nd (ei_sq rfl (ev_fl rfl (SameB.flo (B := Bc w K c) ⟨rfl, rfl, rfl, rfl, rfl, rfl⟩ (fl_own_parts A)) (ev_nm (i := 0) rfl (by first | exact .inl rfl | exact .inr (.inl rfl) | exact .inr (.inr rfl))))) (blkOk_by (N := ["command", "part", "path"]) (sc := defScope s_below) (by decide +kernel)) (by decide) (fun _ _ => .inr rfl) (by decide) (by decide) (fun _ _ _ _ _ => (eg_n (i := 1) (.inr rfl) sc_below.nd rfl (Or.inl rfl))) (fun _ _ _ _ _ => ets_nil) (fun _ _ _ _ _ => (ei_sq rfl (ev_cal (B := Bc w K c) ⟨rfl, rfl, rfl, rfl, rfl, rfl⟩ R.cf_below_1 (hr.blk.mono (by omega)) (by rfl) (ea_cons (ev_nm (i := 1) rfl (by first | exact .inl rfl | exact .inr (.inl rfl) | exact .inr (.inr rfl))) ea_nil) ek_nil))) (fun _ _ _ _ _ => (eg_n (i := 2) (.inr rfl) sc_below.nd rfl (Or.inl rfl))) (fun _ _ _ _ _ => ets_nil) (fun _ _ _ _ _ => (ev_tup (ea_cons (ev_fl rfl (SameB.flo (B := Bc w K c) ⟨rfl, rfl, rfl, rfl, rfl, rfl⟩ (fl_name A)) (ev_nm (i := 1) rfl (by first | exact .inl rfl | exact .inr (.inl rfl) | exact .inr (.inr rfl)))) (ea_star rfl (ev_nm (i := 2) rfl (by first | exact .inl rfl | exact .inr (.inl rfl) | exact .inr (.inr rfl))) ea_nil))))) ea_nil)))))⟩
theorem R_11 (A : AllW w K mg c) : ∀ n, Rc_11 w K mg base c n
  | 0 => ⟨(by obtain ⟨f, G⟩ := A.g_below; exact ⟨f, G.mg, G.kp, FnA.none (runF_fail fun _ => rfl)⟩)⟩
  | n + 1 => ⟨(by
    obtain ⟨f, h1, h2, o⟩ := o_below (R_11 A n) A
    exact ⟨f, h1, h2, (form_of (n := 1) (ix := [0]) (dd := []) o (kbA fun kV doc pm an cdv ct us ws h1 h2 => match us, ws, h1, h2 with | [_], [], _, _ => rfl) (fun _ _ => .nil) rfl (by first | decide | exact (show ∀ i ∈ ([0] : List Nat), i < 1 by decide)))⟩)⟩
theorem cf_below_1 (A : AllW w K mg c) : ClF P w K mg base (L2.CX P w) 16 "below" [] (spC (Bc w K c) (runF 1 [0] [] (F_11 8 0))) := (R_11 A 8).cf_below_1
theorem sc_Command_part : FnScope ["self", "name", "one"] ["self", "name"] (defScope s_Command_part) := ⟨rfl, rfl, rfl, by decide +kernel, rfl, by decide +kernel, by decide +kernel⟩
theorem o_Command_part (A : AllW w K mg c) : Fo P w K mg base (L2.CX P w) (0 + 1) "part" "Command.part" s_Command_part [] [] c.Command_part ["self", "name"] (spB (Bc w K c) f_Command_part 2) :=
  fn_run (P := P) (w := w) (base := base) (B := Bc w K c) A.f_Command_part sc_Command_part rfl fun cdv A' outer s H E fd T hr hp =>
  (es_cons (es_for hp rfl (ei_sq rfl (ev_fl rfl (SameB.flo (B := Bc w K c) ⟨rfl, rfl, rfl, rfl, rfl, rfl⟩ (fl_own_parts A)) (ev_nm (i := 0) rfl (by first | exact .inl rfl | exact .inr (.inl rfl) | exact .inr (.inr rfl))))) (eg_n (i := 2) (.inr rfl) sc_Command_part.nd rfl (by first | exact Or.inl rfl | exact Or.inr rfl))
  (es_one (es_if (et_cmp (op_eqD hr.units) pr_eq (ev_fl rfl (SameB.flo (B := Bc w K c) ⟨rfl, rfl, rfl, rfl, rfl, rfl⟩ (fl_name A)) (ev_nm (i := 2) rfl (by first | exact .inl rfl | exact .inr (.inl rfl) | exact .inr (.inr rfl)))) (ev_nm (i := 1) rfl (by first | exact .inl rfl | exact .inr (.inl rfl) | exact .inr (.inr rfl))) (nomark _)) (es_one (es_ret (ev_nm (i := 2) rfl (by first | exact .inl rfl | exact .inr (.inl rfl) | exact .inr (.inr rfl))))) es_nil)))
  (es_one es_never))
theorem mo_part_2 (A : AllW w K mg c) : MtOk P w K mg base (Bc w K c) 1 "part" [] mt_part_2 :=
  ⟨fun C f h => match C, h with | 0, h => (by cases h) | 1, h => (by cases h; exact ⟨⟨⟨_, A.me_Command_part, ((form_of (n := 2) (ix := [0, 1]) (dd := []) (o_Command_part (w := w) (base := base) A) (kbA fun kV doc pm an cdv ct us ws h1 h2 => match us, ws, h1, h2 with | [_, _], [], _, _ => rfl) (fun _ _ => .nil) rfl (by first | decide | exact (show ∀ i ∈ ([0, 1] : List Nat), i < 2 by decide)))).mono (by decide)⟩, A.cl_Command⟩, (show ("part" : Str) ∉ (["name", "own_options", "own_places", "own_parts", "own_rules"] : List Str) by decide +kernel)⟩) | 2, h => (by cases h) | (_ + 3), h => (by cases h)⟩
theorem sc_command_at : FnScope ["top", "path", "found", "name"] ["top", "path"] (defScope s_command_at) := ⟨rfl, rfl, rfl, by decide +kernel, rfl, by decide +kernel, by decide +kernel⟩
theorem o_command_at (A : AllW w K mg c) : ∃ f, mg "command_at" = some (.ref f) ∧ PySem.W.keepIn K (.ref f) = true ∧ Fo P w K mg base (L2.CX P w) (2 + 1) "command_at" "command_at" s_command_at [] [] f ["top", "path"] (spB (Bc w K c) f_command_at 2) := by
  obtain ⟨f, G⟩ := A.g_command_at
  exact ⟨f, G.mg, G.kp, fn_run (P := P) (w := w) (base := base) (B := Bc w K c) G.fd sc_command_at rfl fun cdv A' outer s H E fd T hr hp =>
  (es_cons (es_set (keep := false) (i := 2) (.inr rfl) sc_command_at.nd rfl (by first | exact Or.inl rfl | exact Or.inr rfl) (ev_nm (i := 0) rfl (by first | exact .inl rfl | exact .inr (.inl rfl) | exact .inr (.inr rfl))))
  (es_cons (es_for hp rfl (ei_sq rfl (ev_nm (i := 1) rfl (by first | exact .inl rfl | exact .inr (.inl rfl) | exact .inr (.inr rfl)))) (eg_n (i := 3) (.inr rfl) sc_command_at.nd rfl (by first | exact Or.inl rfl | exact Or.inr rfl))
  (es_one (es_set (keep := false) (i := 2) (.inr rfl) sc_command_at.nd rfl (by first | exact Or.inl rfl | exact Or.inr rfl) (ev_mth (B := Bc w K c) ⟨rfl, rfl, rfl, rfl, rfl, rfl⟩ (mo_part_2 A) (hr.mono (by decide)) (ev_nm (i := 2) rfl (by first | exact .inl rfl | exact .inr (.inl rfl) | exact .inr (.inr rfl))) (ea_cons (ev_nm (i := 3) rfl (by first | exact .inl rfl | exact .inr (.inl rfl) | exact .inr (.inr rfl))) ea_nil) ek_nil))))
  (es_one (es_ret (ev_nm (i := 2) rfl (by first | exact .inl rfl | exact .inr (.inl rfl) | exact .inr (.inr rfl)))))))⟩
theorem cf_command_at_2 (A : AllW w K mg c) : ClF P w K mg base (L2.CX P w) (2 + 1) "command_at" [] (spC (Bc w K c) (runF 2 [0, 1] [] f_command_at)) := by
  obtain ⟨f, h1, h2, o⟩ := o_command_at (w := w) (base := base) A
  exact ⟨f, h1, h2, (form_of (n := 2) (ix := [0, 1]) (dd := []) o (kbA fun kV doc pm an cdv ct us ws h1 h2 => match us, ws, h1, h2 with | [_, _], [], _, _ => rfl) (fun _ _ => .nil) rfl (by first | decide | exact (show ∀ i ∈ ([0, 1] : List Nat), i < 2 by decide)))⟩
theorem sc_Command_options : FnScope ["self"] ["self"] (defScope s_Command_options) := ⟨rfl, rfl, rfl, by decide +kernel, rfl, by decide +kernel, by decide +kernel⟩
theorem o_Command_options (A : AllW w K mg c) : Fo P w K mg base (L2.CX P w) (0 + 1) "options" "Command.options" s_Command_options [] [] c.Command_options ["self"] (spB (Bc w K c) f_Command_options 1) :=
  fn_run (P := P) (w := w) (base := base) (B := Bc w K c) A.f_Command_options sc_Command_options rfl fun cdv A' outer s H E fd T hr hp =>
  (es_one (es_ret (ev_cT call_list_of pr_list (by rfl) A.T.b_list (by decide +kernel) (ea_cons (ev_fl rfl (SameB.flo (B := Bc w K c) ⟨rfl, rfl, rfl, rfl, rfl, rfl⟩ (fl_own_options A)) (ev_nm (i := 0) rfl (by first | exact .inl rfl | exact .inr (.inl rfl) | exact .inr (.inr rfl)))) ea_nil))))
theorem mo_options_1 (A : AllW w K mg c) : MtOk P w K mg base (Bc w K c) 1 "options" [] mt_options_1 :=
  ⟨fun C f h => match C, h with | 0, h => (by cases h) | 1, h => (by cases h; exact ⟨⟨⟨_, A.me_Command_options, ((form_of (n := 1) (ix := [0]) (dd := []) (o_Command_options (w := w) (base := base) A) (kbA fun kV doc pm an cdv ct us ws h1 h2 => match us, ws, h1, h2 with | [_], [], _, _ => rfl) (fun _ _ => .nil) rfl (by first | decide | exact (show ∀ i ∈ ([0] : List Nat), i < 1 by decide)))).mono (by decide)⟩, A.cl_Command⟩, (show ("options" : Str) ∉ (["name", "own_options", "own_places", "own_parts", "own_rules"] : List Str) by decide +kernel)⟩) | 2, h => (by cases h) | (_ + 3), h => (by cases h)⟩
theorem sc_Grammar___init__ : FnScope ["self", "top", "paths", "path", "above", "at", "option"] ["self", "top"] (defScope s_Grammar___init__) := ⟨rfl, rfl, rfl, by decide +kernel, rfl, by decide +kernel, by decide +kernel⟩
theorem o_Grammar___init__ (A : AllW w K mg c) : Fo P w K mg base (L2.CX P w) (17 + 1) "__init__" "Grammar.__init__" s_Grammar___init__ [] [] c.Grammar___init__ ["self", "top"] (spJ (Bc w K c) 2 f_Grammar___init__ 2) :=
  fn_init (P := P) (w := w) (base := base) (B := Bc w K c) A.f_Grammar___init__ sc_Grammar___init__ (by decide) (by decide) fun cdv A' outer s H He E fd T a hr hp =>
  (es_cons (es_set (keep := false) (i := 2) (.inl (by decide)) sc_Grammar___init__.nd rfl (by first | exact Or.inl rfl | exact Or.inr rfl) (ev_cal (B := Bc w K c) ⟨rfl, rfl, rfl, rfl, rfl, rfl⟩ (cf_below_1 A) (hr.mono (by decide)) (by rfl) (ea_cons (ev_nm (i := 1) rfl (by first | exact .inl rfl | exact .inr (.inl rfl) | exact .inr (.inr rfl))) ea_nil) ek_nil))
  (es_cons (es_if (et_cmp op_gt pr_gt (ev_cB (cr_max rfl) pr_max (by rfl) A.T.b_max (by decide +kernel) (ea_cons (ev_lc (own := [("path", 3)]) rfl sc_Grammar___init__.nd (ei_sq rfl (ev_nm (i := 2) rfl (by first | exact .inl rfl | exact .inr (.inl rfl) | exact .inr (.inr rfl)))) (blkOk_by (N := ["self", "top", "paths", "path", "above", "at", "option"]) (sc := defScope s_Grammar___init__) (by decide +kernel)) (fun i hi => .inl (fun e => by subst e; revert hi; decide)) (by decide) (fun _ _ _ _ _ => (eg_n (i := 3) (.inl (by decide)) sc_Grammar___init__.nd rfl (Or.inl rfl))) (fun _ _ _ _ _ => ets_nil) (fun _ _ _ _ _ => (ev_cB call_len pr_len (by rfl) A.T.b_len (by decide +kernel) (ea_cons (ev_nm (i := 3) rfl (by first | exact .inl rfl | exact .inr (.inl rfl) | exact .inr (.inr rfl))) ea_nil)))) ea_nil)) (ev_k (C8.pe_gc (by rfl) A.GC.g_MOST_LEVELS) (.int _)) (nomark _)) (es_one (es_raise (C := 4) (mkD := xd_TooMany) rfl (hr.mono (by decide)) (xk_TooMany A) rfl (rel2 (by decide) (by decide) (by decide) (by decide +kernel)) (by rfl) (ea_cons ev_str (ea_cons (ev_k (C8.pe_gc (by rfl) A.GC.g_MOST_LEVELS) (.int _)) ea_nil)))) es_nil)
  (es_cons (es_if (et_cmp op_gt pr_gt (ev_cB call_len pr_len (by rfl) A.T.b_len (by decide +kernel) (ea_cons (ev_nm (i := 2) rfl (by first | exact .inl rfl | exact .inr (.inl rfl) | exact .inr (.inr rfl))) ea_nil)) (ev_k (C8.pe_gc (by rfl) A.GC.g_MOST_COMMANDS) (.int _)) (nomark _)) (es_one (es_raise (C := 4) (mkD := xd_TooMany) rfl (hr.mono (by decide)) (xk_TooMany A) rfl (rel2 (by decide) (by decide) (by decide) (by decide +kernel)) (by rfl) (ea_cons ev_str (ea_cons (ev_k (C8.pe_gc (by rfl) A.GC.g_MOST_COMMANDS) (.int _)) ea_nil)))) es_nil)
  (es_cons (es_stf (i := 0) rfl (SameB.flo (B := Bc w K c) ⟨rfl, rfl, rfl, rfl, rfl, rfl⟩ (fl_own_top A)) rfl (by first | exact .inl rfl | exact .inr (.inl rfl) | exact .inr (.inr rfl)) (ev_nm (i := 1) rfl (by first | exact .inl rfl | exact .inr (.inl rfl) | exact .inr (.inr rfl))))
  (es_cons (es_stf (i := 0) rfl (SameB.flo (B := Bc w K c) ⟨rfl, rfl, rfl, rfl, rfl, rfl⟩ (fl_table A)) rfl (by first | exact .inl rfl | exact .inr (.inl rfl) | exact .inr (.inr rfl)) (ev_dn rfl (SameB.so (B := Bc w K c) ⟨rfl, rfl, rfl, rfl, rfl, rfl⟩ A.so) hr.units65 (own := [("path", 3)]) rfl sc_Grammar___init__.nd (ei_sq rfl (ev_nm (i := 2) rfl (by first | exact .inl rfl | exact .inr (.inl rfl) | exact .inr (.inr rfl)))) (blkOk_by (N := ["self", "top", "paths", "path", "above", "at", "option"]) (sc := defScope s_Grammar___init__) (by decide +kernel)) (fun i hi => .inl (fun e => by subst e; revert hi; decide)) (by decide) (fun _ _ _ _ _ => (eg_n (i := 3) (.inl (by decide)) sc_Grammar___init__.nd rfl (Or.inl rfl))) (fun _ _ _ _ _ => ets_nil) (fun _ _ _ _ _ => (ev_nm (i := 3) rfl (by first | exact .inl rfl | exact .inr (.inl rfl) | exact .inr (.inr rfl)))) (fun _ _ _ _ _ => (ev_cal (B := Bc w K c) ⟨rfl, rfl, rfl, rfl, rfl, rfl⟩ (cf_command_at_2 A) (hr.blk.mono (by decide)) (by rfl) (ea_cons (ev_nm (i := 1) rfl (by first | exact .inl rfl | exact .inr (.inl rfl) | exact .inr (.inr rfl))) (ea_cons (ev_nm (i := 3) rfl (by first | exact .inl rfl | exact .inr (.inl rfl) | exact .inr (.inr rfl))) ea_nil)) ek_nil))))
  (es_one (es_for hp rfl (ei_sq rfl (ev_nm (i := 2) rfl (by first | exact .inl rfl | exact .inr (.inl rfl) | exact .inr (.inr rfl)))) (eg_n (i := 3) (.inl (by decide)) sc_Grammar___init__.nd rfl (by first | exact Or.inl rfl | exact Or.inr rfl))
  (es_cons (es_setLc2 (keep := false) (i := 4) (own := [("at", 5), ("option", 6)]) (vs1 := [6]) (.inl (by decide)) rfl sc_Grammar___init__.nd rfl rfl (sw_true rfl rfl rfl (by decide +kernel)) (ei_rg1 (by rfl) A.T.b_range (ea_cons (ev_cB call_len pr_len (by rfl) A.T.b_len (by decide +kernel) (ea_cons (ev_nm (i := 3) rfl (by first | exact .inl rfl | exact .inr (.inl rfl) | exact .inr (.inr rfl))) ea_nil)) ea_nil)) (blkOk_by (N := ["self", "top", "paths", "path", "above", "at", "option"]) (sc := defScope s_Grammar___init__) (by decide +kernel)) (by decide) (fun i hi => .inl (fun e => by subst e; revert hi; decide)) (by decide) (by decide) (fun _ _ _ _ _ => (eg_n (i := 5) (.inl (by decide)) sc_Grammar___init__.nd rfl (Or.inl rfl))) (fun _ _ _ _ _ => ets_nil) (fun _ _ _ _ _ => (ei_sq rfl (ev_mth0 (B := Bc w K c) ⟨rfl, rfl, rfl, rfl, rfl, rfl⟩ (mo_options_1 A) (hr.blk.mono (by decide)) (ev_ix2 rfl (SameB.so (B := Bc w K c) ⟨rfl, rfl, rfl, rfl, rfl, rfl⟩ A.so) hr.units65 (ev_fl rfl (SameB.flo (B := Bc w K c) ⟨rfl, rfl, rfl, rfl, rfl, rfl⟩ (fl_table A)) (ev_nm (i := 0) rfl (by first | exact .inl rfl | exact .inr (.inl rfl) | exact .inr (.inr rfl)))) (ev_sl rfl (ev_nm (i := 3) rfl (by first | exact .inl rfl | exact .inr (.inl rfl) | exact .inr (.inr rfl))) eo_none (eo_some (ev_nm (i := 5) rfl (by first | exact .inl rfl | exact .inr (.inl rfl) | exact .inr (.inr rfl)))))) ek_nil))) (fun _ _ _ _ _ => (eg_n (i := 6) (.inl (by decide)) sc_Grammar___init__.nd rfl (Or.inl rfl))) (fun _ _ _ _ _ => ets_nil) (fun _ _ _ _ _ => (ev_fl rfl (SameB.flo (B := Bc w K c) ⟨rfl, rfl, rfl, rfl, rfl, rfl⟩ (fl_name A)) (ev_nm (i := 6) rfl (by first | exact .inl rfl | exact .inr (.inl rfl) | exact .inr (.inr rfl))))))
  (es_one (es_for hp rfl (ei_sq rfl (ev_mth0 (B := Bc w K c) ⟨rfl, rfl, rfl, rfl, rfl, rfl⟩ (mo_options_1 A) (hr.mono (by decide)) (ev_ix2 rfl (SameB.so (B := Bc w K c) ⟨rfl, rfl, rfl, rfl, rfl, rfl⟩ A.so) hr.units65 (ev_fl rfl (SameB.flo (B := Bc w K c) ⟨rfl, rfl, rfl, rfl, rfl, rfl⟩ (fl_table A)) (ev_nm (i := 0) rfl (by first | exact .inl rfl | exact .inr (.inl rfl) | exact .inr (.inr rfl)))) (ev_nm (i := 3) rfl (by first | exact .inl rfl | exact .inr (.inl rfl) | exact .inr (.inr rfl)))) ek_nil)) (eg_n (i := 6) (.inl (by decide)) sc_Grammar___init__.nd rfl (by first | exact Or.inl rfl | exact Or.inr rfl))
  (es_one (es_if (et_cmp (op_In hr.units65) pr_in (ev_fl rfl (SameB.flo (B := Bc w K c) ⟨rfl, rfl, rfl, rfl, rfl, rfl⟩ (fl_name A)) (ev_nm (i := 6) rfl (by first | exact .inl rfl | exact .inr (.inl rfl) | exact .inr (.inr rfl)))) (ev_nm (i := 4) rfl (by first | exact .inl rfl | exact .inr (.inl rfl) | exact .inr (.inr rfl))) (by rfl)) (es_one (es_raise (C := 3) (mkD := xd_DuplicateName) rfl (hr.mono (by decide)) (xk_DuplicateName A) rfl (rel1 (by decide) (by decide +kernel)) (by rfl) (ea_cons (ev_fl rfl (SameB.flo (B := Bc w K c) ⟨rfl, rfl, rfl, rfl, rfl, rfl⟩ (fl_name A)) (ev_nm (i := 6) rfl (by first | exact .inl rfl | exact .inr (.inl rfl) | exact .inr (.inr rfl)))) ea_nil))) es_nil))))))))))))
theorem mk_Grammar_1 (A : AllW w K mg c) : MkA P w K mg base (L2.CX P w) (17 + 1) "Grammar" ((Bc w K c).ad 2) [] (spI (Bc w K c) 2 (runF 1 [0] [] f_Grammar___init__)) :=
  ⟨⟨_, A.mk_Grammar, (form_init (n := 1) (ix := [0]) (dd := []) (o_Grammar___init__ (w := w) (base := base) A) (kbA fun kV doc pm an cdv ct us ws h1 h2 => match us, ws, h1, h2 with | [_, _], [], _, _ => rfl) (fun _ _ => .nil) rfl (by first | decide | exact (show ∀ i ∈ ([0] : List Nat), i < 1 by decide)))⟩, A.n_Grammar⟩
theorem mk_Grammar_0_top (A : AllW w K mg c) : MkA P w K mg base (L2.CX P w) (17 + 1) "Grammar" ((Bc w K c).ad 2) ["top"] (spI (Bc w K c) 2 (runF 0 [0] [] f_Grammar___init__)) :=
  ⟨⟨_, A.mk_Grammar, (form_init (n := 0) (ix := [0]) (dd := []) (o_Grammar___init__ (w := w) (base := base) A) (kbA fun kV doc pm an cdv ct us ws h1 h2 => match us, ws, h1, h2 with | [_], [_], _, _ => rfl) (fun _ _ => .nil) rfl (by first | decide | exact (show ∀ i ∈ ([0] : List Nat), i < 1 by decide)))⟩, A.n_Grammar⟩
theorem sc_Command___len__ : FnScope ["self"] ["self"] (defScope s_Command___len__) := ⟨rfl, rfl, rfl, by decide +kernel, rfl, by decide +kernel, by decide +kernel⟩
theorem o_Command___len__ (A : AllW w K mg c) : Fo P w K mg base (L2.CX P w) (17 + 1) "__len__" "Command.__len__" s_Command___len__ [] [] c.Command___len__ ["self"] (spB (Bc w K c) f_Command___len__ 1) :=
  fn_run (P := P) (w := w) (base := base) (B := Bc w K c) A.f_Command___len__ sc_Command___len__ rfl fun cdv A' outer s H E fd T hr hp =>
  (es_one (es_ret (ev_cB call_len pr_len (by rfl) A.T.b_len (by decide +kernel) (ea_cons (ev_cal (B := Bc w K c) ⟨rfl, rfl, rfl, rfl, rfl, rfl⟩ (cf_below_1 A) (hr.mono (by decide)) (by rfl) (ea_cons (ev_nm (i := 0) rfl (by first | exact .inl rfl | exact .inr (.inl rfl) | exact .inr (.inr rfl))) ea_nil) ek_nil) ea_nil))))
theorem sc_Grammar___len__ : FnScope ["self"] ["self"] (defScope s_Grammar___len__) := ⟨rfl, rfl, rfl, by decide +kernel, rfl, by decide +kernel, by decide +kernel⟩
theorem o_Grammar___len__ (A : AllW w K mg c) : Fo P w K mg base (L2.CX P w) (0 + 1) "__len__" "Grammar.__len__" s_Grammar___len__ [] [] c.Grammar___len__ ["self"] (spB (Bc w K c) f_Grammar___len__ 1) :=
  fn_run (P := P) (w := w) (base := base) (B := Bc w K c) A.f_Grammar___len__ sc_Grammar___len__ rfl fun cdv A' outer s H E fd T hr hp =>
  (es_one (es_ret (ev_cB (call_lenK (SameB.so (B := Bc w K c) ⟨rfl, rfl, rfl, rfl, rfl, rfl⟩ A.so)) pr_lenK (by rfl) A.T.b_len (by decide +kernel) (ea_cons (ev_fl rfl (SameB.flo (B := Bc w K c) ⟨rfl, rfl, rfl, rfl, rfl, rfl⟩ (fl_table A)) (ev_nm (i := 0) rfl (by first | exact .inl rfl | exact .inr (.inl rfl) | exact .inr (.inr rfl)))) ea_nil))))
/-! a recursion: _law_same -/
theorem sc__law_same : FnScope ["_law_found", "_law_due", "_law_k"] ["_law_found", "_law_due"] (defScope s__law_same) := ⟨rfl, rfl, rfl, by decide +kernel, rfl, by decide +kernel, by decide +kernel⟩
structure Rc_18 (w : World) (K : PySem.W.Frag) (mg : Str → Option Value) (base : Heap) (c : Cs) (n : Nat) : Prop where
  cf__law_same_2 : ClF P w K mg base (L2.CX P w) (0 + 2 * n) "_law_same" [] (spC (Bc w K c) (runF 2 [0, 1] [] (F_18 n 0)))
theorem o__law_same {n : Nat} (R : Rc_18 w K mg base c n) (A : AllW w K mg c) : ∃ f, mg "_law_same" = some (.ref f) ∧ PySem.W.keepIn K (.ref f) = true ∧ Fo P w K mg base (L2.CX P w) (0 + 2 * n + 1 + 1) "_law_same" "_law_same" s__law_same [] [] f ["_law_found", "_law_due"] (spB (Bc w K c) (runB 3 (b__law_same (F_18 n))) 2) := by
  obtain ⟨f, G⟩ := A.g__law_same
  exact ⟨f, G.mg, G.kp, fn_run (P := P) (w := w) (base := base) (B := Bc w K c) G.fd sc__law_same rfl fun cdv A' outer s H E fd T hr hp =>
  (es_cons (es_if (et_w (ew_or (et_cmp op_isN pr_isN (ev_nm (i := 1) rfl (by first | exact .inl rfl | exact .inr (.inl rfl) | exact .inr (.inr rfl))) ev_non (nomark _)) (ew_or1 (et_cmp op_isN pr_isN (ev_nm (i := 0) rfl (by first | exact .inl rfl | exact .inr (.inl rfl) | exact .inr (.inr rfl))) ev_non (nomark _))))) (es_one (es_ret (ev_and (ev_cmp op_isN pr_isN (ev_nm (i := 0) rfl (by first | exact .inl rfl | exact .inr (.inl rfl) | exact .inr (.inr rfl))) ev_non (nomark _)) (ev_one (ev_cmp op_isN pr_isN (ev_nm (i := 1) rfl (by first | exact .inl rfl | exact .inr (.inl rfl) | exact .inr (.inr rfl))) ev_non (nomark _)))))) es_nil)
  (es_cons (es_if (et_val (ev_isi2 (p1 := bList) (p2 := bTuple) rfl (SameB.tf (B := Bc w K c) ⟨rfl, rfl, rfl, rfl, rfl, rfl⟩ (tyf A)) (fun C fs h => by cases h) (ik_list) (ik_tuple) (.ty _) (.ty _) (by rfl) A.T.b_isinstance (ev_nm (i := 1) rfl (by first | exact .inl rfl | exact .inr (.inl rfl) | exact .inr (.inr rfl))) (pe_bltn (v := .ty "list") (by rfl) A.T.b_list (by decide +kernel) rfl) (pe_bltn (v := .ty "tuple") (by rfl) A.T.b_tuple (by decide +kernel) rfl))) (es_cons (es_if (et_cmp (op_neD hr.units) pr_ne (ev_isi (p := bList) rfl (SameB.tf (B := Bc w K c) ⟨rfl, rfl, rfl, rfl, rfl, rfl⟩ (tyf A)) (fun C fs h => by cases h) (ik_list) (.ty _) (by rfl) A.T.b_isinstance (ev_nm (i := 1) rfl (by first | exact .inl rfl | exact .inr (.inl rfl) | exact .inr (.inr rfl))) (pe_bltn (v := .ty "list") (by rfl) A.T.b_list (by decide +kernel) rfl)) (ev_isi (p := bList) rfl (SameB.tf (B := Bc w K c) ⟨rfl, rfl, rfl, rfl, rfl, rfl⟩ (tyf A)) (fun C fs h => by cases h) (ik_list) (.ty _) (by rfl) A.T.b_isinstance (ev_nm (i := 0) rfl (by first | exact .inl rfl | exact .inr (.inl rfl) | exact .inr (.inr rfl))) (pe_bltn (v := .ty "list") (by rfl) A.T.b_list (by decide +kernel) rfl)) (nomark _)) (es_one (es_ret ev_bl)) es_nil)
  (es_cons (es_if (et_cmp (op_neD hr.units) pr_ne (ev_isi (p := bTuple) rfl (SameB.tf (B := Bc w K c) ⟨rfl, rfl, rfl, rfl, rfl, rfl⟩ (tyf A)) (fun C fs h => by cases h) (ik_tuple) (.ty _) (by rfl) A.T.b_isinstance (ev_nm (i := 1) rfl (by first | exact .inl rfl | exact .inr (.inl rfl) | exact .inr (.inr rfl))) (pe_bltn (v := .ty "tuple") (by rfl) A.T.b_tuple (by decide +kernel) rfl)) (ev_isi (p := bTuple) rfl (SameB.tf (B := Bc w K c) ⟨rfl, rfl, rfl, rfl, rfl, rfl⟩ (tyf A)) (fun C fs h => by cases h) (ik_tuple) (.ty _) (by rfl) A.T.b_isinstance (ev_nm (i := 0) rfl (by first | exact .inl rfl | exact .inr (.inl rfl) | exact .inr (.inr rfl))) (pe_bltn (v := .ty "tuple") (by rfl) A.T.b_tuple (by decide +kernel) rfl)) (nomark _)) (es_one (es_ret ev_bl)) es_nil)
  (es_cons (es_if (et_cmp (op_neD hr.units) pr_ne (ev_cB call_len pr_len (by rfl) A.T.b_len (by decide +kernel) (ea_cons (ev_nm (i := 0) rfl (by first | exact .inl rfl | exact .inr (.inl rfl) | exact .inr (.inr rfl))) ea_nil)) (ev_cB call_len pr_len (by rfl) A.T.b_len (by decide +kernel) (ea_cons (ev_nm (i := 1) rfl (by first | exact .inl rfl | exact .inr (.inl rfl) | exact .inr (.inr rfl))) ea_nil)) (nomark _)) (es_one (es_ret ev_bl)) es_nil)
  (es_one (es_ret (ev_cB (cr_all rfl) pr_all (by rfl) A.T.b_all (by decide +kernel) (ea_cons (ev_lc (own := [("_law_k", 2)]) rfl sc__law_same.nd (ei_rg1 (by rfl) A.T.b_range (ea_cons (ev_cB call_len pr_len (by rfl) A.T.b_len (by decide +kernel) (ea_cons (ev_nm (i := 1) rfl (by first | exact .inl rfl | exact .inr (.inl rfl) | exact .inr (.inr rfl))) ea_nil)) ea_nil)) (blkOk_by (N := ["_law_found", "_law_due", "_law_k"]) (sc := defScope s__law_same) (by decide +kernel)) (fun _ _ => .inr rfl) (by decide) (fun _ _ _ _ _ => (eg_n (i := 2) (.inr rfl) sc__law_same.nd rfl (Or.inl rfl))) (fun _ _ _ _ _ => ets_nil) (fun _ _ _ _ _ => (ev_cal (B := Bc w K c) ⟨rfl, rfl, rfl, rfl, rfl, rfl⟩ R.cf__law_same_2 (hr.blk.mono (by omega)) (by rfl) (ea_cons (ev_ix rfl (ev_nm (i := 0) rfl (by first | exact .inl rfl | exact .inr (.inl rfl) | exact .inr (.inr rfl))) (ev_nm (i := 2) rfl (by first | exact .inl rfl | exact .inr (.inl rfl) | exact .inr (.inr rfl)))) (ea_cons (ev_ix rfl (ev_nm (i := 1) rfl (by first | exact .inl rfl | exact .inr (.inl rfl) | exact .inr (.inr rfl))) (ev_nm (i := 2) rfl (by first | exact .inl rfl | exact .inr (.inl rfl) | exact .inr (.inr rfl)))) ea_nil)) ek_nil))) ea_nil))))))) es_nil)
  (es_cons (es_if (et_val (ev_isi2 (p1 := bList) (p2 := bTuple) rfl (SameB.tf (B := Bc w K c) ⟨rfl, rfl, rfl, rfl, rfl, rfl⟩ (tyf A)) (fun C fs h => by cases h) (ik_list) (ik_tuple) (.ty _) (.ty _) (by rfl) A.T.b_isinstance (ev_nm (i := 0) rfl (by first | exact .inl rfl | exact .inr (.inl rfl) | exact .inr (.inr rfl))) (pe_bltn (v := .ty "list") (by rfl) A.T.b_list (by decide +kernel) rfl) (pe_bltn (v := .ty "tuple") (by rfl) A.T.b_tuple (by decide +kernel) rfl))) (es_one (es_ret ev_bl)) es_nil)
  (es_cons (es_if (et_cmp (op_neD hr.units) pr_ne (ev_isi (p := bBool) rfl (SameB.tf (B := Bc w K c) ⟨rfl, rfl, rfl, rfl, rfl, rfl⟩ (tyf A)) (fun C fs h => by cases h) (ik_bool) (.ty _) (by rfl) A.T.b_isinstance (ev_nm (i := 0) rfl (by first | exact .inl rfl | exact .inr (.inl rfl) | exact .inr (.inr rfl))) (pe_bltn (v := .ty "bool") (by rfl) A.T.b_bool (by decide +kernel) rfl)) (ev_isi (p := bBool) rfl (SameB.tf (B := Bc w K c) ⟨rfl, rfl, rfl, rfl, rfl, rfl⟩ (tyf A)) (fun C fs h => by cases h) (ik_bool) (.ty _) (by rfl) A.T.b_isinstance (ev_nm (i := 1) rfl (by first | exact .inl rfl | exact .inr (.inl rfl) | exact .inr (.inr rfl))) (pe_bltn (v := .ty "bool") (by rfl) A.T.b_bool (by decide +kernel) rfl)) (nomark _)) (es_one (es_ret ev_bl)) es_nil)
  (es_one (es_ret (ev_and (ev_cmp (op_eqD hr.units) pr_eq (ev_isi (p := bStr) rfl (SameB.tf (B := Bc w K c) ⟨rfl, rfl, rfl, rfl, rfl, rfl⟩ (tyf A)) (fun C fs h => by cases h) (ik_str) (.ty _) (by rfl) A.T.b_isinstance (ev_nm (i := 0) rfl (by first | exact .inl rfl | exact .inr (.inl rfl) | exact .inr (.inr rfl))) (pe_bltn (v := .ty "str") (by rfl) A.T.b_str (by decide +kernel) rfl)) (ev_isi (p := bStr) rfl (SameB.tf (B := Bc w K c) ⟨rfl, rfl, rfl, rfl, rfl, rfl⟩ (tyf A)) (fun C fs h => by cases h) (ik_str) (.ty _) (by rfl) A.T.b_isinstance (ev_nm (i := 1) rfl (by first | exact .inl rfl | exact .inr (.inl rfl) | exact .inr (.inr rfl))) (pe_bltn (v := .ty "str") (by rfl) A.T.b_str (by decide +kernel) rfl)) (nomark _)) (ev_one (ev_cmp (op_eqD hr.units) pr_eq (ev_nm (i := 0) rfl (by first | exact .inl rfl | exact .inr (.inl rfl) | exact .inr (.inr rfl))) (ev_nm (i := 1) rfl (by first | exact .inl rfl | exact .inr (.inl rfl) | exact .inr (.inr rfl))) (nomark _))))))))))⟩
theorem R_18 (A : AllW w K mg c) : ∀ n, Rc_18 w K mg base c n
  | 0 => ⟨(by obtain ⟨f, G⟩ := A.g__law_same; exact ⟨f, G.mg, G.kp, FnA.none (runF_fail fun _ => rfl)⟩)⟩
  | n + 1 => ⟨(by
    obtain ⟨f, h1, h2, o⟩ := o__law_same (R_18 A n) A
    exact ⟨f, h1, h2, (form_of (n := 2) (ix := [0, 1]) (dd := []) o (kbA fun kV doc pm an cdv ct us ws h1 h2 => match us, ws, h1, h2 with | [_, _], [], _, _ => rfl) (fun _ _ => .nil) rfl (by first | decide | exact (show ∀ i ∈ ([0, 1] : List Nat), i < 2 by decide)))⟩)⟩
theorem cf__law_same_2 (A : AllW w K mg c) : ClF P w K mg base (L2.CX P w) 16 "_law_same" [] (spC (Bc w K c) (runF 2 [0, 1] [] (F_18 8 0))) := (R_18 A 8).cf__law_same_2
theorem mo___len___1 (A : AllW w K mg c) : MtOk P w K mg base (Bc w K c) 18 "__len__" [] mt___len___1 :=
  ⟨fun C f h => match C, h with | 0, h => (by cases h) | 1, h => (by cases h; exact ⟨⟨⟨_, A.me_Command___len__, ((form_of (n := 1) (ix := [0]) (dd := []) (o_Command___len__ (w := w) (base := base) A) (kbA fun kV doc pm an cdv ct us ws h1 h2 => match us, ws, h1, h2 with | [_], [], _, _ => rfl) (fun _ _ => .nil) rfl (by first | decide | exact (show ∀ i ∈ ([0] : List Nat), i < 1 by decide)))).mono (by decide)⟩, A.cl_Command⟩, (show ("__len__" : Str) ∉ (["name", "own_options", "own_places", "own_parts", "own_rules"] : List Str) by decide +kernel)⟩) | 2, h => (by cases h; exact ⟨⟨⟨_, A.me_Grammar___len__, ((form_of (n := 1) (ix := [0]) (dd := []) (o_Grammar___len__ (w := w) (base := base) A) (kbA fun kV doc pm an cdv ct us ws h1 h2 => match us, ws, h1, h2 with | [_], [], _, _ => rfl) (fun _ _ => .nil) rfl (by first | decide | exact (show ∀ i ∈ ([0] : List Nat), i < 1 by decide)))).mono (by decide)⟩, A.cl_Grammar⟩, (show ("__len__" : Str) ∉ (["own_top", "table"] : List Str) by decide +kernel)⟩) | (_ + 3), h => (by cases h)⟩
theorem sc_law : FnScope ["_law_script", "_law_feed_here", "_law_abc", "_law_turn", "_law_names", "_law_one", "_law_two", "_law_low_z", "_law_deep", "_law_many", "_law_lots", "_law_k", "_law_wide", "_law_spot", "_law_rows", "_law_twice", "_law_near", "_law_asks", "_law_due", "_law_ask", "_law_row", "_law_both", "_law_full"] ["_law_script"] (defScope s_law) := ⟨rfl, rfl, rfl, by decide +kernel, rfl, by decide +kernel, by decide +kernel⟩
abbrev L_0 : Lam := lamOf (nvE 0 (nvSE ((nvSB false ((defBody s_law).getD 2 nvP)).getD 12 nvP)))
abbrev L_1 : Lam := lamOf (nvE 1 (nvSE ((nvSB false ((defBody s_law).getD 2 nvP)).getD 12 nvP)))
abbrev L_2 : Lam := lamOf (nvE 2 (nvSE ((nvSB false ((defBody s_law).getD 2 nvP)).getD 12 nvP)))
abbrev L_3 : Lam := lamOf (nvE 3 (nvSE ((nvSB false ((defBody s_law).getD 2 nvP)).getD 12 nvP)))
abbrev L_4 : Lam := lamOf (nvE 1 (nvE 0 (nvSE ((defBody s_law).getD 6 nvP))))
def lamL : LamL := fun j => match j with | 0 => some (L_0, false, te_0) | 1 => some (L_1, false, te_1) | 2 => some (L_2, false, te_2) | 3 => some (L_3, false, te_3) | 4 => some (L_4, false, te_4) | _ => none
theorem lamB_eq : (fun j => (lamL j).map Prod.snd) = lamB := by
  funext j
  match j with | 0 => rfl | 1 => rfl | 2 => rfl | 3 => rfl | 4 => rfl | (_ + 5) => rfl
abbrev lamRoom : Nat := 19
abbrev lawX (w : World) (K : PySem.W.Frag) (mg : Str → Option Value) (base : Heap) (cdv : Value) (A' : Around) (outer : List Env) (s : Shared) (H : Hp) (E : XK) (f : Addr) : Cx := (cxOf CX0 P w K mg base ["_law_script", "_law_feed_here", "_law_abc", "_law_turn", "_law_names", "_law_one", "_law_two", "_law_low_z", "_law_deep", "_law_many", "_law_lots", "_law_k", "_law_wide", "_law_spot", "_law_rows", "_law_twice", "_law_near", "_law_asks", "_law_due", "_law_ask", "_law_row", "_law_both", "_law_full"] "law" (defScope s_law) f cdv A' outer s H E).nox
theorem lok_0 (A : AllW w K mg c) (cdv : Value) (A' : Around) (outer : List Env) (s : Shared) (H : Hp) (E : XK) (f : Addr) (fd : Fdx) : LamOk (lawX w K mg base cdv A' outer s H E f) lamRoom L_0 (rdL ((Bc w K c).wf fd) te_0) :=
  lam_ok (LamX.lamS_by (sc := defScope s_law) (scope := L_0.scope) (by decide +kernel)) rfl (fun q cl pm cv ctv => rfl) fun A2 outer2 s2 H2 E2 f2 c2 T2 He2 hr => (ev_new (C := 2) (B := Bc w K c) ⟨rfl, rfl, rfl, rfl, rfl, rfl⟩ (mk_Grammar_1 A) (hr.mono (by decide)) (by rfl) (ea_cons (ev_nm (i := 8) rfl (by first | exact .inl rfl | exact .inr (.inl rfl) | exact .inr (.inr rfl))) ea_nil) ek_nil)
theorem lok_1 (A : AllW w K mg c) (cdv : Value) (A' : Around) (outer : List Env) (s : Shared) (H : Hp) (E : XK) (f : Addr) (fd : Fdx) : LamOk (lawX w K mg base cdv A' outer s H E f) lamRoom L_1 (rdL ((Bc w K c).wf fd) te_1) :=
  lam_okD rfl (lamP_by (N := ["_law_script", "_law_feed_here", "_law_abc", "_law_turn", "_law_names", "_law_one", "_law_two", "_law_low_z", "_law_deep", "_law_many", "_law_lots", "_law_k", "_law_wide", "_law_spot", "_law_rows", "_law_twice", "_law_near", "_law_asks", "_law_due", "_law_ask", "_law_row", "_law_both", "_law_full"]) (sc := defScope s_law) (scope := L_1.scope) (pa := "_law_a") (by decide +kernel)) (fun _ _ _ _ _ _ _ _ => ⟨_, rfl, rfl⟩) fun A2 outer2 s2 H2 E2 f2 c2 T2 He2 hr => (ev_new (C := 2) (B := Bc w K c) ⟨rfl, rfl, rfl, rfl, rfl, rfl⟩ (mk_Grammar_1 A) (hr.mono (by decide)) (by rfl) (ea_cons (ev_nm (i := 12) rfl (by first | exact .inl rfl | exact .inr (.inl rfl) | exact .inr (.inr rfl))) ea_nil) ek_nil)
theorem lok_2 (A : AllW w K mg c) (cdv : Value) (A' : Around) (outer : List Env) (s : Shared) (H : Hp) (E : XK) (f : Addr) (fd : Fdx) : LamOk (lawX w K mg base cdv A' outer s H E f) lamRoom L_2 (rdL ((Bc w K c).wf fd) te_2) :=
  lam_okD rfl (lamP_by (N := ["_law_script", "_law_feed_here", "_law_abc", "_law_turn", "_law_names", "_law_one", "_law_two", "_law_low_z", "_law_deep", "_law_many", "_law_lots", "_law_k", "_law_wide", "_law_spot", "_law_rows", "_law_twice", "_law_near", "_law_asks", "_law_due", "_law_ask", "_law_row", "_law_both", "_law_full"]) (sc := defScope s_law) (scope := L_2.scope) (pa := "_law_b") (by decide +kernel)) (fun _ _ _ _ _ _ _ _ => ⟨_, rfl, rfl⟩) fun A2 outer2 s2 H2 E2 f2 c2 T2 He2 hr => (ev_new (C := 2) (B := Bc w K c) ⟨rfl, rfl, rfl, rfl, rfl, rfl⟩ (mk_Grammar_1 A) (hr.mono (by decide)) (by rfl) (ea_cons (ev_nm (i := 15) rfl (by first | exact .inl rfl | exact .inr (.inl rfl) | exact .inr (.inr rfl))) ea_nil) ek_nil)
theorem lok_3 (A : AllW w K mg c) (cdv : Value) (A' : Around) (outer : List Env) (s : Shared) (H : Hp) (E : XK) (f : Addr) (fd : Fdx) : LamOk (lawX w K mg base cdv A' outer s H E f) lamRoom L_3 (rdL ((Bc w K c).wf fd) te_3) :=
  lam_okD rfl (lamP_by (N := ["_law_script", "_law_feed_here", "_law_abc", "_law_turn", "_law_names", "_law_one", "_law_two", "_law_low_z", "_law_deep", "_law_many", "_law_lots", "_law_k", "_law_wide", "_law_spot", "_law_rows", "_law_twice", "_law_near", "_law_asks", "_law_due", "_law_ask", "_law_row", "_law_both", "_law_full"]) (sc := defScope s_law) (scope := L_3.scope) (pa := "_law_c") (by decide +kernel)) (fun _ _ _ _ _ _ _ _ => ⟨_, rfl, rfl⟩) fun A2 outer2 s2 H2 E2 f2 c2 T2 He2 hr => (ev_lenI (B := Bc w K c) ⟨rfl, rfl, rfl, rfl, rfl, rfl⟩ (mo___len___1 A) (hr.mono (by decide)) (by rfl) A.T.b_len (ev_new0 (C := 2) (B := Bc w K c) ⟨rfl, rfl, rfl, rfl, rfl, rfl⟩ (mk_Grammar_0_top A) (hr.mono (by decide)) (by rfl) (ek_cons (ev_nm (i := 16) rfl (by first | exact .inl rfl | exact .inr (.inl rfl) | exact .inr (.inr rfl))) ek_nil)))
theorem lok_4 (A : AllW w K mg c) (cdv : Value) (A' : Around) (outer : List Env) (s : Shared) (H : Hp) (E : XK) (f : Addr) (fd : Fdx) : LamOk (lawX w K mg base cdv A' outer s H E f) lamRoom L_4 (rdL ((Bc w K c).wf fd) te_4) :=
  lam_ok (LamX.lamS_by (sc := defScope s_law) (scope := L_4.scope) (by decide +kernel)) rfl (fun q cl pm cv ctv => rfl) fun A2 outer2 s2 H2 E2 f2 c2 T2 He2 hr => (ev_new (C := 2) (B := Bc w K c) ⟨rfl, rfl, rfl, rfl, rfl, rfl⟩ (mk_Grammar_1 A) (hr.mono (by decide)) (by rfl) (ea_cons (ev_nm (i := 21) rfl (by first | exact .inl rfl | exact .inr (.inl rfl) | exact .inr (.inr rfl))) ea_nil) ek_nil)
theorem d_law_ok (A : AllW w K mg c) (cdv : Value) (A' : Around) (outer : List Env) (s : Shared) (H He : Hp) (E : XK) (f : Addr) (fd : Fdx) (T : List Addr) (hr : Room 21 (A'.deeper (envOfC "law" (defScope s_law) s.heap.objs.size f cdv))) (lf : LawFd (lawX w K mg base cdv A' outer s H E f) ((Bc w K c).wf fd) T lamL) :
  ESs (cxOf CX0 P w K mg base ["_law_script", "_law_feed_here", "_law_abc", "_law_turn", "_law_names", "_law_one", "_law_two", "_law_low_z", "_law_deep", "_law_many", "_law_lots", "_law_k", "_law_wide", "_law_spot", "_law_rows", "_law_twice", "_law_near", "_law_asks", "_law_due", "_law_ask", "_law_row", "_law_both", "_law_full"] "law" (defScope s_law) f cdv A' outer s H E).nox ((Bc w K c).wf fd) XN T He (defBody s_law).tail b_law := by
  have hr : RT 21 (cxOf CX0 P w K mg base ["_law_script", "_law_feed_here", "_law_abc", "_law_turn", "_law_names", "_law_one", "_law_two", "_law_low_z", "_law_deep", "_law_many", "_law_lots", "_law_k", "_law_wide", "_law_spot", "_law_rows", "_law_twice", "_law_near", "_law_asks", "_law_due", "_law_ask", "_law_row", "_law_both", "_law_full"] "law" (defScope s_law) f cdv A' outer s H E).nox XN := ⟨hr, takesN⟩
  have lok : ∀ j L tt te, lamL j = some (L, tt, te) → LamOk (lawX w K mg base cdv A' outer s H E f) lamRoom L (rdL ((Bc w K c).wf fd) te) := fun j L tt te h => match j, h with | 0, h => by cases h; exact lok_0 A cdv A' outer s H E f fd | 1, h => by cases h; exact lok_1 A cdv A' outer s H E f fd | 2, h => by cases h; exact lok_2 A cdv A' outer s H E f fd | 3, h => by cases h; exact lok_3 A cdv A' outer s H E f fd | 4, h => by cases h; exact lok_4 A cdv A' outer s H E f fd | (_ + 5), h => by cases h
  exact (es_cons (es_set (keep := false) (i := 2) (.inr rfl) sc_law.nd rfl (by first | exact Or.inl rfl | exact Or.inr rfl) ev_str)
  (es_cons (es_for PassesOwn.never rfl (ei_rg1 (by rfl) A.T.b_range (ea_cons ev_int ea_nil)) (eg_n (i := 3) (.inr rfl) sc_law.nd rfl (by first | exact Or.inl rfl | exact Or.inr rfl))
  (es_cons (es_set (keep := false) (i := 4) (.inr rfl) sc_law.nd rfl (by first | exact Or.inl rfl | exact Or.inr rfl) (ev_cal (B := Bc w K c) ⟨rfl, rfl, rfl, rfl, rfl, rfl⟩ (cf__law_dashes_2 A) (hr.mono (by decide)) (by rfl) (ea_cons (ev_nm (i := 1) rfl (by first | exact .inl rfl | exact .inr (.inl rfl) | exact .inr (.inr rfl))) (ea_cons ev_int ea_nil)) ek_nil))
  (es_cons (es_setT (ev_tup (ea_cons (ev_new (C := 0) (B := Bc w K c) ⟨rfl, rfl, rfl, rfl, rfl, rfl⟩ (mk_Option_1 A) (hr.mono (by decide)) (by rfl) (ea_cons (ev_ix rfl (ev_nm (i := 4) rfl (by first | exact .inl rfl | exact .inr (.inl rfl) | exact .inr (.inr rfl))) ev_int) ea_nil) ek_nil) (ea_cons (ev_new (C := 0) (B := Bc w K c) ⟨rfl, rfl, rfl, rfl, rfl, rfl⟩ (mk_Option_1 A) (hr.mono (by decide)) (by rfl) (ea_cons (ev_ix rfl (ev_nm (i := 4) rfl (by first | exact .inl rfl | exact .inr (.inl rfl) | exact .inr (.inr rfl))) ev_int) ea_nil) ek_nil) ea_nil))) (eg_t (is := [5, 6]) (fun _ _ => .inr rfl) rfl rfl (egs_cons (i := 5) sc_law.nd rfl (by first | exact Or.inl rfl | exact Or.inr rfl) (egs_cons (i := 6) sc_law.nd rfl (by first | exact Or.inl rfl | exact Or.inr rfl) egs_nil))))
  (es_cons (es_set (keep := false) (i := 7) (.inr rfl) sc_law.nd rfl (by first | exact Or.inl rfl | exact Or.inr rfl) (ev_new (C := 1) (B := Bc w K c) ⟨rfl, rfl, rfl, rfl, rfl, rfl⟩ (mk_Command_1_options A) (hr.mono (by decide)) (by rfl) (ea_cons ev_str ea_nil) (ek_cons (ev_lst (ea_cons (ev_nm (i := 6) rfl (by first | exact .inl rfl | exact .inr (.inl rfl) | exact .inr (.inr rfl))) (ea_cons (ev_nm (i := 5) rfl (by first | exact .inl rfl | exact .inr (.inl rfl) | exact .inr (.inr rfl))) ea_nil))) ek_nil)))
  (es_cons (es_set (keep := false) (i := 8) (.inr rfl) sc_law.nd rfl (by first | exact Or.inl rfl | exact Or.inr rfl) (ev_new (C := 1) (B := Bc w K c) ⟨rfl, rfl, rfl, rfl, rfl, rfl⟩ (mk_Command_1_parts_options A) (hr.mono (by decide)) (by rfl) (ea_cons ev_str ea_nil) (ek_cons (ev_lst (ea_cons (ev_new (C := 1) (B := Bc w K c) ⟨rfl, rfl, rfl, rfl, rfl, rfl⟩ (mk_Command_1_parts A) (hr.mono (by decide)) (by rfl) (ea_cons ev_str ea_nil) (ek_cons (ev_lst (ea_cons (ev_new (C := 1) (B := Bc w K c) ⟨rfl, rfl, rfl, rfl, rfl, rfl⟩ (mk_Command_1_parts A) (hr.mono (by decide)) (by rfl) (ea_cons ev_str ea_nil) (ek_cons (ev_lst (ea_cons (ev_nm (i := 7) rfl (by first | exact .inl rfl | exact .inr (.inl rfl) | exact .inr (.inr rfl))) ea_nil)) ek_nil)) ea_nil)) ek_nil)) ea_nil)) (ek_cons (ev_lst (ea_cons (ev_nm (i := 5) rfl (by first | exact .inl rfl | exact .inr (.inl rfl) | exact .inr (.inr rfl))) ea_nil)) ek_nil))))
  (es_cons (es_set (keep := false) (i := 9) (.inr rfl) sc_law.nd rfl (by first | exact Or.inl rfl | exact Or.inr rfl) (ev_bin op_Add pr_add ev_int (ev_cal (B := Bc w K c) ⟨rfl, rfl, rfl, rfl, rfl, rfl⟩ (cf__law_take_2 A) (hr.mono (by decide)) (by rfl) (ea_cons (ev_nm (i := 1) rfl (by first | exact .inl rfl | exact .inr (.inl rfl) | exact .inr (.inr rfl))) (ea_cons ev_int ea_nil)) ek_nil)))
  (es_cons (es_setLc (keep := false) (i := 10) (own := [("_law_k", 11)]) (.inr rfl) rfl sc_law.nd rfl rfl (sw_true rfl rfl rfl (by decide +kernel)) (ei_rg1 (by rfl) A.T.b_range (ea_cons (ev_nm (i := 9) rfl (by first | exact .inl rfl | exact .inr (.inl rfl) | exact .inr (.inr rfl))) ea_nil)) (blkOk_by (N := ["_law_script", "_law_feed_here", "_law_abc", "_law_turn", "_law_names", "_law_one", "_law_two", "_law_low_z", "_law_deep", "_law_many", "_law_lots", "_law_k", "_law_wide", "_law_spot", "_law_rows", "_law_twice", "_law_near", "_law_asks", "_law_due", "_law_ask", "_law_row", "_law_both", "_law_full"]) (sc := defScope s_law) (by decide +kernel)) (fun _ _ => .inr rfl) (by decide) (fun _ _ _ _ _ => (eg_n (i := 11) (.inr rfl) sc_law.nd rfl (Or.inl rfl))) (fun _ _ _ _ _ => ets_nil) (fun _ _ _ _ _ => (ev_new (C := 1) (B := Bc w K c) ⟨rfl, rfl, rfl, rfl, rfl, rfl⟩ (mk_Command_1_options A) (hr.blk.mono (by decide)) (by rfl) (ea_cons (ev_ix rfl (ev_nm (i := 2) rfl (by first | exact .inl rfl | exact .inr (.inl rfl) | exact .inr (.inr rfl))) (ev_nm (i := 11) rfl (by first | exact .inl rfl | exact .inr (.inl rfl) | exact .inr (.inr rfl)))) ea_nil) (ek_cons (ev_lst (ea_cons (ev_nm (i := 5) rfl (by first | exact .inl rfl | exact .inr (.inl rfl) | exact .inr (.inr rfl))) ea_nil)) ek_nil))))
  (es_cons (es_set (keep := false) (i := 12) (.inr rfl) sc_law.nd rfl (by first | exact Or.inl rfl | exact Or.inr rfl) (ev_new (C := 1) (B := Bc w K c) ⟨rfl, rfl, rfl, rfl, rfl, rfl⟩ (mk_Command_1_parts A) (hr.mono (by decide)) (by rfl) (ea_cons ev_str ea_nil) (ek_cons (ev_lst (ea_cons (ev_new (C := 1) (B := Bc w K c) ⟨rfl, rfl, rfl, rfl, rfl, rfl⟩ (mk_Command_1_parts A) (hr.mono (by decide)) (by rfl) (ea_cons ev_str ea_nil) (ek_cons (ev_nm (i := 10) rfl (by first | exact .inl rfl | exact .inr (.inl rfl) | exact .inr (.inr rfl))) ek_nil)) (ea_cons (ev_new (C := 1) (B := Bc w K c) ⟨rfl, rfl, rfl, rfl, rfl, rfl⟩ (mk_Command_1_parts A) (hr.mono (by decide)) (by rfl) (ea_cons ev_str ea_nil) (ek_cons (ev_nm (i := 10) rfl (by first | exact .inl rfl | exact .inr (.inl rfl) | exact .inr (.inr rfl))) ek_nil)) ea_nil))) ek_nil)))
  (es_cons (es_set (keep := false) (i := 13) (.inr rfl) sc_law.nd rfl (by first | exact Or.inl rfl | exact Or.inr rfl) (ev_cal (B := Bc w K c) ⟨rfl, rfl, rfl, rfl, rfl, rfl⟩ (cf__law_take_2 A) (hr.mono (by decide)) (by rfl) (ea_cons (ev_nm (i := 1) rfl (by first | exact .inl rfl | exact .inr (.inl rfl) | exact .inr (.inr rfl))) (ea_cons ev_int ea_nil)) ek_nil))
  (es_cons (es_setLc (keep := false) (i := 14) (own := [("_law_k", 11)]) (.inr rfl) rfl sc_law.nd rfl rfl (sw_true rfl rfl rfl (by decide +kernel)) (ei_rg1 (by rfl) A.T.b_range (ea_cons (ev_nm (i := 13) rfl (by first | exact .inl rfl | exact .inr (.inl rfl) | exact .inr (.inr rfl))) ea_nil)) (blkOk_by (N := ["_law_script", "_law_feed_here", "_law_abc", "_law_turn", "_law_names", "_law_one", "_law_two", "_law_low_z", "_law_deep", "_law_many", "_law_lots", "_law_k", "_law_wide", "_law_spot", "_law_rows", "_law_twice", "_law_near", "_law_asks", "_law_due", "_law_ask", "_law_row", "_law_both", "_law_full"]) (sc := defScope s_law) (by decide +kernel)) (fun _ _ => .inr rfl) (by decide) (fun _ _ _ _ _ => (eg_n (i := 11) (.inr rfl) sc_law.nd rfl (Or.inl rfl))) (fun _ _ _ _ _ => ets_nil) (fun _ _ _ _ _ => (ev_new (C := 1) (B := Bc w K c) ⟨rfl, rfl, rfl, rfl, rfl, rfl⟩ (mk_Command_1_options A) (hr.blk.mono (by decide)) (by rfl) (ea_cons (ev_ix rfl (ev_nm (i := 2) rfl (by first | exact .inl rfl | exact .inr (.inl rfl) | exact .inr (.inr rfl))) (ev_nm (i := 11) rfl (by first | exact .inl rfl | exact .inr (.inl rfl) | exact .inr (.inr rfl)))) ea_nil) (ek_cons (ev_lst (ea_cons (ev_nm (i := 6) rfl (by first | exact .inl rfl | exact .inr (.inl rfl) | exact .inr (.inr rfl))) ea_nil)) ek_nil))))
  (es_cons (es_set (keep := false) (i := 14) (.inr rfl) sc_law.nd rfl (by first | exact Or.inl rfl | exact Or.inr rfl) (ev_bin op_Add pr_add (ev_nm (i := 14) rfl (by first | exact .inl rfl | exact .inr (.inl rfl) | exact .inr (.inr rfl))) (ev_lst (ea_cons (ev_new (C := 1) (B := Bc w K c) ⟨rfl, rfl, rfl, rfl, rfl, rfl⟩ (mk_Command_1_parts_options A) (hr.mono (by decide)) (by rfl) (ea_cons ev_str ea_nil) (ek_cons (ev_lst (ea_cons (ev_nm (i := 7) rfl (by first | exact .inl rfl | exact .inr (.inl rfl) | exact .inr (.inr rfl))) ea_nil)) (ek_cons (ev_lst (ea_cons (ev_new (C := 0) (B := Bc w K c) ⟨rfl, rfl, rfl, rfl, rfl, rfl⟩ (mk_Option_1 A) (hr.mono (by decide)) (by rfl) (ea_cons (ev_ix rfl (ev_nm (i := 4) rfl (by first | exact .inl rfl | exact .inr (.inl rfl) | exact .inr (.inr rfl))) ev_int) ea_nil) ek_nil) ea_nil)) ek_nil))) ea_nil))))
  (es_cons (es_set (keep := false) (i := 15) (.inr rfl) sc_law.nd rfl (by first | exact Or.inl rfl | exact Or.inr rfl) (ev_new (C := 1) (B := Bc w K c) ⟨rfl, rfl, rfl, rfl, rfl, rfl⟩ (mk_Command_1_parts_options A) (hr.mono (by decide)) (by rfl) (ea_cons ev_str ea_nil) (ek_cons (ev_nm (i := 14) rfl (by first | exact .inl rfl | exact .inr (.inl rfl) | exact .inr (.inr rfl))) (ek_cons (ev_lst (ea_cons (ev_nm (i := 5) rfl (by first | exact .inl rfl | exact .inr (.inl rfl) | exact .inr (.inr rfl))) ea_nil)) ek_nil))))
  (es_cons (es_set (keep := false) (i := 16) (.inr rfl) sc_law.nd rfl (by first | exact Or.inl rfl | exact Or.inr rfl) (ev_new (C := 1) (B := Bc w K c) ⟨rfl, rfl, rfl, rfl, rfl, rfl⟩ (mk_Command_1_parts A) (hr.mono (by decide)) (by rfl) (ea_cons ev_str ea_nil) (ek_cons (ev_lst (ea_cons (ev_new (C := 1) (B := Bc w K c) ⟨rfl, rfl, rfl, rfl, rfl, rfl⟩ (mk_Command_1_options A) (hr.mono (by decide)) (by rfl) (ea_cons ev_str ea_nil) (ek_cons (ev_lst (ea_cons (ev_nm (i := 5) rfl (by first | exact .inl rfl | exact .inr (.inl rfl) | exact .inr (.inr rfl))) (ea_cons (ev_nm (i := 6) rfl (by first | exact .inl rfl | exact .inr (.inl rfl) | exact .inr (.inr rfl))) ea_nil))) ek_nil)) (ea_cons (ev_new (C := 1) (B := Bc w K c) ⟨rfl, rfl, rfl, rfl, rfl, rfl⟩ (mk_Command_1_options A) (hr.mono (by decide)) (by rfl) (ea_cons ev_str ea_nil) (ek_cons (ev_lst (ea_cons (ev_nm (i := 5) rfl (by first | exact .inl rfl | exact .inr (.inl rfl) | exact .inr (.inr rfl))) ea_nil)) ek_nil)) ea_nil))) ek_nil)))
  (es_cons (es_set (keep := false) (i := 17) (.inr rfl) sc_law.nd rfl (by first | exact Or.inl rfl | exact Or.inr rfl) (ev_lst (ea_cons (ev_lamL (j := 0) (L := L_0) (tt := false) (te := te_0) lf rfl rfl rfl (LamX.lamS_by (sc := defScope s_law) (scope := L_0.scope) (by decide +kernel))) (ea_cons (ev_lamLD (j := 1) (L := L_1) (tt := false) (te := te_1) lf rfl rfl rfl rfl (lamP_by (N := ["_law_script", "_law_feed_here", "_law_abc", "_law_turn", "_law_names", "_law_one", "_law_two", "_law_low_z", "_law_deep", "_law_many", "_law_lots", "_law_k", "_law_wide", "_law_spot", "_law_rows", "_law_twice", "_law_near", "_law_asks", "_law_due", "_law_ask", "_law_row", "_law_both", "_law_full"]) (sc := defScope s_law) (scope := L_1.scope) (pa := "_law_a") (by decide +kernel))) (ea_cons (ev_lamLD (j := 2) (L := L_2) (tt := false) (te := te_2) lf rfl rfl rfl rfl (lamP_by (N := ["_law_script", "_law_feed_here", "_law_abc", "_law_turn", "_law_names", "_law_one", "_law_two", "_law_low_z", "_law_deep", "_law_many", "_law_lots", "_law_k", "_law_wide", "_law_spot", "_law_rows", "_law_twice", "_law_near", "_law_asks", "_law_due", "_law_ask", "_law_row", "_law_both", "_law_full"]) (sc := defScope s_law) (scope := L_2.scope) (pa := "_law_b") (by decide +kernel))) (ea_cons (ev_lamLD (j := 3) (L := L_3) (tt := false) (te := te_3) lf rfl rfl rfl rfl (lamP_by (N := ["_law_script", "_law_feed_here", "_law_abc", "_law_turn", "_law_names", "_law_one", "_law_two", "_law_low_z", "_law_deep", "_law_many", "_law_lots", "_law_k", "_law_wide", "_law_spot", "_law_rows", "_law_twice", "_law_near", "_law_asks", "_law_due", "_law_ask", "_law_row", "_law_both", "_law_full"]) (sc := defScope s_law) (scope := L_3.scope) (pa := "_law_c") (by decide +kernel))) ea_nil))))))
  (es_cons (es_set (keep := true) (i := 18) (.inr rfl) sc_law.nd rfl (by first | exact Or.inl rfl | exact Or.inr rfl) (ev_lst (ea_cons (ev_tup (ea_cons ev_str (ea_cons (ev_tup (ea_cons ev_str (ea_cons ev_int ea_nil))) ea_nil))) (ea_cons (ev_tup (ea_cons ev_str (ea_cons (ev_tup (ea_cons ev_str (ea_cons ev_int ea_nil))) ea_nil))) (ea_cons (ev_tup (ea_cons ev_str (ea_cons (ev_ix rfl (ev_nm (i := 4) rfl (by first | exact .inl rfl | exact .inr (.inl rfl) | exact .inr (.inr rfl))) ev_int) ea_nil))) (ea_cons (ev_tup (ea_cons ev_str (ea_cons ev_int ea_nil))) ea_nil))))))
  (es_cons (es_if (et_cmp (op_eqD hr.units) pr_eq (ev_nm (i := 9) rfl (by first | exact .inl rfl | exact .inr (.inl rfl) | exact .inr (.inr rfl))) ev_int (nomark _)) (es_one (es_sti (i := 18) (k := 1) rfl (by first | exact .inl rfl | exact .inr (.inl rfl) | exact .inr (.inr rfl)) (ev_if (et_cmp op_gt pr_gt (ev_bin op_Add pr_add (ev_bin op_Add pr_add ev_int ev_int) (ev_bin op_Mul pr_mul ev_int (ev_nm (i := 9) rfl (by first | exact .inl rfl | exact .inr (.inl rfl) | exact .inr (.inr rfl))))) ev_int (nomark _)) (ev_tup (ea_cons ev_str (ea_cons (ev_tup (ea_cons ev_str (ea_cons ev_int ea_nil))) ea_nil))) (ev_tup (ea_cons ev_str (ea_cons ev_non ea_nil)))))) es_nil)
  (es_one (es_if (et_not (et_val (ev_cal (B := Bc w K c) ⟨rfl, rfl, rfl, rfl, rfl, rfl⟩ (cf__law_same_2 A) (hr.mono (by decide)) (by rfl) (ea_cons (ev_lcTry (k := lamRoom) (i := 19) (own := [("_law_ask", 19)]) A.d__law_try sc__law_try rfl (.inl rfl) (fun kV doc pm an cdv ct us hl => match us, hl with | [_], _ => rfl) (fun gf cdv => gv__law_try A _ rfl rfl gf cdv) rfl (by decide) (hnd_ok A fd) rfl (hr.mono (by decide)) lf lok lamB_eq rfl sc_law.nd (ei_sq rfl (ev_nm (i := 17) rfl (by first | exact .inl rfl | exact .inr (.inl rfl) | exact .inr (.inr rfl)))) (blkOk_by (N := ["_law_script", "_law_feed_here", "_law_abc", "_law_turn", "_law_names", "_law_one", "_law_two", "_law_low_z", "_law_deep", "_law_many", "_law_lots", "_law_k", "_law_wide", "_law_spot", "_law_rows", "_law_twice", "_law_near", "_law_asks", "_law_due", "_law_ask", "_law_row", "_law_both", "_law_full"]) (sc := defScope s_law) (by decide +kernel)) rfl (by decide) (fun _ _ => rfl) (fun _ _ => rfl)) (ea_cons (ev_nm (i := 18) rfl (by first | exact .inl rfl | exact .inr (.inl rfl) | exact .inr (.inr rfl))) ea_nil)) ek_nil))) (es_one (es_ret ev_bl)) es_nil))))))))))))))))))
  (es_cons (es_setLc (keep := false) (i := 20) (own := [("_law_one", 5)]) (.inr rfl) rfl sc_law.nd rfl rfl (sw_true rfl rfl rfl (by decide +kernel)) (ei_str ev_str) (blkOk_by (N := ["_law_script", "_law_feed_here", "_law_abc", "_law_turn", "_law_names", "_law_one", "_law_two", "_law_low_z", "_law_deep", "_law_many", "_law_lots", "_law_k", "_law_wide", "_law_spot", "_law_rows", "_law_twice", "_law_near", "_law_asks", "_law_due", "_law_ask", "_law_row", "_law_both", "_law_full"]) (sc := defScope s_law) (by decide +kernel)) (fun _ _ => .inr rfl) (by decide) (fun _ _ _ _ _ => (eg_n (i := 5) (.inr rfl) sc_law.nd rfl (Or.inl rfl))) (fun _ _ _ _ _ => ets_nil) (fun _ _ _ _ _ => (ev_new (C := 1) (B := Bc w K c) ⟨rfl, rfl, rfl, rfl, rfl, rfl⟩ (mk_Command_1 A) (hr.blk.mono (by decide)) (by rfl) (ea_cons (ev_nm (i := 5) rfl (by first | exact .inl rfl | exact .inr (.inl rfl) | exact .inr (.inr rfl))) ea_nil) ek_nil)))
  (es_cons (es_set (keep := false) (i := 7) (.inr rfl) sc_law.nd rfl (by first | exact Or.inl rfl | exact Or.inr rfl) (ev_new (C := 1) (B := Bc w K c) ⟨rfl, rfl, rfl, rfl, rfl, rfl⟩ (mk_Command_1_parts A) (hr.mono (by decide)) (by rfl) (ea_cons ev_str ea_nil) (ek_cons (ev_lst (ea_cons (ev_new (C := 1) (B := Bc w K c) ⟨rfl, rfl, rfl, rfl, rfl, rfl⟩ (mk_Command_1_parts A) (hr.mono (by decide)) (by rfl) (ea_cons ev_str ea_nil) (ek_cons (ev_lst (ea_cons (ev_new (C := 1) (B := Bc w K c) ⟨rfl, rfl, rfl, rfl, rfl, rfl⟩ (mk_Command_1_parts A) (hr.mono (by decide)) (by rfl) (ea_cons ev_str ea_nil) (ek_cons (ev_lst (ea_cons (ev_new (C := 1) (B := Bc w K c) ⟨rfl, rfl, rfl, rfl, rfl, rfl⟩ (mk_Command_1 A) (hr.mono (by decide)) (by rfl) (ea_cons ev_str ea_nil) ek_nil) ea_nil)) ek_nil)) ea_nil)) ek_nil)) ea_nil)) ek_nil)))
  (es_cons (es_set (keep := false) (i := 21) (.inr rfl) sc_law.nd rfl (by first | exact Or.inl rfl | exact Or.inr rfl) (ev_new (C := 1) (B := Bc w K c) ⟨rfl, rfl, rfl, rfl, rfl, rfl⟩ (mk_Command_1_parts A) (hr.mono (by decide)) (by rfl) (ea_cons ev_str ea_nil) (ek_cons (ev_lst (ea_cons (ev_nm (i := 7) rfl (by first | exact .inl rfl | exact .inr (.inl rfl) | exact .inr (.inr rfl))) (ea_cons (ev_new (C := 1) (B := Bc w K c) ⟨rfl, rfl, rfl, rfl, rfl, rfl⟩ (mk_Command_1_parts A) (hr.mono (by decide)) (by rfl) (ea_cons ev_str ea_nil) (ek_cons (ev_nm (i := 20) rfl (by first | exact .inl rfl | exact .inr (.inl rfl) | exact .inr (.inr rfl))) ek_nil)) (ea_cons (ev_new (C := 1) (B := Bc w K c) ⟨rfl, rfl, rfl, rfl, rfl, rfl⟩ (mk_Command_1_parts A) (hr.mono (by decide)) (by rfl) (ea_cons ev_str ea_nil) (ek_cons (ev_nm (i := 20) rfl (by first | exact .inl rfl | exact .inr (.inl rfl) | exact .inr (.inr rfl))) ek_nil)) ea_nil)))) ek_nil)))
  (es_cons (es_if (et_cmp (op_neD hr.units) pr_ne (ev_try (k := lamRoom) A.d__law_try sc__law_try rfl (.inl rfl) (fun kV doc pm an cdv ct us hl => match us, hl with | [_], _ => rfl) (fun gf cdv => gv__law_try A _ rfl rfl gf cdv) rfl (by rfl) (by decide) (hnd_ok A fd) rfl (hr.mono (by decide)) lf lok (ev_lamL (j := 4) (L := L_4) (tt := false) (te := te_4) lf rfl rfl rfl (LamX.lamS_by (sc := defScope s_law) (scope := L_4.scope) (by decide +kernel))) lamB_eq) (ev_tup (ea_cons ev_str (ea_cons (ev_tup (ea_cons ev_str (ea_cons ev_int ea_nil))) ea_nil))) (nomark _)) (es_one (es_ret ev_bl)) es_nil)
  (es_cons (es_set (keep := false) (i := 20) (.inr rfl) sc_law.nd rfl (by first | exact Or.inl rfl | exact Or.inr rfl) (ev_sl rfl (ev_nm (i := 20) rfl (by first | exact .inl rfl | exact .inr (.inl rfl) | exact .inr (.inr rfl))) eo_none (eo_some ev_int)))
  (es_cons (es_set (keep := false) (i := 22) (.inr rfl) sc_law.nd rfl (by first | exact Or.inl rfl | exact Or.inr rfl) (ev_new (C := 1) (B := Bc w K c) ⟨rfl, rfl, rfl, rfl, rfl, rfl⟩ (mk_Command_1_parts A) (hr.mono (by decide)) (by rfl) (ea_cons ev_str ea_nil) (ek_cons (ev_lst (ea_cons (ev_new (C := 1) (B := Bc w K c) ⟨rfl, rfl, rfl, rfl, rfl, rfl⟩ (mk_Command_1_parts A) (hr.mono (by decide)) (by rfl) (ea_cons ev_str ea_nil) (ek_cons (ev_nm (i := 20) rfl (by first | exact .inl rfl | exact .inr (.inl rfl) | exact .inr (.inr rfl))) ek_nil)) (ea_cons (ev_new (C := 1) (B := Bc w K c) ⟨rfl, rfl, rfl, rfl, rfl, rfl⟩ (mk_Command_1_parts A) (hr.mono (by decide)) (by rfl) (ea_cons ev_str ea_nil) (ek_cons (ev_sl rfl (ev_nm (i := 20) rfl (by first | exact .inl rfl | exact .inr (.inl rfl) | exact .inr (.inr rfl))) eo_none (eo_some ev_int)) ek_nil)) ea_nil))) ek_nil)))
  (es_one (es_ret (ev_and (ev_cmp (op_eqD hr.units) pr_eq (ev_lenI (B := Bc w K c) ⟨rfl, rfl, rfl, rfl, rfl, rfl⟩ (mo___len___1 A) (hr.mono (by decide)) (by rfl) A.T.b_len (ev_new (C := 2) (B := Bc w K c) ⟨rfl, rfl, rfl, rfl, rfl, rfl⟩ (mk_Grammar_1 A) (hr.mono (by decide)) (by rfl) (ea_cons (ev_nm (i := 22) rfl (by first | exact .inl rfl | exact .inr (.inl rfl) | exact .inr (.inr rfl))) ea_nil) ek_nil)) ev_int (nomark _)) (ev_and (ev_cmp (op_eqD hr.units) pr_eq (ev_cval (by rfl) A.n_Grammar A.cv_Grammar_LEVELS (.int _)) ev_int (nomark _)) (ev_one (ev_cmp (op_eqD hr.units) pr_eq (ev_cval (by rfl) A.n_Grammar A.cv_Grammar_MOST (.int _)) ev_int (nomark _)))))))))))))))
abbrev lawRoom : Nat := 21
abbrev lawN : List Str := ["_law_script", "_law_feed_here", "_law_abc", "_law_turn", "_law_names", "_law_one", "_law_two", "_law_low_z", "_law_deep", "_law_many", "_law_lots", "_law_k", "_law_wide", "_law_spot", "_law_rows", "_law_twice", "_law_near", "_law_asks", "_law_due", "_law_ask", "_law_row", "_law_both", "_law_full"]
abbrev lawNames : Nat := 23
end
--NF 
end Toy
namespace Toy
open PySem PySem.Spec L2 G
open PyProof.Rows hiding St
/-! ### mixed rows -/
theorem pys_of {ds : List D} (h : ∀ d ∈ ds, ∃ x, d.py = some x ∧ x.depth ≤ 50) : ∃ xs, D.pys ds = some xs ∧ xs.length = ds.length ∧ PyData.depthAll xs ≤ 50 := by
  induction ds with
  | nil => exact ⟨[], rfl, rfl, by decide⟩
  | cons d ds ih =>
    obtain ⟨x, h1, h2⟩ := h d (List.mem_cons_self ..)
    obtain ⟨xs, h3, h4, h5⟩ := ih fun e he => h e (List.mem_cons_of_mem _ he)
    refine ⟨x :: xs, by simp only [D.pys, h1, h3], by rw [List.length_cons, List.length_cons, h4], ?_⟩
    unfold PyData.depthAll
    omega
/-- row != [] -/
theorem row_ne {ds : List D} (h : ∀ d ∈ ds, ∃ x, d.py = some x ∧ x.depth ≤ 50) : eqPy true (.lst ds) (.lst []) = .ret (.at (.bl (decide (ds ≠ [])))) := by
  obtain ⟨xs, h3, h4, h5⟩ := pys_of h
  unfold eqPy
  simp only [D.py, h3, D.pys, Option.map_some]
  have hd : (PyData.list xs).depth ≤ 60 := by unfold PyData.depth; omega
  rw [if_pos ⟨hd, by decide⟩]
  cases ds with
  | nil => cases xs with
    | nil => rfl
    | cons x xs => cases h4
  | cons d ds => cases xs with
    | nil => cases h4
    | cons x xs => rfl
theorem perm_erase {α : Type} {e : α} : ∀ {xs : List α} {r : Nat}, xs[r]? = some e → (e :: xs.eraseIdx r).Perm xs
  | [], r, h => by simp at h
  | x :: xs, 0, h => by simp at h; subst h; exact .refl _
  | x :: xs, r + 1, h => by
    simp only [List.getElem?_cons_succ] at h
    rw [List.eraseIdx_cons_succ]
    exact (List.Perm.swap x e _).trans ((perm_erase h).cons x)
theorem mixed_loop (feedS : Sl) (some_ : Sl) (hf : feedS = .v .feed) {Q : Fl × List Sl → Prop} : ∀ (n : Nat) (row found : List D), row.length < n → row.length < 1000 → found.length + row.length ≤ 1000 → (∀ d ∈ row, ∃ x, d.py = some x ∧ x.depth ≤ 50) →
    (∀ ys, ys.Perm (found ++ row) → Q (.nx, [feedS, some_, .c (.l []), .c (.l ys)])) →
    (whileL (sB (s2 (eqPy true) (sNm 2) (sLst sNil))) (sApp 3 (xPop 2 (sCal 0 semTake (sCons (sNm 0) (sCons (sN lenD (sCons (sNm 2) sNil)) sNil)) sNil))) n [feedS, some_, .c (.l row), .c (.l found)]).ok Q := by
  subst hf
  intro n
  induction n with
  | zero => intro row found h; omega
  | succ n ih =>
    intro row found hn h1 h2 hp q
    unfold whileL
    have ht : sB (s2 (eqPy true) (sNm 2) (sLst sNil)) [.v .feed, some_, .c (.l row), .c (.l found)] = .ret (decide (row ≠ [])) := by
      simp [sNm, sK, sAnd, sOr, sNot, sIf, tAndB, tOrB, tNotB, sB, s2, sN, sM, sCh, sCons, sNil, sLst, sTup, sFl, flD, sSl, sPo, sStar, starD, X.fz, sRet, sSeq, sIfS, sSkip, sNev, sAsg, asgX, sAsgT, sPar2, sStF, putD, Tg.asg, setG, fin1, finI, runB, runI, frame, runF, runStarI, permute, sCal, sMth, sNew, sNew0, sEq, sUnI, sIsi, isND, D.isN, isBD, bStr, bInt, bBool, bList, bTuple, D.flat, List.filterMap, List.replicate, row_ne hp]
    rw [ht]
    simp only [M.bind_ret]
    cases row with
    | nil =>
      rw [if_neg (by decide)]
      exact M.ok_of rfl (q _ (by rw [List.append_nil]))
    | cons d ds =>
      rw [if_pos (by simp)]
      have hl : 0 < (d :: ds).length := Nat.succ_pos _
      simp only [M.ok_bind]
      have e1 : (0 : Int) < ((d :: ds).length : Int) ∧ ((d :: ds).length : Int) < 1000 := by omega
      simp only [sApp, xPop, sCal, sCons, sNil, sNm, sN, lenD, semTake, List.getElem?_cons_succ, List.getElem?_cons_zero, M.bind_ret, M.bind_draw, List.map_cons, List.map_nil, toD_p, toD_b, O_l, fin_at]
      rw [if_pos (by omega : (d :: ds).length ≤ 100000), if_neg (by simp), if_pos e1]
      simp only [M.bind_draw, M.bind_ret, M.ok_draw, Int.toNat_natCast, fin_at, toD_p]
      intro r hr
      obtain ⟨e, he⟩ : ∃ e, (d :: ds)[r]? = some e := ⟨(d :: ds)[r]'hr, List.getElem?_eq_getElem hr⟩
      have hx : ixN (d :: ds).length (r : Int) = some r := by
        unfold ixN
        rw [if_pos (by omega), if_pos (by omega)]
        rfl
      simp only [popL, hx, he, M.bind_ret, List.set_cons_succ, List.set_cons_zero, List.getElem?_cons_succ, List.getElem?_cons_zero]
      rw [if_pos (by omega)]
      simp only [M.ok_ret]
      have hle : ((d :: ds).eraseIdx r).length + 1 = (d :: ds).length := by rw [List.length_eraseIdx, if_pos hr]; omega
      refine ih _ _ (by omega) (by omega) (by rw [List.length_append, List.length_singleton]; omega) (fun x hx => hp x (List.mem_of_mem_eraseIdx hx)) fun ys hy => q ys (hy.trans ?_)
      rw [List.append_assoc, List.singleton_append]
      refine List.Perm.append_left _ ?_
      exact perm_erase he
theorem mixed_wp {ds : List D} {Q : R → Prop} (h1 : ds.length < 70) (hp : ∀ d ∈ ds, ∃ x, d.py = some x ∧ x.depth ≤ 50) (q : ∀ ys, ys.Perm ds → Q (.nw (.l ys))) : (f__law_mixed [.feed, .lst ds]).ok Q := by
  simp [sNm, sK, sAnd, sOr, sNot, sIf, tAndB, tOrB, tNotB, sB, s2, sN, sM, sCh, sCons, sNil, sLst, sTup, sFl, flD, sSl, sPo, sStar, starD, X.fz, sRet, sSeq, sIfS, sSkip, sNev, sAsg, asgX, sAsgT, sPar2, sStF, putD, Tg.asg, setG, fin1, finI, runB, runI, frame, runF, runStarI, permute, sCal, sMth, sNew, sNew0, sEq, sUnI, sIsi, isND, D.isN, isBD, bStr, bInt, bBool, bList, bTuple, D.flat, List.filterMap, List.replicate, f__law_mixed, b__law_mixed, listD, M.ok_bind]
  refine mixed_loop (.v .feed) (.v (.lst ds)) rfl 70 ds [] h1 (by omega) (by simp; omega) hp fun ys hy => ?_
  simp [sNm, sK, sAnd, sOr, sNot, sIf, tAndB, tOrB, tNotB, sB, s2, sN, sM, sCh, sCons, sNil, sLst, sTup, sFl, flD, sSl, sPo, sStar, starD, X.fz, sRet, sSeq, sIfS, sSkip, sNev, sAsg, asgX, sAsgT, sPar2, sStF, putD, Tg.asg, setG, fin1, finI, runB, runI, frame, runF, runStarI, permute, sCal, sMth, sNew, sNew0, sEq, sUnI, sIsi, isND, D.isN, isBD, bStr, bInt, bBool, bList, bTuple, D.flat, List.filterMap, List.replicate]
  exact q ys (by simpa using hy)
theorem perm_map {α β : Type} {f : α → β} {xs : List α} {ys : List β} (h : ys.Perm (xs.map f)) : ∃ zs : List α, ys = zs.map f ∧ zs.Perm xs := by
  generalize e : xs.map f = ws at h
  induction h generalizing xs with
  | nil => cases xs with
    | nil => exact ⟨[], rfl, .nil⟩
    | cons x xs => simp at e
  | @cons z l1 l2 h ih => cases xs with
    | nil => simp at e
    | cons y xs =>
      simp at e
      obtain ⟨zs, rfl, hz⟩ := ih e.2
      exact ⟨y :: zs, by rw [List.map_cons, e.1], hz.cons y⟩
  | swap x y l => match xs, e with
    | a :: b :: xs, e =>
      simp at e
      exact ⟨b :: a :: xs, by simp [e], List.Perm.swap a b xs⟩
  | trans h1 h2 ih1 ih2 =>
    obtain ⟨zs, rfl, hz⟩ := ih2 e
    obtain ⟨us, rfl, hu⟩ := ih1 rfl
    exact ⟨us, rfl, hu.trans hz⟩
end Toy
namespace Toy
open PySem PySem.Spec L2 G
open PyProof.Rows hiding St
theorem seq_assoc (f g h : Sst) : sSeq (sSeq f g) h = sSeq f (sSeq g h) := by
  funext Γ
  unfold sSeq
  rw [M.bind_assoc]
  congr 1
  funext p
  obtain ⟨fl, Γ'⟩ := p
  cases fl <;> rfl
theorem seq_nx {f1 f2 : Sst} {Γ Γ' : List Sl} (h : f1 Γ = .ret (.nx, Γ')) : sSeq f1 f2 Γ = f2 Γ' := by
  unfold sSeq
  rw [h]
  rfl
/-- the slot i behind a run -/
def slA (m : M (Fl × List Sl)) (i : Nat) : Sl := match m with
  | .ret (_, Γ) => (Γ[i]?).getD .no
  | _ => .no
theorem cut_take {α : Type} (ys : List α) (n : Nat) : G.cutD ys none (some (n : Int)) = ys.take n := by
  have e : G.cutD ys none (some (n : Int)) = (ys.drop 0).take (min n ys.length - 0) := by
    unfold G.cutD
    rw [HT.sIx_nat]
    rfl
  rw [e, List.drop_zero, Nat.sub_zero]
  rcases Nat.le_total n ys.length with h | h
  · rw [Nat.min_eq_left h]
  · rw [Nat.min_eq_right h, List.take_of_length_le (Nat.le_refl _), List.take_of_length_le h]
end Toy
namespace Toy
open PySem PySem.Spec L2 G
open PyProof.Rows hiding St
abbrev LB1 : Sst := (sAsg false 2 (sK (.str "abcdef")))
abbrev LB2 : Sst := (sAsg false 4 (sCal 0 (runF 2 [0, 1] [] f__law_dashes) (sCons (sNm 1) (sCons (sK (.int (4))) sNil)) sNil))
abbrev LB3 : Sst := (sAsgT (.t [5, 6]) (sTup (sCons (sNew 0 (runF 1 [0, 1, 2] [.non, .int (1)] f_Option___init__) (sCons (s2 ixD (sNm 4) (sK (.int (0)))) sNil) sNil) (sCons (sNew 0 (runF 1 [0, 1, 2] [.non, .int (1)] f_Option___init__) (sCons (s2 ixD (sNm 4) (sK (.int (1)))) sNil) sNil) sNil))))
abbrev LB4 : Sst := (sAsg false 7 (sNew 1 (runF 1 [0, 1, 2, 3, 4] [.tup [], .tup [], .tup []] f_Command___init__) (sCons (sK (.str "e")) sNil) (sCons (sLst (sCons (sNm 6) (sCons (sNm 5) sNil))) sNil)))
abbrev LB5 : Sst := (sAsg false 8 (sNew 2 (runF 1 [0, 2, 3, 1, 4] [.tup [], .tup []] f_Command___init__) (sCons (sK (.str "x")) sNil) (sCons (sLst (sCons (sNew 1 (runF 1 [0, 2, 3, 1, 4] [.tup [], .tup [], .tup []] f_Command___init__) (sCons (sK (.str "c")) sNil) (sCons (sLst (sCons (sNew 1 (runF 1 [0, 2, 3, 1, 4] [.tup [], .tup [], .tup []] f_Command___init__) (sCons (sK (.str "d")) sNil) (sCons (sLst (sCons (sNm 7) sNil)) sNil)) sNil)) sNil)) sNil)) (sCons (sLst (sCons (sNm 5) sNil)) sNil))))
abbrev LB6 : Sst := (sAsg false 9 (s2 addD (sK (.int (5))) (sCal 0 semTake (sCons (sNm 1) (sCons (sK (.int (2))) sNil)) sNil)))
abbrev LB7 : Sst := (sAsg false 10 (sLc (sRg1 (sCons (sNm 9) sNil)) (.n 11) [11] tYesB (sNew 1 (runF 1 [0, 1, 2, 3, 4] [.tup [], .tup [], .tup []] f_Command___init__) (sCons (s2 ixD (sNm 2) (sNm 11)) sNil) (sCons (sLst (sCons (sNm 5) sNil)) sNil))))
abbrev LB8 : Sst := (sAsg false 12 (sNew 1 (runF 1 [0, 2, 3, 1, 4] [.tup [], .tup [], .tup []] f_Command___init__) (sCons (sK (.str "x")) sNil) (sCons (sLst (sCons (sNew 1 (runF 1 [0, 2, 3, 1, 4] [.tup [], .tup [], .tup []] f_Command___init__) (sCons (sK (.str "a")) sNil) (sCons (sNm 10) sNil)) (sCons (sNew 1 (runF 1 [0, 2, 3, 1, 4] [.tup [], .tup [], .tup []] f_Command___init__) (sCons (sK (.str "b")) sNil) (sCons (sNm 10) sNil)) sNil))) sNil)))
abbrev LB9 : Sst := (sAsg false 13 (sCal 0 semTake (sCons (sNm 1) (sCons (sK (.int (3))) sNil)) sNil))
abbrev LB10 : Sst := (sAsg false 14 (sLc (sRg1 (sCons (sNm 13) sNil)) (.n 11) [11] tYesB (sNew 1 (runF 1 [0, 1, 2, 3, 4] [.tup [], .tup [], .tup []] f_Command___init__) (sCons (s2 ixD (sNm 2) (sNm 11)) sNil) (sCons (sLst (sCons (sNm 6) sNil)) sNil))))
abbrev LB11 : Sst := (sAsg false 14 (s2 addD (sNm 14) (sLst (sCons (sNew 2 (runF 1 [0, 2, 3, 1, 4] [.tup [], .tup []] f_Command___init__) (sCons (sK (.str "z")) sNil) (sCons (sLst (sCons (sNm 7) sNil)) (sCons (sLst (sCons (sNew 0 (runF 1 [0, 1, 2] [.non, .int (1)] f_Option___init__) (sCons (s2 ixD (sNm 4) (sK (.int (2)))) sNil) sNil) sNil)) sNil))) sNil))))
abbrev LB12 : Sst := (sAsg false 15 (sNew 2 (runF 1 [0, 2, 3, 1, 4] [.tup [], .tup []] f_Command___init__) (sCons (sK (.str "x")) sNil) (sCons (sNm 14) (sCons (sLst (sCons (sNm 5) sNil)) sNil))))
abbrev LB13 : Sst := (sAsg false 16 (sNew 1 (runF 1 [0, 2, 3, 1, 4] [.tup [], .tup [], .tup []] f_Command___init__) (sCons (sK (.str "x")) sNil) (sCons (sLst (sCons (sNew 1 (runF 1 [0, 1, 2, 3, 4] [.tup [], .tup [], .tup []] f_Command___init__) (sCons (sK (.str "a")) sNil) (sCons (sLst (sCons (sNm 5) (sCons (sNm 6) sNil))) sNil)) (sCons (sNew 1 (runF 1 [0, 1, 2, 3, 4] [.tup [], .tup [], .tup []] f_Command___init__) (sCons (sK (.str "b")) sNil) (sCons (sLst (sCons (sNm 5) sNil)) sNil)) sNil))) sNil)))
abbrev LB14 : Sst := (sAsg false 17 (sLst (sCons (sLam 0) (sCons (sLam 1) (sCons (sLam 2) (sCons (sLam 3) sNil))))))
abbrev LB15 : Sst := (sAsg true 18 (sLst (sCons (sTup (sCons (sK (.str "TooMany")) (sCons (sTup (sCons (sK (.str "levels")) (sCons (sK (.int (2))) sNil))) sNil))) (sCons (sTup (sCons (sK (.str "TooMany")) (sCons (sTup (sCons (sK (.str "commands")) (sCons (sK (.int (12))) sNil))) sNil))) (sCons (sTup (sCons (sK (.str "DuplicateName")) (sCons (s2 ixD (sNm 4) (sK (.int (0)))) sNil))) (sCons (sTup (sCons (sK (.str "")) (sCons (sK (.int (3))) sNil))) sNil))))))
abbrev LB16 : Sst := (sIfS (sB (s2 (eqPy false) (sNm 9) (sK (.int (5))))) (sStI 18 (1) (sIf (sB (s2 gtD (s2 addD (s2 addD (sK (.int (1))) (sK (.int (2)))) (s2 mulD (sK (.int (2))) (sNm 9))) (sK (.int (12))))) (sTup (sCons (sK (.str "TooMany")) (sCons (sTup (sCons (sK (.str "commands")) (sCons (sK (.int (12))) sNil))) sNil))) (sTup (sCons (sK (.str "")) (sCons (sK .non) sNil))))) sSkip)
abbrev LB17 : Sst := (sIfS (tNotB (sB (sCal 0 (runF 2 [0, 1] [] (f__law_same 8)) (sCons (sTryL 19 lamB (hndP hvD xnD) (sSq (sNm 17))) (sCons (sNm 18) sNil)) sNil))) (sRet (sK (.bl false))) sSkip)
abbrev LBb18 : Sst := (sSeq LB2 (sSeq LB3 (sSeq LB4 (sSeq LB5 (sSeq LB6 (sSeq LB7 (sSeq LB8 (sSeq LB9 (sSeq LB10 (sSeq LB11 (sSeq LB12 (sSeq LB13 (sSeq LB14 (sSeq LB15 (sSeq LB16 LB17)))))))))))))))
abbrev LB18 : Sst := (sFor (sRg1 (sCons (sK (.int (4))) sNil)) (.n 3) LBb18)
abbrev LB19 : Sst := (sAsg false 20 (sLc (sSg (sK (.str "abcdef"))) (.n 5) [5] tYesB (sNew 0 (runF 1 [0, 1, 2, 3, 4] [.tup [], .tup [], .tup [], .tup []] f_Command___init__) (sCons (sNm 5) sNil) sNil)))
abbrev LB20 : Sst := (sAsg false 7 (sNew 1 (runF 1 [0, 2, 3, 1, 4] [.tup [], .tup [], .tup []] f_Command___init__) (sCons (sK (.str "a")) sNil) (sCons (sLst (sCons (sNew 1 (runF 1 [0, 2, 3, 1, 4] [.tup [], .tup [], .tup []] f_Command___init__) (sCons (sK (.str "b")) sNil) (sCons (sLst (sCons (sNew 1 (runF 1 [0, 2, 3, 1, 4] [.tup [], .tup [], .tup []] f_Command___init__) (sCons (sK (.str "c")) sNil) (sCons (sLst (sCons (sNew 0 (runF 1 [0, 1, 2, 3, 4] [.tup [], .tup [], .tup [], .tup []] f_Command___init__) (sCons (sK (.str "d")) sNil) sNil) sNil)) sNil)) sNil)) sNil)) sNil)) sNil)))
abbrev LB21 : Sst := (sAsg false 21 (sNew 1 (runF 1 [0, 2, 3, 1, 4] [.tup [], .tup [], .tup []] f_Command___init__) (sCons (sK (.str "x")) sNil) (sCons (sLst (sCons (sNm 7) (sCons (sNew 1 (runF 1 [0, 2, 3, 1, 4] [.tup [], .tup [], .tup []] f_Command___init__) (sCons (sK (.str "e")) sNil) (sCons (sNm 20) sNil)) (sCons (sNew 1 (runF 1 [0, 2, 3, 1, 4] [.tup [], .tup [], .tup []] f_Command___init__) (sCons (sK (.str "f")) sNil) (sCons (sNm 20) sNil)) sNil)))) sNil)))
abbrev LB22 : Sst := (sIfS (sB (s2 (eqPy true) (sTry lamB (hndP hvD xnD) (sLam 4)) (sTup (sCons (sK (.str "TooMany")) (sCons (sTup (sCons (sK (.str "levels")) (sCons (sK (.int (2))) sNil))) sNil))))) (sRet (sK (.bl false))) sSkip)
abbrev LB23 : Sst := (sAsg false 20 (sSl (sNm 20) none (some (sK (.int (5))))))
abbrev LB24 : Sst := (sAsg false 22 (sNew 1 (runF 1 [0, 2, 3, 1, 4] [.tup [], .tup [], .tup []] f_Command___init__) (sCons (sK (.str "x")) sNil) (sCons (sLst (sCons (sNew 1 (runF 1 [0, 2, 3, 1, 4] [.tup [], .tup [], .tup []] f_Command___init__) (sCons (sK (.str "a")) sNil) (sCons (sNm 20) sNil)) (sCons (sNew 1 (runF 1 [0, 2, 3, 1, 4] [.tup [], .tup [], .tup []] f_Command___init__) (sCons (sK (.str "b")) sNil) (sCons (sSl (sNm 20) none (some (sK (.int (4))))) sNil)) sNil))) sNil)))
abbrev LB25 : Sst := (sRet (sAnd (s2 (eqPy false) (sUnI mt___len___1 chkN (sNew 0 (runF 1 [0] [] f_Grammar___init__) (sCons (sNm 22) sNil) sNil)) (sK (.int (12)))) (sAnd (s2 (eqPy false) (sK (.int (2))) (sK (.int (2)))) (s2 (eqPy false) (sK (.int (12))) (sK (.int (12)))))))
theorem LB_eq : b_law = (sSeq LB1 (sSeq LB18 (sSeq LB19 (sSeq LB20 (sSeq LB21 (sSeq LB22 (sSeq LB23 (sSeq LB24 LB25)))))))) := rfl
end Toy
namespace Toy
open PySem PySem.Spec L2 G
open PyProof.Rows hiding St
abbrev dashD : List D := [.str "-a", .str "-b", .str "-all", .str "-abc", .str "-on"]
theorem dash_ok {Q : R → Prop} (q : ∀ ys : List D, ys.Perm dashD → Q (.nw (.l (ys.take 4)))) : (f__law_dashes [.feed, .int 4]).ok Q := by
  simp [sNm, sK, sAnd, sOr, sNot, sIf, tAndB, tOrB, tNotB, sB, s2, sN, sM, sCh, sCons, sNil, sLst, sTup, sFl, flD, sSl, sPo, sStar, starD, X.fz, sRet, sSeq, sIfS, sSkip, sNev, sAsg, asgX, sAsgT, sPar2, sStF, putD, Tg.asg, setG, fin1, finI, runB, runI, frame, runF, runStarI, permute, sCal, sMth, sNew, sNew0, sEq, sUnI, sIsi, isND, D.isN, isBD, bStr, bInt, bBool, bList, bTuple, D.flat, List.filterMap, List.replicate, f__law_dashes, b__law_dashes, M.ok_bind]
  refine mixed_wp (ds := dashD) (by decide) (fun d hd => ?_) fun ys hy => ?_
  · simp only [List.mem_cons, List.not_mem_nil, or_false] at hd
    rcases hd with rfl | rfl | rfl | rfl | rfl <;> exact ⟨_, rfl, by decide⟩
  · simp [sNm, sK, sAnd, sOr, sNot, sIf, tAndB, tOrB, tNotB, sB, s2, sN, sM, sCh, sCons, sNil, sLst, sTup, sFl, flD, sSl, sPo, sStar, starD, X.fz, sRet, sSeq, sIfS, sSkip, sNev, sAsg, asgX, sAsgT, sPar2, sStF, putD, Tg.asg, setG, fin1, finI, runB, runI, frame, runF, runStarI, permute, sCal, sMth, sNew, sNew0, sEq, sUnI, sIsi, isND, D.isN, isBD, bStr, bInt, bBool, bList, bTuple, D.flat, List.filterMap, List.replicate, slD]
    have e : G.cutD ys none (some 4) = ys.take 4 := cut_take ys 4
    rw [e]
    exact q ys hy
abbrev LΓ (x0 x2 x3 x4 x5 x6 x7 x8 x9 x10 x11 x12 x13 x14 x15 x16 x17 x18 x19 x20 x21 x22 : Sl) : List Sl := [x0, .v .feed, x2, x3, x4, x5, x6, x7, x8, x9, x10, x11, x12, x13, x14, x15, x16, x17, x18, x19, x20, x21, x22]
/-! the instances: an option, a command -/
abbrev OD (n : D) : D := .ins 0 [n, .non, .int 1]
abbrev CM (nm : String) (os ps : List D) : D := .ins 1 [.str nm, .tup os, .tup [], .tup ps, .tup []]
abbrev lowD (p q : D) : D := CM "e" [OD q, OD p] []
abbrev deepD (p q : D) : D := CM "x" [OD p] [CM "c" [] [CM "d" [] [lowD p q]]]
abbrev nmK : List String := ["a", "b", "c", "d", "e", "f"]
abbrev lotsD (p : D) (k : Nat) : List D := (nmK.take k).map fun s => CM s [OD p] []
abbrev wideD (p : D) (k : Nat) : D := CM "x" [] [CM "a" [] (lotsD p k), CM "b" [] (lotsD p k)]
abbrev rowsD (p q r : D) (k : Nat) : List D := (nmK.take k).map (fun s => CM s [OD q] []) ++ [CM "z" [OD r] [lowD p q]]
abbrev twiceD (p q r : D) (k : Nat) : D := CM "x" [OD p] (rowsD p q r k)
abbrev nearD (p q : D) : D := CM "x" [] [CM "a" [OD p, OD q] [], CM "b" [OD p] []]
section
variable {x0 x2 x3 x4 x5 x6 x7 x8 x9 x10 x11 x12 x13 x14 x15 x16 x17 x18 x19 x20 x21 x22 : Sl} {Q : Fl × List Sl → Prop} {p q r s : D}
set_option maxHeartbeats 0
theorem s3 (hp : p ∈ dashD) (hq : q ∈ dashD) : LB3 (LΓ x0 x2 x3 (.v (.lst [p, q, r, s])) x5 x6 x7 x8 x9 x10 x11 x12 x13 x14 x15 x16 x17 x18 x19 x20 x21 x22) = .ret (.nx, LΓ x0 x2 x3 (.v (.lst [p, q, r, s])) (.v (OD p)) (.v (OD q)) x7 x8 x9 x10 x11 x12 x13 x14 x15 x16 x17 x18 x19 x20 x21 x22) := by
  simp only [List.mem_cons, List.not_mem_nil, or_false] at hp hq
  rcases hp with rfl | rfl | rfl | rfl | rfl <;> rcases hq with rfl | rfl | rfl | rfl | rfl <;> kernel_rfl
theorem s4 (hp : p ∈ dashD) (hq : q ∈ dashD) (hn : p ≠ q) : LB4 (LΓ x0 x2 x3 x4 (.v (OD p)) (.v (OD q)) x7 x8 x9 x10 x11 x12 x13 x14 x15 x16 x17 x18 x19 x20 x21 x22) = .ret (.nx, LΓ x0 x2 x3 x4 (.v (OD p)) (.v (OD q)) (.v (lowD p q)) x8 x9 x10 x11 x12 x13 x14 x15 x16 x17 x18 x19 x20 x21 x22) := by
  simp only [List.mem_cons, List.not_mem_nil, or_false] at hp hq
  rcases hp with rfl | rfl | rfl | rfl | rfl <;> rcases hq with rfl | rfl | rfl | rfl | rfl <;> first | exact absurd rfl hn | kernel_rfl
theorem s5 {a b : String} : LB5 (LΓ x0 x2 x3 x4 (.v (OD (.str a))) x6 (.v (lowD (.str a) (.str b))) x8 x9 x10 x11 x12 x13 x14 x15 x16 x17 x18 x19 x20 x21 x22) = .ret (.nx, LΓ x0 x2 x3 x4 (.v (OD (.str a))) x6 (.v (lowD (.str a) (.str b))) (.v (deepD (.str a) (.str b))) x9 x10 x11 x12 x13 x14 x15 x16 x17 x18 x19 x20 x21 x22) := by
  kernel_rfl
theorem s7 {a : String} {k : Nat} (hk : k < 2) : LB7 (LΓ x0 (.v (.str "abcdef")) x3 x4 (.v (OD (.str a))) x6 x7 x8 (.v (.int (5 + (k : Int)))) x10 x11 x12 x13 x14 x15 x16 x17 x18 x19 x20 x21 x22) = .ret (.nx, LΓ x0 (.v (.str "abcdef")) x3 x4 (.v (OD (.str a))) x6 x7 x8 (.v (.int (5 + (k : Int)))) (.v (.lst (lotsD (.str a) (5 + k)))) x11 x12 x13 x14 x15 x16 x17 x18 x19 x20 x21 x22) := by
  obtain rfl | rfl : k = 0 ∨ k = 1 := by omega
  all_goals kernel_rfl
theorem s8 {a : String} {k : Nat} (hk : k < 2) : LB8 (LΓ x0 x2 x3 x4 x5 x6 x7 x8 x9 (.v (.lst (lotsD (.str a) (5 + k)))) x11 x12 x13 x14 x15 x16 x17 x18 x19 x20 x21 x22) = .ret (.nx, LΓ x0 x2 x3 x4 x5 x6 x7 x8 x9 (.v (.lst (lotsD (.str a) (5 + k)))) x11 (.v (wideD (.str a) (5 + k))) x13 x14 x15 x16 x17 x18 x19 x20 x21 x22) := by
  obtain rfl | rfl : k = 0 ∨ k = 1 := by omega
  all_goals kernel_rfl
theorem s10 {b : String} {k : Nat} (hk : k < 3) : LB10 (LΓ x0 (.v (.str "abcdef")) x3 x4 x5 (.v (OD (.str b))) x7 x8 x9 x10 x11 x12 (.v (.int (k : Int))) x14 x15 x16 x17 x18 x19 x20 x21 x22) = .ret (.nx, LΓ x0 (.v (.str "abcdef")) x3 x4 x5 (.v (OD (.str b))) x7 x8 x9 x10 x11 x12 (.v (.int (k : Int))) (.v (.lst (lotsD (.str b) k))) x15 x16 x17 x18 x19 x20 x21 x22) := by
  obtain rfl | rfl | rfl : k = 0 ∨ k = 1 ∨ k = 2 := by omega
  all_goals kernel_rfl
theorem s11 {a b : String} {k : Nat} (hk : k < 3) (hr : r ∈ dashD) : LB11 (LΓ x0 x2 x3 (.v (.lst [p, q, r, s])) x5 x6 (.v (lowD (.str a) (.str b))) x8 x9 x10 x11 x12 x13 (.v (.lst (lotsD (.str b) k))) x15 x16 x17 x18 x19 x20 x21 x22) = .ret (.nx, LΓ x0 x2 x3 (.v (.lst [p, q, r, s])) x5 x6 (.v (lowD (.str a) (.str b))) x8 x9 x10 x11 x12 x13 (.v (.lst (rowsD (.str a) (.str b) r k))) x15 x16 x17 x18 x19 x20 x21 x22) := by
  simp only [List.mem_cons, List.not_mem_nil, or_false] at hr
  obtain rfl | rfl | rfl : k = 0 ∨ k = 1 ∨ k = 2 := by omega
  all_goals rcases hr with rfl | rfl | rfl | rfl | rfl <;> kernel_rfl
theorem s12 {a b c : String} {k : Nat} (hk : k < 3) : LB12 (LΓ x0 x2 x3 x4 (.v (OD (.str a))) x6 x7 x8 x9 x10 x11 x12 x13 (.v (.lst (rowsD (.str a) (.str b) (.str c) k))) x15 x16 x17 x18 x19 x20 x21 x22) = .ret (.nx, LΓ x0 x2 x3 x4 (.v (OD (.str a))) x6 x7 x8 x9 x10 x11 x12 x13 (.v (.lst (rowsD (.str a) (.str b) (.str c) k))) (.v (twiceD (.str a) (.str b) (.str c) k)) x16 x17 x18 x19 x20 x21 x22) := by
  obtain rfl | rfl | rfl : k = 0 ∨ k = 1 ∨ k = 2 := by omega
  all_goals kernel_rfl
theorem s13 (hp : p ∈ dashD) (hq : q ∈ dashD) (hn : p ≠ q) : LB13 (LΓ x0 x2 x3 x4 (.v (OD p)) (.v (OD q)) x7 x8 x9 x10 x11 x12 x13 x14 x15 x16 x17 x18 x19 x20 x21 x22) = .ret (.nx, LΓ x0 x2 x3 x4 (.v (OD p)) (.v (OD q)) x7 x8 x9 x10 x11 x12 x13 x14 x15 (.v (nearD p q)) x17 x18 x19 x20 x21 x22) := by
  simp only [List.mem_cons, List.not_mem_nil, or_false] at hp hq
  rcases hp with rfl | rfl | rfl | rfl | rfl <;> rcases hq with rfl | rfl | rfl | rfl | rfl <;> first | exact absurd rfl hn | kernel_rfl
theorem s14 : LB14 (LΓ x0 x2 x3 x4 x5 x6 x7 x8 x9 x10 x11 x12 x13 x14 x15 x16 x17 x18 x19 x20 x21 x22) = .ret (.nx, LΓ x0 x2 x3 x4 x5 x6 x7 x8 x9 x10 x11 x12 x13 x14 x15 x16 (.v (.lst [.fn 0, .fn 1, .fn 2, .fn 3])) x18 x19 x20 x21 x22) := by kernel_rfl
theorem s15 : LB15 (LΓ x0 x2 x3 (.v (.lst [p, q, r, s])) x5 x6 x7 x8 x9 x10 x11 x12 x13 x14 x15 x16 x17 x18 x19 x20 x21 x22) = .ret (.nx, LΓ x0 x2 x3 (.v (.lst [p, q, r, s])) x5 x6 x7 x8 x9 x10 x11 x12 x13 x14 x15 x16 x17 (.c (.l [.tup [.str "TooMany", .tup [.str "levels", .int 2]], .tup [.str "TooMany", .tup [.str "commands", .int 12]], .tup [.str "DuplicateName", p], .tup [.str "", .int 3]])) x19 x20 x21 x22) := by kernel_rfl
theorem s16 {k : Nat} (hk : k < 2) : LB16 (LΓ x0 x2 x3 x4 x5 x6 x7 x8 (.v (.int (5 + (k : Int)))) x10 x11 x12 x13 x14 x15 x16 x17 (.c (.l [.tup [.str "TooMany", .tup [.str "levels", .int 2]], .tup [.str "TooMany", .tup [.str "commands", .int 12]], .tup [.str "DuplicateName", p], .tup [.str "", .int 3]])) x19 x20 x21 x22) = .ret (.nx, LΓ x0 x2 x3 x4 x5 x6 x7 x8 (.v (.int (5 + (k : Int)))) x10 x11 x12 x13 x14 x15 x16 x17 (.c (.l [.tup [.str "TooMany", .tup [.str "levels", .int 2]], .tup [.str "TooMany", .tup [.str "commands", .int 12]], .tup [.str "DuplicateName", p], .tup [.str "", .int 3]])) x19 x20 x21 x22) := by
  obtain rfl | rfl : k = 0 ∨ k = 1 := by omega
  all_goals kernel_rfl
abbrev hh : Nat → List D → Option D := hndP hvD xnD
theorem t0 {a b : String} : tryM false hh (te_0 (lamG false (LΓ x0 x2 x3 x4 x5 x6 x7 (.v (deepD (.str a) (.str b))) x9 x10 x11 x12 x13 x14 x15 x16 x17 x18 x19 x20 x21 x22))) = .ret (X.mk false (.tup [.str "TooMany", .tup [.str "levels", .int 2]])) := by kernel_rfl
theorem t1 {a : String} {k : Nat} (hk : k < 2) : tryM false hh (te_1 (lamG false (LΓ x0 x2 x3 x4 x5 x6 x7 x8 x9 x10 x11 (.v (wideD (.str a) (5 + k))) x13 x14 x15 x16 x17 x18 x19 x20 x21 x22))) = .ret (X.mk false (.tup [.str "TooMany", .tup [.str "commands", .int 12]])) := by
  obtain rfl | rfl : k = 0 ∨ k = 1 := by omega
  all_goals kernel_rfl
theorem t2 {k : Nat} (hk : k < 3) (hp : p ∈ dashD) (hq : q ∈ dashD) (hr : r ∈ dashD) (h1 : p ≠ q) (h2 : p ≠ r) (h3 : q ≠ r) : tryM false hh (te_2 (lamG false (LΓ x0 x2 x3 x4 x5 x6 x7 x8 x9 x10 x11 x12 x13 x14 (.v (twiceD p q r k)) x16 x17 x18 x19 x20 x21 x22))) = .ret (X.mk false (.tup [.str "DuplicateName", p])) := by
  simp only [List.mem_cons, List.not_mem_nil, or_false] at hp hq hr
  obtain rfl | rfl | rfl : k = 0 ∨ k = 1 ∨ k = 2 := by omega
  all_goals
    rcases hp with rfl | rfl | rfl | rfl | rfl <;> rcases hq with rfl | rfl | rfl | rfl | rfl <;> first | exact absurd rfl h1 | (rcases hr with rfl | rfl | rfl | rfl | rfl <;> first | exact absurd rfl h2 | exact absurd rfl h3 | kernel_rfl)
theorem t3 {a b : String} : tryM false hh (te_3 (lamG false (LΓ x0 x2 x3 x4 x5 x6 x7 x8 x9 x10 x11 x12 x13 x14 x15 (.v (nearD (.str a) (.str b))) x17 x18 x19 x20 x21 x22))) = .ret (X.mk false (.tup [.str "", .int 3])) := by kernel_rfl
theorem mapT_cons {bs : LamB} {hnd : Nat → List D → Option D} {Γ : List Sl} {j : Nat} {tt : Bool} {te : Se X} {ds r : List D} {x : X} (hb : bs j = some (tt, te)) (h : tryM tt hnd (te (lamG tt Γ)) = .ret x) (hr : mapT bs hnd Γ ds = .ret r) : mapT bs hnd Γ (.fn j :: ds) = .ret (x.toD :: r) := by
  simp only [mapT, hb, h, hr, M.bind_ret]
abbrev sB17 (f : Se X) : Sst := (sIfS (tNotB (sB (sCal 0 (runF 2 [0, 1] [] (f__law_same 8)) (sCons f (sCons (sNm 18) sNil)) sNil))) (sRet (sK (.bl false))) sSkip)
theorem s17_of {Γ : List Sl} {R : X} {z : M (Fl × List Sl)} (hT : sTryL 19 lamB hh (sSq (sNm 17)) Γ = .ret R) (h : sB17 (fun _ => .ret R) Γ = z) : LB17 Γ = z := by
  rw [← h]
  simp only [LB17, sIfS, tNotB, sB, sCal, sCons, hT]
theorem s17b (hp : p ∈ dashD) : sB17 (fun _ => .ret (.t (.lst [.tup [.str "TooMany", .tup [.str "levels", .int 2]], .tup [.str "TooMany", .tup [.str "commands", .int 12]], .tup [.str "DuplicateName", p], .tup [.str "", .int 3]]))) (LΓ x0 x2 x3 x4 x5 x6 x7 x8 x9 x10 x11 x12 x13 x14 x15 x16 x17 (.c (.l [.tup [.str "TooMany", .tup [.str "levels", .int 2]], .tup [.str "TooMany", .tup [.str "commands", .int 12]], .tup [.str "DuplicateName", p], .tup [.str "", .int 3]])) x19 x20 x21 x22) = .ret (.nx, LΓ x0 x2 x3 x4 x5 x6 x7 x8 x9 x10 x11 x12 x13 x14 x15 x16 x17 (.c (.l [.tup [.str "TooMany", .tup [.str "levels", .int 2]], .tup [.str "TooMany", .tup [.str "commands", .int 12]], .tup [.str "DuplicateName", p], .tup [.str "", .int 3]])) x19 x20 x21 x22) := by
  simp only [List.mem_cons, List.not_mem_nil, or_false] at hp
  rcases hp with rfl | rfl | rfl | rfl | rfl <;> kernel_rfl
theorem s17 {a b c : String} {k m : Nat} (hk : k < 2) (hm : m < 3) (hp : D.str a ∈ dashD) (hq : D.str b ∈ dashD) (hr : D.str c ∈ dashD) (h1 : D.str a ≠ .str b) (h2 : D.str a ≠ .str c) (h3 : D.str b ≠ .str c) : LB17 (LΓ x0 x2 x3 x4 x5 x6 x7 (.v (deepD (.str a) (.str b))) x9 x10 x11 (.v (wideD (.str a) (5 + k))) x13 x14 (.v (twiceD (.str a) (.str b) (.str c) m)) (.v (nearD (.str a) (.str b))) (.v (.lst [.fn 0, .fn 1, .fn 2, .fn 3])) (.c (.l [.tup [.str "TooMany", .tup [.str "levels", .int 2]], .tup [.str "TooMany", .tup [.str "commands", .int 12]], .tup [.str "DuplicateName", .str a], .tup [.str "", .int 3]])) x19 x20 x21 x22) = .ret (.nx, LΓ x0 x2 x3 x4 x5 x6 x7 (.v (deepD (.str a) (.str b))) x9 x10 x11 (.v (wideD (.str a) (5 + k))) x13 x14 (.v (twiceD (.str a) (.str b) (.str c) m)) (.v (nearD (.str a) (.str b))) (.v (.lst [.fn 0, .fn 1, .fn 2, .fn 3])) (.c (.l [.tup [.str "TooMany", .tup [.str "levels", .int 2]], .tup [.str "TooMany", .tup [.str "commands", .int 12]], .tup [.str "DuplicateName", .str a], .tup [.str "", .int 3]])) x19 x20 x21 x22) := by
  refine s17_of (R := .t (.lst [.tup [.str "TooMany", .tup [.str "levels", .int 2]], .tup [.str "TooMany", .tup [.str "commands", .int 12]], .tup [.str "DuplicateName", .str a], .tup [.str "", .int 3]])) ?_ (s17b hp)
  have e : mapT lamB hh (LΓ x0 x2 x3 x4 x5 x6 x7 (.v (deepD (.str a) (.str b))) x9 x10 x11 (.v (wideD (.str a) (5 + k))) x13 x14 (.v (twiceD (.str a) (.str b) (.str c) m)) (.v (nearD (.str a) (.str b))) (.v (.lst [.fn 0, .fn 1, .fn 2, .fn 3])) (.c (.l [.tup [.str "TooMany", .tup [.str "levels", .int 2]], .tup [.str "TooMany", .tup [.str "commands", .int 12]], .tup [.str "DuplicateName", .str a], .tup [.str "", .int 3]])) x19 x20 x21 x22) [.fn 0, .fn 1, .fn 2, .fn 3] = .ret [.tup [.str "TooMany", .tup [.str "levels", .int 2]], .tup [.str "TooMany", .tup [.str "commands", .int 12]], .tup [.str "DuplicateName", .str a], .tup [.str "", .int 3]] := mapT_cons rfl t0 (mapT_cons rfl (t1 hk) (mapT_cons rfl (t2 hm hp hq hr h1 h2 h3) (mapT_cons rfl t3 rfl)))
  have e2 : sSq (sNm 17) (LΓ x0 x2 x3 x4 x5 x6 x7 (.v (deepD (.str a) (.str b))) x9 x10 x11 (.v (wideD (.str a) (5 + k))) x13 x14 (.v (twiceD (.str a) (.str b) (.str c) m)) (.v (nearD (.str a) (.str b))) (.v (.lst [.fn 0, .fn 1, .fn 2, .fn 3])) (.c (.l [.tup [.str "TooMany", .tup [.str "levels", .int 2]], .tup [.str "TooMany", .tup [.str "commands", .int 12]], .tup [.str "DuplicateName", .str a], .tup [.str "", .int 3]])) x19 x20 x21 x22) = .ret (false, [.fn 0, .fn 1, .fn 2, .fn 3]) := rfl
  unfold sTryL
  rw [e2]
  simp only [M.bind_ret]
  rw [e, if_pos (by simp)]
  rfl
end
end Toy
namespace Toy
open PySem PySem.Spec L2 G
open PyProof.Rows hiding St
section
variable {x0 x2 x3 x4 x5 x6 x7 x8 x9 x10 x11 x12 x13 x14 x15 x16 x17 x18 x19 x20 x21 x22 : Sl} {Q : Fl × List Sl → Prop} {p q r s : D}
set_option maxHeartbeats 0
theorem ys_of {ys : List D} (h : ys.Perm dashD) : ∃ a b c s : D, ys.take 4 = [a, b, c, s] ∧ a ∈ dashD ∧ b ∈ dashD ∧ c ∈ dashD ∧ a ≠ b ∧ a ≠ c ∧ b ≠ c := by
  have hn : ys.Nodup := h.nodup_iff.mpr (by simp [List.nodup_cons]; decide)
  have hl := h.length_eq
  match ys, hl with
  | [a, b, c, s, t], _ =>
    simp only [List.nodup_cons, List.mem_cons, not_or] at hn
    exact ⟨a, b, c, s, rfl, h.mem_iff.mp (by simp), h.mem_iff.mp (by simp), h.mem_iff.mp (by simp), hn.1.1, hn.1.2.1, hn.2.1.1⟩
theorem dash_str {p : D} (h : p ∈ dashD) : ∃ a : String, p = .str a := by
  simp only [List.mem_cons, List.not_mem_nil, or_false] at h
  rcases h with rfl | rfl | rfl | rfl | rfl <;> exact ⟨_, rfl⟩
theorem lb2 (z : ∀ a b c : String, ∀ s : D, D.str a ∈ dashD → D.str b ∈ dashD → D.str c ∈ dashD → D.str a ≠ .str b → D.str a ≠ .str c → D.str b ≠ .str c → Q (.nx, LΓ x0 x2 x3 (.v (.lst [.str a, .str b, .str c, s])) x5 x6 x7 x8 x9 x10 x11 x12 x13 x14 x15 x16 x17 x18 x19 x20 x21 x22)) : (LB2 (LΓ x0 x2 x3 x4 x5 x6 x7 x8 x9 x10 x11 x12 x13 x14 x15 x16 x17 x18 x19 x20 x21 x22)).ok Q := by
  simp [sNm, sK, sAnd, sOr, sNot, sIf, tAndB, tOrB, tNotB, sB, s2, sN, sM, sCh, sCons, sNil, sLst, sTup, sFl, flD, sSl, sPo, sStar, starD, X.fz, sRet, sSeq, sIfS, sSkip, sNev, sAsg, asgX, sAsgT, sPar2, sStF, putD, Tg.asg, setG, fin1, finI, runB, runI, frame, runF, runStarI, permute, sCal, sMth, sNew, sNew0, sEq, sUnI, sIsi, isND, D.isN, isBD, bStr, bInt, bBool, bList, bTuple, D.flat, List.filterMap, List.replicate, LB2, M.ok_bind]
  refine dash_ok fun ys hy => ?_
  obtain ⟨p, q, r, s, e, h1, h2, h3, h4, h5, h6⟩ := ys_of hy
  rw [e]
  obtain ⟨a, rfl⟩ := dash_str h1
  obtain ⟨b, rfl⟩ := dash_str h2
  obtain ⟨c, rfl⟩ := dash_str h3
  exact M.ok_of rfl (z a b c s h1 h2 h3 h4 h5 h6)
theorem lb6 (z : ∀ k : Nat, k < 2 → Q (.nx, LΓ x0 x2 x3 x4 x5 x6 x7 x8 (.v (.int (5 + (k : Int)))) x10 x11 x12 x13 x14 x15 x16 x17 x18 x19 x20 x21 x22)) : (LB6 (LΓ x0 x2 x3 x4 x5 x6 x7 x8 x9 x10 x11 x12 x13 x14 x15 x16 x17 x18 x19 x20 x21 x22)).ok Q := by
  simp [sNm, sK, sAnd, sOr, sNot, sIf, tAndB, tOrB, tNotB, sB, s2, sN, sM, sCh, sCons, sNil, sLst, sTup, sFl, flD, sSl, sPo, sStar, starD, X.fz, sRet, sSeq, sIfS, sSkip, sNev, sAsg, asgX, sAsgT, sPar2, sStF, putD, Tg.asg, setG, fin1, finI, runB, runI, frame, runF, runStarI, permute, sCal, sMth, sNew, sNew0, sEq, sUnI, sIsi, isND, D.isN, isBD, bStr, bInt, bBool, bList, bTuple, D.flat, List.filterMap, List.replicate, LB6, M.ok_bind, semTake, addD]
  intro r hr
  exact z r hr
theorem lb9 (z : ∀ k : Nat, k < 3 → Q (.nx, LΓ x0 x2 x3 x4 x5 x6 x7 x8 x9 x10 x11 x12 (.v (.int (k : Int))) x14 x15 x16 x17 x18 x19 x20 x21 x22)) : (LB9 (LΓ x0 x2 x3 x4 x5 x6 x7 x8 x9 x10 x11 x12 x13 x14 x15 x16 x17 x18 x19 x20 x21 x22)).ok Q := by
  simp [sNm, sK, sAnd, sOr, sNot, sIf, tAndB, tOrB, tNotB, sB, s2, sN, sM, sCh, sCons, sNil, sLst, sTup, sFl, flD, sSl, sPo, sStar, starD, X.fz, sRet, sSeq, sIfS, sSkip, sNev, sAsg, asgX, sAsgT, sPar2, sStF, putD, Tg.asg, setG, fin1, finI, runB, runI, frame, runF, runStarI, permute, sCal, sMth, sNew, sNew0, sEq, sUnI, sIsi, isND, D.isN, isBD, bStr, bInt, bBool, bList, bTuple, D.flat, List.filterMap, List.replicate, LB9, M.ok_bind, semTake]
  intro r hr
  exact z r hr
theorem body_ok (z : ∀ x4 x5 x6 x7 x8 x9 x10 x12 x13 x14 x15 x16 x17 x18, Q (.nx, LΓ x0 (.v (.str "abcdef")) x3 x4 x5 x6 x7 x8 x9 x10 x11 x12 x13 x14 x15 x16 x17 x18 x19 x20 x21 x22)) : (LBb18 (LΓ x0 (.v (.str "abcdef")) x3 x4 x5 x6 x7 x8 x9 x10 x11 x12 x13 x14 x15 x16 x17 x18 x19 x20 x21 x22)).ok Q := by
  unfold LBb18
  refine w_seq (lb2 fun a b c s ha hb hc h1 h2 h3 => ?_)
  show (sSeq LB3 _ _).ok Q
  rw [seq_nx (s3 ha hb), seq_nx (s4 ha hb h1), seq_nx s5]
  refine w_seq (lb6 fun k hk => ?_)
  show (sSeq LB7 _ _).ok Q
  rw [seq_nx (s7 hk), seq_nx (s8 hk)]
  refine w_seq (lb9 fun m hm => ?_)
  show (sSeq LB10 _ _).ok Q
  rw [seq_nx (s10 hm), seq_nx (s11 hm hc), seq_nx (s12 hm), seq_nx (s13 ha hb h1), seq_nx s14, seq_nx s15, seq_nx (s16 hk)]
  exact M.ok_of (s17 hk hm ha hb hc h1 h2 h3) (z _ _ _ _ _ _ _ _ _ _ _ _ _ _)
def rtB (m : M (Fl × List Sl)) : Bool := match m with
  | .ret (.rt (.dt (.bl b)), _) => b
  | _ => false
theorem rtB_ok {m : M (Fl × List Sl)} (h : rtB m = true) : m.ok fun p => p.1 = .rt (.dt (.bl true)) := by
  unfold rtB at h
  split at h
  · subst h
    exact M.ok_of rfl rfl
  · cases h
theorem tail_ok : rtB ((sSeq LB19 (sSeq LB20 (sSeq LB21 (sSeq LB22 (sSeq LB23 (sSeq LB24 LB25)))))) (LΓ x0 x2 x3 x4 x5 x6 x7 x8 x9 x10 x11 x12 x13 x14 x15 x16 x17 x18 x19 x20 x21 x22)) = true := by kernel_rfl
theorem lb1 : LB1 (LΓ x0 x2 x3 x4 x5 x6 x7 x8 x9 x10 x11 x12 x13 x14 x15 x16 x17 x18 x19 x20 x21 x22) = .ret (.nx, LΓ x0 (.v (.str "abcdef")) x3 x4 x5 x6 x7 x8 x9 x10 x11 x12 x13 x14 x15 x16 x17 x18 x19 x20 x21 x22) := rfl
theorem law_ok : (b_law (LΓ x0 x2 x3 x4 x5 x6 x7 x8 x9 x10 x11 x12 x13 x14 x15 x16 x17 x18 x19 x20 x21 x22)).ok fun p => p.1 = .rt (.dt (.bl true)) := by
  rw [LB_eq, seq_nx lb1]
  refine w_step (fun Γ => ∃ x3 x4 x5 x6 x7 x8 x9 x10 x12 x13 x14 x15 x16 x17 x18, Γ = LΓ x0 (.v (.str "abcdef")) x3 x4 x5 x6 x7 x8 x9 x10 x11 x12 x13 x14 x15 x16 x17 x18 x19 x20 x21 x22) ?_ ?_
  · refine w_for (ds := rangeL 0 4) (fun es Γ => ∃ x3 x4 x5 x6 x7 x8 x9 x10 x12 x13 x14 x15 x16 x17 x18, Γ = LΓ x0 (.v (.str "abcdef")) x3 x4 x5 x6 x7 x8 x9 x10 x11 x12 x13 x14 x15 x16 x17 x18 x19 x20 x21 x22) rfl ⟨_, _, _, _, _, _, _, _, _, _, _, _, _, _, _, rfl⟩ ?_ ?_
    · rintro d es _ ⟨x3, x4, x5, x6, x7, x8, x9, x10, x12, x13, x14, x15, x16, x17, x18, rfl⟩
      exact ⟨[(3, d)], rfl, body_ok (x3 := .v d) fun _ _ _ _ _ _ _ _ _ _ _ _ _ _ => ⟨_, _, _, _, _, _, _, _, _, _, _, _, _, _, _, rfl⟩⟩
    · rintro _ h
      exact ⟨rfl, h⟩
  · rintro _ ⟨x3, x4, x5, x6, x7, x8, x9, x10, x12, x13, x14, x15, x16, x17, x18, rfl⟩
    exact rtB_ok tail_ok
end
theorem law_run0 : (b_law (.no :: .v .feed :: List.replicate 21 .no)).ok fun p => p.1 = .rt (.dt (.bl true)) := law_ok
end Toy
namespace Toy
open PySem PySem.Spec PyProof.Rows L2
def dnL : Nat → List Addr
  | 0 => []
  | n + 1 => n :: dnL n
def asL : List Addr := dnL 1200
abbrev R : PySem.W.OpenRow := PySem.W.OpenLaw.row PySem.Challenge.rw_tabsure_k11_grammars_refused
abbrev hk : PySem.W.Hook := Hd.hookY asL fnL fxL exF sdO
def ob (s : PySem.W.SharedT) : Hd.AlY := Hd.obsY asL fnL fxL exF sdO (HandSHeadRun.getT s)
theorem ob_eq (s : PySem.W.SharedT) : ob s = hk.obs s.abs := Hd.obsY_eq (HandSHeadRun.getT_eq s)
/-! the text's dicts ask the world once a key (special-get-raises): one run for each answer -/
def rowB : String := "special-get-raises"
def wb (w : World) (b : Bool) : World := { w with params := { w.params with followText := fun s => bif decide (s = rowB) then b else w.params.followText s } }
theorem wb_eq (w : World) (b : Bool) (h : w.params.followText rowB = b) : wb w b = w := by
  have e : (fun s => bif decide (s = rowB) then b else w.params.followText s) = w.params.followText := by
    funext s
    cases d : decide (s = rowB) with
    | true =>
      rw [of_decide_eq_true d]
      exact h.symm
    | false => rfl
  unfold wb
  rw [e]
set_option maxHeartbeats 0 in
theorem runT (w : World) : HandSHeadRun.RunEq R (PySem.W.view R.prog [iLaw]) hk ob 14000 nmL (wb w true) := by
  intro os
  kernel_rfl
set_option maxHeartbeats 0 in
theorem runF (w : World) : HandSHeadRun.RunEq R (PySem.W.view R.prog [iLaw]) hk ob 14000 nmL (wb w false) := by
  intro os
  kernel_rfl
theorem run (w : World) : HandSHeadRun.RunEq R (PySem.W.view R.prog [iLaw]) hk ob 14000 nmL w := by
  cases h : w.params.followText rowB with
  | true =>
    have z := runT w
    rw [wb_eq w true h] at z
    exact z
  | false =>
    have z := runF w
    rw [wb_eq w false h] at z
    exact z
end Toy
namespace Toy
open PySem PySem.Spec L2 G
open PyProof.Rows hiding St
section
open LamX
def spLawT (K : PySem.W.Frag) (PA : Addr) : Sp := fun vs H Q _ => ∃ (a : Addr) (ns : List Int), vs = [.ref a] ∧ SqL K H a (ns.map V.int) ∧ ns.length ≤ 63 ∧ H PA = some (.tbl #[]) ∧ ∀ H', Q (.bl true) H'
abbrev lawLevel : Nat := lawRoom + 1
def lawΓ (n : Nat) : List Sl := .no :: .v .feed :: List.replicate (n - 2) .no
theorem law_start {B : Cf} {x : Fdx} {p l : Addr} {H : Hp} {N : List Str} {v : V} (hN : 2 ≤ N.length) (hx : x.f = some (p, l)) (ok : x.ok H) : Rl (B.wf x) (p :: x.tb.map Prod.fst) H [] H (lawΓ N.length) ((L2.start N [v]).set 1 (some (.ref p))) := by
  obtain ⟨n, hn⟩ : ∃ n, N.length = n + 2 := ⟨N.length - 2, by omega⟩
  have F := ok.fd p l hx
  have es : (L2.start N [v]).set 1 (some (.ref p)) = some v :: some (.ref p) :: List.replicate n none := by
    unfold L2.start
    simp only [hn, List.length_cons, List.length_nil, List.map_cons, List.map_nil]
    rfl
  have eg : lawΓ N.length = .no :: .v .feed :: List.replicate n .no := by unfold lawΓ; rw [hn]; rfl
  rw [es, eg]
  have slots : ∀ (i : Nat) (s : Sl), ((.no :: .v .feed :: List.replicate n .no : List Sl))[i]? = some s → s = .no ∨ (i = 1 ∧ s = .v .feed) := fun i s h => by
    match i with
    | 0 => simp at h; exact .inl h.symm
    | 1 => simp at h; exact .inr ⟨rfl, h.symm⟩
    | i + 2 =>
      simp only [List.getElem?_cons_succ, List.getElem?_replicate] at h
      split at h
      · exact .inl (Option.some.inj h).symm
      · cases h
  have mem : ∀ a, x.mv a → a ∈ p :: x.tb.map Prod.fst := fun a h => by
    rcases h with ⟨l', h⟩ | ⟨q, h⟩
    · rw [hx] at h; cases h; exact List.mem_cons_self
    · exact List.mem_cons_of_mem _ (List.mem_map.mpr ⟨_, h, rfl⟩)
  refine ⟨by simp, fun i s h => ?_, fun i j o o' a h1 h2 h3 h4 => ?_, fun a h => (by cases h), fun a h => (by cases h), ⟨mem, fun p' l' h => (ok.fd p' l' h).tkl⟩, fun a h => ?_, Ext.of_same (Same.refl _) ok, fun a e => (by cases e)⟩
  · rcases slots i s h with rfl | ⟨rfl, rfl⟩
    · trivial
    · exact ⟨.ref p, rfl, .feed hx⟩
  · rcases slots i _ h1 with e | ⟨_, e⟩ <;> cases e
  · rcases List.mem_cons.mp h with rfl | h
    · exact F.tk
    · obtain ⟨⟨b, q⟩, h1, h2⟩ := List.mem_map.mp h
      subst h2
      exact ok.tk (.inr ⟨q, h1⟩)
section
variable {w : World} {K : PySem.W.Frag} {mg : Str → Option Value} {base : Heap} {c : Cs}
theorem law_fn {f cA PA : Addr} {kV doc pm ct oc : Value} {an od : Option Addr} {osl : Array (Option Value)} (A : AllW w K mg c) (hlaw : (b_law (lawΓ lawNames)).ok fun p => p.1 = .rt (.dt (.bl true))) (TB : TabB base mg cA PA)
    (lk : K.lookup f = some ⟨oc, od, .func (PySem.W.fnOf "law" "law" (defArgs s_law) (defBody s_law) (defScope s_law) .none kV doc pm an (.ref cA) ct), osl⟩) (hcd : PySem.W.codeIn K (.ref cA) "law" = true) :
    FnOk P w K mg base CX0 lawLevel f (PySem.W.fnOf "law" "law" (defArgs s_law) (defBody s_law) (defScope s_law) .none kV doc pm an (.ref cA) ct) ["_law_script"] (spLawT K PA) := by
  have T := A.T
  have c1 := c__law_feed_ok (P := P) (w := w) (base := base) A.d__law_feed T
  refine ⟨fun vs H Q E h => ?_, fun A' outer s H args us vs Q E hr e0 hb hv hs => run_ofS lk hcd sc_law hr e0 hb hv ?_ fun hr => ?_⟩
  · obtain ⟨a, ns, rfl, _⟩ := h; rfl
  · obtain ⟨a, ns, rfl, _⟩ := hs; rfl
  · obtain ⟨a, ns, rfl, hS, hn, hP, q⟩ := hs
    let X := lawX w K mg base (.ref cA) A' outer s H E f
    let fd : Addr → Addr → Fdx := fun p l => ⟨some (p, l), [(PA, lamQ X)], fun j a H => ∃ L tt te, lamL j = some (L, tt, te) ∧ LamT X L a H, fun {j a H H'} e ⟨L, tt, te, h1, h2⟩ => ⟨L, tt, te, h1, h2.mono e⟩⟩
    have lf : ∀ p l, LawFd X ((Bc w K c).wf (fd p l)) [p, PA] lamL := fun p l =>
      ⟨⟨cA, PA, TB, rfl, List.mem_singleton.mpr rfl, fun p hp _ => by rw [List.mem_singleton.mp hp]⟩, fun a ha => by
        rcases List.mem_cons.mp ha with rfl | ha
        · exact .inl ⟨l, rfl⟩
        · rw [List.mem_singleton.mp ha]; exact .inr ⟨_, List.mem_singleton.mpr rfl⟩, fun j L tt te h f H => ⟨fun ⟨L', tt', te', h1, h2⟩ => by rw [h] at h1; cases h1; exact h2, fun h2 => ⟨L, tt, te, h, h2⟩⟩⟩
    refine ⟨_, (pss_cons (ps_set (i := 1) sc_law.nd rfl (by first | exact Or.inl rfl | exact Or.inr rfl) (pe_c c1 (hr.mono (by decide)) (Nat.le_refl 1) (by rfl) (pa_cons (pv 0) pa_nil)))
      (⟨fun pins s1 σ H1 D I ⟨p, l, He, h⟩ => (d_law_ok (w := w) (base := base) A (.ref cA) A' outer s H He E f (fd p l) [p, PA] hr (lf p l)).run pins s1 σ H1 D I h⟩ : PSs X _ fun D σ H1 => ∃ p l He, rdS ((Bc w K c).wf (fd p l)) XN [p, PA] He b_law D σ H1)).nox, ?_⟩
    refine ⟨_, rfl, a, ns, rfl, hS, hn, fun p l H1 S1 F1 hp hl => ?_⟩
    have ok : (fd p l).ok H1 := ⟨fun p' l' e => by cases e; exact F1, fun q hq => by rw [List.mem_singleton.mp hq]; exact TabS.nil (S1 _ _ hP)⟩
    refine ⟨p, l, H1, lawΓ lawNames, [], law_start (x := fd p l) (N := lawN) (by decide) rfl ok, ?_⟩
    refine M.wp_monoE (fun o h => ?_) (fun _ _ z => z.elim) (M.ok_iff.mp hlaw)
    obtain ⟨fl, Γ⟩ := o
    cases h
    intro v H' _ r
    cases (show Rp _ _ v (.bl true) from r)
    exact q H'
end
end
end Toy
namespace Toy
open PySem PySem.Spec PyProof.Rows L2 G
theorem walk {l : PySem.W.OpenLaw} {q : Program} {loose : List Str} {XP : (Str → Option Value) → Heap → Prop} {d : DefRec} (hn : l.most = some 63) (hdf : d.params.defaults = []) (hd : d.name = "law") (hm : (recsOf q).find? (fun e => e.name == ("law" : Str)) = some d) (hP : l.prog = P) :
    PySem.W.WalkO q loose XP hk.says l.row.toRowW d [] (fun f vs => PySem.call f vs) := by
  refine Att.attach_callB hn hdf fun w s₀ s₁ mg mb fa o pm cd doc a vs ns G Y ho hod hcd hmg hobj hints hlen hbits hg => ?_
  obtain ⟨K, KX, nK, c0⟩ := Y
  obtain ⟨c, A⟩ := all_of KX G.T.g c0
  obtain ⟨a', o', fd', cA, PA, h1, h2, h3, h4, h5, h6⟩ := G.T.tab d (List.mem_of_find?_eq_some hm)
  obtain ⟨f, fd, Fn, hmf⟩ := A.d_law.ex
  obtain ⟨oc, od, kV, doc', pm', an, cdv, ct, osl, rfl, lk, hcI⟩ := Fn.ex
  have e1 := hmf.symm.trans (hd ▸ hmg)
  cases e1
  have e2 := hmg.symm.trans h1
  cases e2
  have e3 := KX _ _ lk
  rw [h2] at e3
  cases e3
  cases h3
  have e4 : cdv = .ref cA := h4
  subst e4
  have C : PySem.W.CodeHd s₁.heap cA PA := .of h5 h6
  have hPA : s₁.heap.get? PA = some { cls := .none, data := .fields #[] } := h6.2
  have nP : K.lookup PA = none := by
    cases e : K.lookup PA with
    | none => rfl
    | some o =>
      have z := KX _ _ e
      rw [hPA] at z
      cases z
      have y := List.all_eq_true.mp nK (PA, _) (PySem.W.mem_of_lookupK e)
      cases y
  rw [hP]
  exact LamX.law_callTs (cs := [(cA, PA)]) (sp := spLawT K PA) (k := lawLevel) (x := "_law_script") (CX := CX0) KX G.T.g G.T.b G.T.builtins G.T.nolimit hg
    (fun p hp => by rw [List.mem_singleton.mp hp]; exact hPA) (fun p hp => by rw [List.mem_singleton.mp hp]; exact nP) (fun p hp => by rw [List.mem_singleton.mp hp]; exact C) G.T.bmain hobj hints (Nat.le_trans hlen (by decide)) ⟨rfl, by decide, by decide⟩
    (fun base _ _ TB => law_fn A law_run0 (TB (cA, PA) (List.mem_singleton.mpr rfl)) lk hcI) (fun s u => .of_eq rfl) (fun H hT hS => ⟨a, ns, rfl, hS, hlen, hT (cA, PA) (List.mem_singleton.mpr rfl), fun _ => rfl⟩) fun _ _ _ z => z
end Toy

open PySem PySem.W PySem.Calls PyProof.Rows in
set_option maxRecDepth 100000 in
set_option maxHeartbeats 0 in
theorem PySem.Challenge.cw_tabsure_k11_grammars_refused_holds : PySem.Challenge.rw_tabsure_k11_grammars_refused.Holds := by
  w_on; o_law
  refine HandSHeadRun.head_any (r := OpenLaw.row PySem.Challenge.rw_tabsure_k11_grammars_refused) (q := view (OpenLaw.row PySem.Challenge.rw_tabsure_k11_grammars_refused).prog [Toy.iLaw]) (H := Toy.hk) (ob := Toy.ob) (M := 14000) (loose := Toy.nmL) (d := HandSHeadRun.topDef (OpenLaw.row PySem.Challenge.rw_tabsure_k11_grammars_refused).prog Toy.iLaw) (kwd := []) Toy.ob_eq
    (by kernel_rfl) (fun s => by kernel_rfl) Toy.run (by kernel_rfl) (by kernel_rfl) (by kernel_rfl) (by rfl) (by first | assumption | decide +kernel) (by decide +kernel) ⟨rfl, rfl, rfl, rfl, rfl, by decide +kernel⟩ ?hw ?hc
  case hw => w_witness2
  case hc => exact Toy.walk (l := PySem.Challenge.rw_tabsure_k11_grammars_refused) rfl (by kernel_rfl) (by kernel_rfl) (by kernel_rfl) (by delta Toy.P; rfl)
#print axioms PySem.Challenge.cw_tabsure_k11_grammars_refused_holds
