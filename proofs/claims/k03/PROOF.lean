import PyProof.Rows.All
import Wide.All
import OpenK.AllK
import Wide.FinOn
import HandS.ForMost
import HandS.IsInst
import HandS.Defaults
import HandS.Codes
import HandS.Flow
import HandS.Evl
import HandS.Star
import HandS.MakeKw
import HandS.ClsMeth
import HandS.FStr
import HandS.Style
import HandS.RaiseMore
import KE.GoesEnum
import PySem.Challenge.RW_tabsure_k03_kinds_asked
set_option Elab.async false
set_option linter.all false
set_option maxRecDepth 100000
set_option maxHeartbeats 4000000
namespace L2
open PySem PySem.Spec PyProof.Rows
/-! ### calls of a def by its name -/
structure Cl (P : Program) (w : World) (K : PySem.W.Frag) (mg : Str → Option Value) (base : Heap) (CX : CXT) (k : Nat) (x : Str) (sp : Sp) (dvs : List V) : Prop where
  ex : ∃ (f : Addr) (fd : FuncData) (ps : List Str) (ds : List Value), FnOk P w K mg base CX k f fd ps sp ∧ mg x = some (.ref f) ∧ PySem.W.keepIn K (.ref f) = true ∧ Binds K fd ps ds ∧ Vals dvs ds
section
variable {X : Cx} {k j : Nat} {x : Str} {p pos : Pos} {t : TA} {sp : Sp} {dvs : List V} {e : Expr} {es : List Expr}
theorem pe_c (c : Cl X.prog X.w X.K X.mg X.base CX0 k x sp dvs) (hr : Room j X.A) (hk : k ≤ j) (hg : Gl X x) (ha : PA X (e :: es) t)
    (hdb : (x == ("__debug__" : Str)) = false := by decide) (he : starEach (e :: es) X.env = (false, eval e X.env) :: starEach es X.env := by rfl) (hpl : (backTo pos (starEach es X.env)).any (·.1) = false := by rfl) :
    PE X (.Call (.Name x p) (e :: es) [] pos) (tCall sp dvs E0 t) := by
  obtain ⟨f, fd, ps, ds, F, hm, kp, b, d⟩ := c.ex
  exact pe_call F (hr.mono hk) hg hm kp b d pass0 ha hdb he hpl
end
/-! ### calls with keywords alone -/
structure CalN (P : Program) (w : World) (K : PySem.W.Frag) (mg : Str → Option Value) (base : Heap) (k : Nat) (x : Str) (n : Nat) (ks : List Str) (gV : List V → List V → List V) (sp : Sp) : Prop where
  ex : ∃ (f : Addr) (fd : FuncData) (ps : List Str) (g : List Value → List Value → List Value), FnOk P w K mg base CX0 k f fd ps sp ∧ mg x = some (.ref f) ∧ PySem.W.keepIn K (.ref f) = true ∧ KBn K fd ps n ks g gV
section
variable {X : Cx} {k j n : Nat} {x : Str} {p pos : Pos} {kws : List Keyword} {tk t : TA} {ks : List Str} {gV : List V → List V → List V} {sp : Sp} {e : Expr} {es : List Expr}
theorem pe_ck0 (c : CalN X.prog X.w X.K X.mg X.base k x 0 ks gV sp) (hr : Room j X.A) (hk : k ≤ j) (hg : Gl X x) (hkw : PK X kws tk)
    (hall : (backToKw pos (keywordEach kws X.env)).all (·.1.isSome) = true := by rfl) (hks : (backToKw pos (keywordEach kws X.env)).filterMap (·.1) = ks := by rfl) (hdb : (x == ("__debug__" : Str)) = false := by decide)
    (hpl : ((backTo pos (starEach [] X.env)).any (·.1) || (backToKw pos (keywordEach kws X.env)).any (·.1.isNone)) = false := by rfl) :
    PE X (.Call (.Name x p) [] kws pos) (tCallN 0 ks.length sp gV E0 tNil tk) := by
  obtain ⟨f, fd, ps, g, F, hm, kp, hb⟩ := c.ex
  refine ⟨fun pins s σ H Q I h => ?_⟩
  refine wpAny_Call_Name_kw (ld_glob I hg hm ?_ hdb)
  refine PySem.W.callWith_KW0 (h₀ := X.base) I.ok.mod.kin kp hall ?_ hpl
  refine thn (hkw.run pos pins s σ H _ I h) fun ws s2 ⟨zs, H2, I2, rz, l1, l2, q2⟩ => ⟨I2.kIn, ?_⟩
  rw [hks]
  exact run_fnN (us := []) (vs := []) F (hr.mono hk) hb pass0 I2 .nil rz l1 l2 q2
theorem pe_ck (c : CalN X.prog X.w X.K X.mg X.base k x n ks gV sp) (hr : Room j X.A) (hk : k ≤ j) (hg : Gl X x) (ha : PA X (e :: es) t) (hkw : PK X kws tk)
    (hall : (backToKw pos (keywordEach kws X.env)).all (·.1.isSome) = true := by rfl) (hks : (backToKw pos (keywordEach kws X.env)).filterMap (·.1) = ks := by rfl)
    (hdb : (x == ("__debug__" : Str)) = false := by decide) (he : starEach (e :: es) X.env = (false, eval e X.env) :: starEach es X.env := by rfl)
    (hpl : ((backTo pos (starEach (e :: es) X.env)).any (·.1) || (backToKw pos (keywordEach kws X.env)).any (·.1.isNone)) = false := by rfl) :
    PE X (.Call (.Name x p) (e :: es) kws pos) (tCallN n ks.length sp gV E0 t tk) := by
  obtain ⟨f, fd, ps, g, F, hm, kp, hb⟩ := c.ex
  exact pe_callN F (hr.mono hk) hg hm kp hb pass0 ha hkw hall hks hdb he hpl
end
/-! ### a def of the text -/
structure Df (K : PySem.W.Frag) (mg : Str → Option Value) (x : Str) (st : Stmt) : Prop where
  ex : ∃ (f : Addr) (fd : FuncData), Fun K x x st f fd ∧ mg x = some (.ref f)
theorem df_mk {K : PySem.W.Frag} {h : Heap} {mg : Str → Option Value} {x : Str} {st : Stmt} {f : Addr} {oc : Value} {od an : Option Addr} {osl : Array (Option Value)} {kV doc pm cdv ct : Value} (X : K.In h) (G : h.Ns mainGlobals mg)
    (a : PySem.W.nsIn K mainGlobals x = some (some (.ref f)))
    (l : K.lookup f = some ⟨oc, od, .func (PySem.W.fnOf x x (defArgs st) (defBody st) (defScope st) .none kV doc pm an cdv ct), osl⟩)
    (c : PySem.W.codeIn K cdv x = true) (k : PySem.W.keepIn K (.ref f) = true) : Df K mg x st := ⟨f, _, fun_mk l c k, PySem.W.mg_of X G a⟩
section
variable {P : Program} {w : World} {K : PySem.W.Frag} {mg : Str → Option Value} {base : Heap}
theorem cal_mk {x : Str} {st : Stmt} {N ps : List Str} {k : Nat} {sp : Sp} (D : Df K mg x st) (S : FnScope N ps (defScope st))
    (hb : ∀ (kV doc pm : Value) (an : Option Addr) (cdv ct : Value) (us : List Value), us.length = ps.length → bindArgs (PySem.W.fnOf x x (defArgs st) (defBody st) (defScope st) .none kV doc pm an cdv ct) ⟨us, []⟩ = pure (ps.zip us))
    (len : ∀ vs H Q E, sp vs H Q E → vs.length = ps.length)
    (hbody : ∀ (f : Addr) (cdv : Value) (A : Around) (outer : List Env) (s : Shared) (H : Hp) (vs : List V) (Q : VK) (E : XK), Room k (A.deeper (envOfC x (defScope st) s.heap.objs.size f cdv)) → sp vs H Q E →
      ∃ t, PSs (cxOf CX0 P w K mg base N x (defScope st) f cdv A outer s H E).nox (defBody st) t ∧ t { nx := fun _ H' => Q .non H', rt := Q } (start N vs) H) : Cl P w K mg base CX0 (k + 1) x sp [] := by
  obtain ⟨f, fd, F, hm⟩ := D.ex
  exact ⟨f, fd, ps, [], F.ok S len (hbody f), hm, F.kp, F.binds hb, .nil⟩
end
/-! ### heaps off some addresses -/
def off (H : Hp) (S : List Addr) : Hp := fun b => if b ∈ S then none else H b
theorem off_same (H : Hp) (S : List Addr) : Same (off H S) H := fun b o h => by
  unfold off at h
  split at h
  · cases h
  · exact h
theorem off_ne {H : Hp} {S : List Addr} {b : Addr} (h : b ∉ S) : off H S b = H b := by unfold off; rw [if_neg h]
theorem off_in {H : Hp} {S : List Addr} {b : Addr} (h : b ∈ S) : off H S b = none := by unfold off; rw [if_pos h]
/-- off more addresses: less -/
theorem off_sub {H : Hp} {S T : List Addr} (h : ∀ b ∈ S, b ∈ T) : Same (off H T) (off H S) := fun b o e => by
  by_cases hb : b ∈ T
  · rw [off_in hb] at e; cases e
  · rw [off_ne hb] at e; rw [off_ne fun q => hb (h b q)]; exact e
theorem Same.offT {H H' : Hp} (S : List Addr) (s : Same H H') : Same (off H S) (off H' S) := fun b o h => by
  by_cases e : b ∈ S
  · rw [off_in e] at h; cases h
  · rw [off_ne e] at h ⊢; exact s b o h
/-- the addresses of S are taken -/
def Tk (H : Hp) (S : List Addr) : Prop := ∀ b ∈ S, H b ≠ none
theorem Tk.nil {H : Hp} : Tk H [] := fun b h => by cases h
theorem Tk.cons {H : Hp} {a : Addr} {S : List Addr} (h : H a ≠ none) (t : Tk H S) : Tk H (a :: S) := fun b hb => by
  rcases List.mem_cons.mp hb with rfl | hb
  · exact h
  · exact t b hb
theorem Tk.notIn {H : Hp} {a : Addr} {S : List Addr} (t : Tk H S) (h : H a = none) : a ∉ S := fun q => t a q h
theorem Tk.same {H H' : Hp} {S : List Addr} (t : Tk H S) (e : Same H H') : Tk H' S := fun b hb => by
  cases q : H b with
  | none => exact absurd q (t b hb)
  | some o => rw [e b o q]; intro z; cases z
theorem off_nil {H : Hp} : off H [] = H := by
  funext b; exact off_ne (by simp)
/-- H off S stays when something of S is written anew -/
theorem off_upd {H : Hp} {S : List Addr} {p : Addr} {o : HO} (h : p ∈ S) : off (upd H p o) S = off H S := by
  funext b
  by_cases e : b ∈ S
  · rw [off_in e, off_in e]
  · rw [off_ne e, off_ne e, upd_ne fun q => e (by rw [q]; exact h)]
theorem SqL.offT {K : PySem.W.Frag} {H : Hp} {S : List Addr} {a : Addr} {xs : List V} (h : H a = some (.lst xs)) (n : a ∉ S) : SqL K (off H S) a xs := SqL.of (by rw [off_ne n]; exact h)
theorem SqT.offT {K : PySem.W.Frag} {H : Hp} {S : List Addr} {a : Addr} {xs : List V} (h : H a = some (.tup xs)) (n : a ∉ S) : SqT K (off H S) a xs := SqT.of (by rw [off_ne n]; exact h)
theorem Same.newT {H : Hp} {p : Addr} {o : HO} (h : H p = none) : Same H (upd H p o) := fun b u e => by
  rw [upd_ne (ne_of_none e h)]; exact e
theorem Same.mutT {H H' : Hp} {p : Addr} {o : HO} (e : Same H H') (h : H p = none) : Same H (upd H' p o) := fun a u ha => by
  rw [upd_ne (ne_of_none ha h)]; exact e a u ha
theorem Same.trans_new {H H' : Hp} {p : Addr} {o : HO} (s : Same H H') (h : H' p = none) : Same H (upd H' p o) := s.trans (Same.newT h)
theorem Same.seqTT {K : PySem.W.Frag} {H H' : Hp} {a : Addr} {xs : List V} (e : Same H H') (h : SqT K H a xs) : SqT K H' a xs := by
  rcases h with (h | ⟨o, h⟩) | h
  · exact .inl (.inl (e _ _ h))
  · exact .inl (.inr ⟨o, e _ _ h⟩)
  · exact .inr h
/-! ### data -/
mutual
theorem Dp.monoT {K : PySem.W.Frag} {H H' : Hp} (e : Same H H') : ∀ (d : PyData) {v : V}, Dp K H v d → Dp K H' v d
  | .none, _, h => by cases h; exact .non
  | .bool b, _, h => by cases h; exact .bl b
  | .int i, _, h => by cases h; exact .int i
  | .str x, _, h => by cases h; exact .str x
  | .list ds, _, h => by
    cases h with
    | lst hs ha => exact .lst (Same.seq e hs) (DpAll.monoT e ds ha)
  | .tuple ds, _, h => by
    cases h with
    | tup hs ha => exact .tup (Same.seqTT e hs) (DpAll.monoT e ds ha)
  | .dict _, _, h => by cases h
theorem DpAll.monoT {K : PySem.W.Frag} {H H' : Hp} (e : Same H H') : ∀ (ds : List PyData) {vs : List V}, DpAll K H vs ds → DpAll K H' vs ds
  | [], _, h => by cases h; exact .nil
  | d :: ds, _, h => by
    cases h with
    | cons h1 h2 => exact .cons (Dp.monoT e d h1) (DpAll.monoT e ds h2)
end
theorem DpAll.lengthT {K : PySem.W.Frag} {H : Hp} : ∀ {vs : List V} {ds : List PyData}, DpAll K H vs ds → vs.length = ds.length
  | _, _, .nil => rfl
  | _, _, .cons _ t => congrArg Nat.succ (DpAll.lengthT t)
theorem DpAll.getT {K : PySem.W.Frag} {H : Hp} : ∀ {vs : List V} {ds : List PyData} {i : Nat} {v : V}, DpAll K H vs ds → vs[i]? = some v → ∃ d, ds[i]? = some d ∧ Dp K H v d
  | _, _, _, _, .nil, e => by simp at e
  | _, _, 0, _, .cons h _, e => by simp at e; subst e; exact ⟨_, rfl, h⟩
  | _, _, i + 1, _, .cons _ t, e => by
    obtain ⟨d, h1, h2⟩ := DpAll.getT (i := i) t (by simpa using e)
    exact ⟨d, by simpa using h1, h2⟩
theorem DpAll.getDT {K : PySem.W.Frag} {H : Hp} : ∀ {vs : List V} {ds : List PyData} {i : Nat} {d : PyData}, DpAll K H vs ds → ds[i]? = some d → ∃ v, vs[i]? = some v ∧ Dp K H v d
  | _, _, _, _, .nil, e => by simp at e
  | _, _, 0, _, .cons h _, e => by simp at e; subst e; exact ⟨_, rfl, h⟩
  | _, _, i + 1, _, .cons _ t, e => by
    obtain ⟨v, h1, h2⟩ := DpAll.getDT (i := i) t (by simpa using e)
    exact ⟨v, by simpa using h1, h2⟩
theorem DpAll.memT {K : PySem.W.Frag} {H : Hp} {vs : List V} {ds : List PyData} {v : V} (h : DpAll K H vs ds) (hv : v ∈ vs) : ∃ d ∈ ds, Dp K H v d := by
  obtain ⟨i, hi⟩ := List.mem_iff_getElem?.mp hv
  obtain ⟨d, h1, h2⟩ := h.getT hi
  exact ⟨d, List.mem_of_getElem? h1, h2⟩
theorem DpAll.appendT {K : PySem.W.Frag} {H : Hp} : ∀ {vs us : List V} {ds es : List PyData}, DpAll K H vs ds → DpAll K H us es → DpAll K H (vs ++ us) (ds ++ es)
  | _, _, _, _, .nil, s => s
  | _, _, _, _, .cons h t, s => .cons h (DpAll.appendT t s)
theorem DpAll.strsT {K : PySem.W.Frag} {H : Hp} : ∀ (xs : List Str), DpAll K H (xs.map V.str) (xs.map PyData.str)
  | [] => .nil
  | x :: xs => .cons (.str x) (DpAll.strsT xs)
/-- a value's type's name -/
def tyN : PyData → String
  | .none => "NoneType" | .bool _ => "bool" | .int _ => "int" | .str _ => "str" | .list _ => "list" | .tuple _ => "tuple" | .dict _ => "dict"
theorem Dp.tyT {K : PySem.W.Frag} {H : Hp} {v : V} {d : PyData} (h : Dp K H v d) : TyX K H v (.type (tyN d)) := by
  cases h with
  | non => exact .base .non
  | bl b => exact .base (.bl b)
  | int i => exact .base (.int i)
  | str x => exact .base (.str x)
  | lst hs _ =>
    rcases hs with (h | ⟨o, h⟩) | ⟨o, its, n, h, hc, _⟩
    · exact .base (.lst h)
    · exact .base (.frz h)
    · exact .kList h hc
  | tup hs _ =>
    rcases hs with (h | ⟨o, h⟩) | ⟨o, its, n, h, hc, _⟩
    · exact .base (.tup h)
    · exact .fTuple h
    · exact .kTuple h hc
def isStr : PyData → Bool | .str _ => true | _ => false
def isInt : PyData → Bool | .int _ => true | .bool _ => true | _ => false
def isBool : PyData → Bool | .bool _ => true | _ => false
def isLst : PyData → Bool | .list _ => true | _ => false
def isTup : PyData → Bool | .tuple _ => true | _ => false
def isNonD : PyData → Bool | .none => true | _ => false
theorem kit_str : ∀ d : PyData, kitB (tyN d) "str" = some (isStr d)
  | .none => (by decide +kernel : kitB "NoneType" "str" = some false)
  | .bool _ => (by decide +kernel : kitB "bool" "str" = some false)
  | .int _ => (by decide +kernel : kitB "int" "str" = some false)
  | .str _ => (by decide +kernel : kitB "str" "str" = some true)
  | .list _ => (by decide +kernel : kitB "list" "str" = some false)
  | .tuple _ => (by decide +kernel : kitB "tuple" "str" = some false)
  | .dict _ => (by decide +kernel : kitB "dict" "str" = some false)
theorem kit_int : ∀ d : PyData, kitB (tyN d) "int" = some (isInt d)
  | .none => (by decide +kernel : kitB "NoneType" "int" = some false)
  | .bool _ => (by decide +kernel : kitB "bool" "int" = some true)
  | .int _ => (by decide +kernel : kitB "int" "int" = some true)
  | .str _ => (by decide +kernel : kitB "str" "int" = some false)
  | .list _ => (by decide +kernel : kitB "list" "int" = some false)
  | .tuple _ => (by decide +kernel : kitB "tuple" "int" = some false)
  | .dict _ => (by decide +kernel : kitB "dict" "int" = some false)
theorem kit_bool : ∀ d : PyData, kitB (tyN d) "bool" = some (isBool d)
  | .none => (by decide +kernel : kitB "NoneType" "bool" = some false)
  | .bool _ => (by decide +kernel : kitB "bool" "bool" = some true)
  | .int _ => (by decide +kernel : kitB "int" "bool" = some false)
  | .str _ => (by decide +kernel : kitB "str" "bool" = some false)
  | .list _ => (by decide +kernel : kitB "list" "bool" = some false)
  | .tuple _ => (by decide +kernel : kitB "tuple" "bool" = some false)
  | .dict _ => (by decide +kernel : kitB "dict" "bool" = some false)
theorem kit_list : ∀ d : PyData, kitB (tyN d) "list" = some (isLst d)
  | .none => (by decide +kernel : kitB "NoneType" "list" = some false)
  | .bool _ => (by decide +kernel : kitB "bool" "list" = some false)
  | .int _ => (by decide +kernel : kitB "int" "list" = some false)
  | .str _ => (by decide +kernel : kitB "str" "list" = some false)
  | .list _ => (by decide +kernel : kitB "list" "list" = some true)
  | .tuple _ => (by decide +kernel : kitB "tuple" "list" = some false)
  | .dict _ => (by decide +kernel : kitB "dict" "list" = some false)
theorem kit_tuple : ∀ d : PyData, kitB (tyN d) "tuple" = some (isTup d)
  | .none => (by decide +kernel : kitB "NoneType" "tuple" = some false)
  | .bool _ => (by decide +kernel : kitB "bool" "tuple" = some false)
  | .int _ => (by decide +kernel : kitB "int" "tuple" = some false)
  | .str _ => (by decide +kernel : kitB "str" "tuple" = some false)
  | .list _ => (by decide +kernel : kitB "list" "tuple" = some false)
  | .tuple _ => (by decide +kernel : kitB "tuple" "tuple" = some true)
  | .dict _ => (by decide +kernel : kitB "dict" "tuple" = some false)
section
variable {K : PySem.W.Frag} {H : Hp} {v : V} {d : PyData} {Q : VK}
theorem isi_data {t : String} {b : Bool} (h : Dp K H v d) (e : kitB (tyN d) t = some b) (q : Q (.bl b) H) : rIsi K [v, .ty t] H Q :=
  ⟨v, .ty t, _, _, _, rfl, .ty t, h.tyT, kit_ty e, q⟩
theorem isi_str (h : Dp K H v d) (q : Q (.bl (isStr d)) H) : rIsi K [v, .ty "str"] H Q := isi_data h (kit_str d) q
theorem isi_int (h : Dp K H v d) (q : Q (.bl (isInt d)) H) : rIsi K [v, .ty "int"] H Q := isi_data h (kit_int d) q
theorem isi_bool (h : Dp K H v d) (q : Q (.bl (isBool d)) H) : rIsi K [v, .ty "bool"] H Q := isi_data h (kit_bool d) q
theorem isi_list (h : Dp K H v d) (q : Q (.bl (isLst d)) H) : rIsi K [v, .ty "list"] H Q := isi_data h (kit_list d) q
theorem isi_tuple (h : Dp K H v d) (q : Q (.bl (isTup d)) H) : rIsi K [v, .ty "tuple"] H Q := isi_data h (kit_tuple d) q
theorem clsLT : Paired ClsV [.ty "list", .ty "tuple"] [.type "list", .type "tuple"] := .cons (.ty _) (.cons (.ty _) .nil)
theorem kit_lt {K : PySem.W.Frag} (d : PyData) : PySem.W.kitAny K (.type (tyN d)) [.type "list", .type "tuple"] = some (isLst d || isTup d) := by
  refine kitAny_cons (kit_ty (kit_list d)) (fun e => ?_) (fun e => by rw [e]; rfl)
  rw [e]
  refine kitAny_cons (kit_ty (kit_tuple d)) (fun e2 => ?_) (fun e2 => by rw [e2]; rfl)
  rw [e2]; exact kitAny_nil
theorem Dp.isNonT (h : Dp K H v d) : decide (v = .non) = isNonD d := by
  cases h <;> simp [isNonD]
end
/-! ### a text's signs in a comprehension -/
theorem lc_str {z : Str} {g : TG} {tt : TT} {te : TE} {vs : List Nat} {σ : St} {H1 : Hp} {D : Addr} {Qd : Hp → Prop} (Pv : Nat → Hp → Prop) (h0 : Pv 0 (upd H1 D (.lst [])))
    (hs : ∀ i c H, z.cps.toList[i]? = some c → Pv i H → g (.str ⟨#[c]⟩) (wipe σ vs) H fun σ2 H2 => wipe σ2 vs = wipe σ vs ∧ tt σ2 H2 fun b H3 =>
      if b = true then te σ2 H3 fun y H4 => ∃ acc, H4 D = some (.lst acc) ∧ acc.length < sizeLine ∧ Pv (i + 1) (upd H4 D (.lst (acc ++ [y]))) else Pv (i + 1) H3) (hd : ∀ H, Pv z.cps.toList.length H → Qd H) :
    ∃ W : Nat → Nat → Hp → Prop, (∃ m, W 0 m (upd H1 D (.lst []))) ∧ ∀ i m H, W i m H →
      ((Its z).stop i H ∧ Qd H) ∨ ((Its z).go i H ∧ ∃ Nx : Hp → Prop, (∀ H', Nx H' → ∃ m', m' < m ∧ W (i + 1) m' H') ∧ ∀ x H', (Its z).yld i H x H' → g x (wipe σ vs) H' fun σ2 H2 => wipe σ2 vs = wipe σ vs ∧ tt σ2 H2 fun b H3 =>
        if b = true then te σ2 H3 fun y H4 => ∃ acc, H4 D = some (.lst acc) ∧ acc.length < sizeLine ∧ Nx (upd H4 D (.lst (acc ++ [y]))) else Nx H3) := by
  have hl : z.cps.toList.length = z.cps.size := by simp
  refine ⟨fun i m H => m = z.cps.size - i ∧ i ≤ z.cps.size ∧ Pv i H, ⟨z.cps.size, by simp, Nat.zero_le _, h0⟩, ?_⟩
  rintro i m H ⟨rfl, hi, p⟩
  by_cases hlt : i < z.cps.size
  · refine .inr ⟨hlt, Pv (i + 1), fun H' p' => ⟨z.cps.size - (i + 1), by omega, rfl, hlt, p'⟩, fun x H' y => ?_⟩
    obtain ⟨e, c, hc, rfl⟩ := y
    subst e
    exact hs i c _ (by simpa using hc) p
  · have e : i = z.cps.size := by omega
    subst e
    exact .inl ⟨Nat.le_refl _, hd H (by rw [hl]; exact p)⟩
/-- a comprehension over a text whose element is a value f c; what is made on the way stays -/
theorem lc_strV {z : Str} {g : TG} {tt : TT} {te : TE} {vs : List Nat} {σ : St} {H1 : Hp} {D : Addr} {Qd : Hp → Prop} (f : Nat → V) (hD : H1 D = none) (hz : z.length ≤ 100000)
    (hs : ∀ c H (Nx : V → Hp → Prop), c ∈ z.cps.toList → Same H1 H → (∀ H4, Same H H4 → Nx (f c) H4) → g (.str ⟨#[c]⟩) (wipe σ vs) H fun σ2 H2 => wipe σ2 vs = wipe σ vs ∧ tt σ2 H2 fun b H3 => b = true ∧ te σ2 H3 Nx)
    (hg : ∀ v σ H Q Q', (∀ σ H, Q σ H → Q' σ H) → g v σ H Q → g v σ H Q') (ht : ∀ σ H Q Q', (∀ b H, Q b H → Q' b H) → tt σ H Q → tt σ H Q')
    (hd : ∀ H, Same H1 H → H D = some (.lst (z.cps.toList.map f)) → Qd H) :
    ∃ W : Nat → Nat → Hp → Prop, (∃ m, W 0 m (upd H1 D (.lst []))) ∧ ∀ i m H, W i m H →
      ((Its z).stop i H ∧ Qd H) ∨ ((Its z).go i H ∧ ∃ Nx : Hp → Prop, (∀ H', Nx H' → ∃ m', m' < m ∧ W (i + 1) m' H') ∧ ∀ x H', (Its z).yld i H x H' → g x (wipe σ vs) H' fun σ2 H2 => wipe σ2 vs = wipe σ vs ∧ tt σ2 H2 fun b H3 =>
        if b = true then te σ2 H3 fun y H4 => ∃ acc, H4 D = some (.lst acc) ∧ acc.length < sizeLine ∧ Nx (upd H4 D (.lst (acc ++ [y]))) else Nx H3) := by
  refine lc_str (fun i H => Same H1 H ∧ H D = some (.lst ((z.cps.toList.take i).map f))) ⟨Same.newT hD, upd_same⟩ (fun i c H hc hP => ?_) (fun H hP => hd H hP.1 (by rw [hP.2, List.take_length]))
  obtain ⟨hP1, hP2⟩ := hP
  have hi := (List.getElem?_eq_some_iff.mp hc).1
  have hl : z.cps.toList.length = z.length := by simp [Str.length]
  refine hg _ _ _ _ _ ?_ (hs c H (fun y H4 => ∃ acc, H4 D = some (.lst acc) ∧ acc.length < sizeLine ∧ (Same H1 (upd H4 D (.lst (acc ++ [y]))) ∧ upd H4 D (.lst (acc ++ [y])) D = some (.lst ((z.cps.toList.take (i + 1)).map f)))) (List.mem_of_getElem? hc) hP1 fun H4 S4 => ?_)
  · rintro σ2 H2 ⟨e, h⟩
    refine ⟨e, ht _ _ _ _ ?_ h⟩
    rintro b H3 ⟨rfl, h⟩
    exact h
  · refine ⟨_, S4 _ _ hP2, ?_, Same.mutT (hP1.trans S4) hD, ?_⟩
    · rw [List.length_map, List.length_take]
      have : sizeLine = 16777216 := sizeLine_eq
      omega
    · rw [upd_same, List.take_succ, hc, List.map_append]; rfl
theorem gName_mono {i : Nat} : ∀ v σ H (Q Q' : St → Hp → Prop), (∀ σ H, Q σ H → Q' σ H) → gName i v σ H Q → gName i v σ H Q' := fun v σ H Q Q' h q => h _ _ q
theorem tYes_mono : ∀ σ H (Q Q' : Bool → Hp → Prop), (∀ b H, Q b H → Q' b H) → tYes σ H Q → tYes σ H Q' := fun σ H Q Q' h q => h _ _ q
structure Okd (P : Program) (w : World) (K : PySem.W.Frag) (mg : Str → Option Value) (base : Heap) (CX : CXT) (k : Nat) (x : Str) (st : Stmt) (ps : List Str) (sp : Sp) : Prop where
  ex : ∃ (f : Addr) (fd : FuncData), Fun K x x st f fd ∧ mg x = some (.ref f) ∧ FnOk P w K mg base CX k f fd ps sp
section
variable {P : Program} {w : World} {K : PySem.W.Frag} {mg : Str → Option Value} {base : Heap} {CX : CXT} {k : Nat} {x : Str} {st : Stmt} {ps : List Str} {sp : Sp}
theorem ok_mk {N : List Str} (D : Df K mg x st) (S : FnScope N ps (defScope st))
    (len : ∀ vs H Q E, sp vs H Q E → vs.length = ps.length)
    (hbody : ∀ (f : Addr) (cdv : Value) (A : Around) (outer : List Env) (s : Shared) (H : Hp) (vs : List V) (Q : VK) (E : XK), Room k (A.deeper (envOfC x (defScope st) s.heap.objs.size f cdv)) → sp vs H Q E →
      ∃ t, PSs (cxOf CX0 P w K mg base N x (defScope st) f cdv A outer s H E).nox (defBody st) t ∧ t { nx := fun _ H' => Q .non H', rt := Q } (start N vs) H) : Okd P w K mg base CX0 (k + 1) x st ps sp := by
  obtain ⟨f, fd, F, hm⟩ := D.ex
  exact ⟨f, fd, F, hm, F.ok S len (hbody f)⟩
theorem Okd.cl (o : Okd P w K mg base CX k x st ps sp) (hb : ∀ (kV doc pm : Value) (an : Option Addr) (cdv ct : Value) (us : List Value), us.length = ps.length → bindArgs (PySem.W.fnOf x x (defArgs st) (defBody st) (defScope st) .none kV doc pm an cdv ct) ⟨us, []⟩ = pure (ps.zip us)) :
    Cl P w K mg base CX k x sp [] := by
  obtain ⟨f, fd, F, hm, ok⟩ := o.ex
  exact ⟨f, fd, ps, [], ok, hm, F.kp, F.binds hb, .nil⟩
theorem Okd.cn (o : Okd P w K mg base CX0 k x st ps sp) (n : Nat) (ks : List Str) (g : {α : Type} → List α → List α → List α) (hr : ∀ {vs us zs ws}, Vals vs us → Vals zs ws → Vals (g vs zs) (g us ws))
    (hb : ∀ (kV doc pm : Value) (an : Option Addr) (cdv ct : Value) (us ws : List Value), us.length = n → ws.length = ks.length → bindArgs (PySem.W.fnOf x x (defArgs st) (defBody st) (defScope st) .none kV doc pm an cdv ct) ⟨us, ks.zip ws⟩ = pure (ps.zip (g us ws))) :
    CalN P w K mg base k x n ks (fun vs zs => g vs zs) sp := by
  obtain ⟨f, fd, F, hm, ok⟩ := o.ex
  obtain ⟨oc, od, kV, doc, pm, an, cdv, ct, osl, rfl, lk, hcd⟩ := F.ex
  exact ⟨f, _, ps, fun us ws => g us ws, ok, hm, F.kp, ⟨fun s us ws _ l1 l2 => .of_eq (hb kV doc pm an cdv ct us ws l1 l2), fun r1 r2 => hr r1 r2⟩⟩
end
end L2
namespace L2
open PySem PySem.Spec PyProof.Rows
/-! ### the built-ins' names are not the module's -/
structure Txt (mg : Str → Option Value) : Prop where
  b_len : mg "len" = none
  b_int : mg "int" = none
  b_str : mg "str" = none
  b_bool : mg "bool" = none
  b_list : mg "list" = none
  b_tuple : mg "tuple" = none
  b_range : mg "range" = none
  b_isinstance : mg "isinstance" = none
  b_all : mg "all" = none
  b_any : mg "any" = none
  b_sum : mg "sum" = none
  b_max : mg "max" = none
  b_min : mg "min" = none
  b_sorted : mg "sorted" = none
  b_enumerate : mg "enumerate" = none
  b_zip : mg "zip" = none
  b_dict : mg "dict" = none
  b_set : mg "set" = none
  b_repr : mg "repr" = none
  b_super : mg "super" = none
/-! ### the drawing of numbers -/
def Feed (H : Hp) (p l : Addr) : Prop := ∃ (ns : List Int) (i c s : Int), H p = some (.lst [.ref l, .int i, .int c, .int s]) ∧ H l = some (.lst (ns.map V.int)) ∧ l ≠ p ∧ 0 ≤ i ∧ 0 ≤ c ∧ 0 ≤ s ∧ s < 2147483647 ∧ ns.length < 64
/-- the feed has moved, nothing else -/
def Mv (p l : Addr) (H H' : Hp) : Prop := (∀ b o, b ≠ p → H b = some o → H' b = some o) ∧ Feed H' p l
theorem Feed.tk {p l : Addr} {H : Hp} (h : Feed H p l) : H p ≠ none := by
  obtain ⟨ns, i, c, s, h1, r⟩ := h
  rw [h1]; intro z; cases z
theorem Mv.off {p l : Addr} {H H' : Hp} {S : List Addr} (a : Mv p l H H') (h : p ∈ S) : Same (off H S) (off H' S) := fun b o e => by
  by_cases q : b ∈ S
  · rw [off_in q] at e; cases e
  · rw [off_ne q] at e ⊢; exact a.1 b o (fun z => q (by rw [z]; exact h)) e
theorem Mv.refl {p l : Addr} {H : Hp} (h : Feed H p l) : Mv p l H H := ⟨fun _ _ _ e => e, h⟩
theorem Mv.trans {p l : Addr} {H H1 H2 : Hp} (a : Mv p l H H1) (b : Mv p l H1 H2) : Mv p l H H2 := ⟨fun x o n e => b.1 x o n (a.1 x o n e), b.2⟩
theorem Feed.same {p l : Addr} {H H' : Hp} (h : Feed H p l) (e : Same H H') : Feed H' p l := by
  obtain ⟨ns, i, c, s, h1, h2, r⟩ := h
  exact ⟨ns, i, c, s, e _ _ h1, e _ _ h2, r⟩
theorem Mv.of_same {p l : Addr} {H H' : Hp} (h : Feed H p l) (e : Same H H') : Mv p l H H' := ⟨fun b o _ q => e b o q, h.same e⟩
theorem Mv.same {p l : Addr} {H H1 H2 : Hp} (a : Mv p l H H1) (e : Same H1 H2) : Mv p l H H2 := a.trans (Mv.of_same a.2 e)
theorem Mv.mut {p l D : Addr} {H H1 : Hp} {o : HO} (a : Mv p l H H1) (h : H D = none) (hp : D ≠ p) (hl : D ≠ l) : Mv p l H (upd H1 D o) := by
  refine ⟨fun b u n e => by rw [upd_ne (ne_of_none e h)]; exact a.1 b u n e, ?_⟩
  obtain ⟨ns, i, c, s, h1, h2, r⟩ := a.2
  exact ⟨ns, i, c, s, by rw [upd_ne hp.symm]; exact h1, by rw [upd_ne hl.symm]; exact h2, r⟩
theorem Feed.tkl {p l : Addr} {H : Hp} (h : Feed H p l) : H l ≠ none := by
  obtain ⟨ns, i, c, s, h1, h2, r⟩ := h
  rw [h2]; intro z; cases z
theorem Mv.new {p l q : Addr} {H H1 : Hp} {o : HO} (a : Mv p l H H1) (h : H1 q = none) : Mv p l H (upd H1 q o) := a.same (Same.newT h)
theorem Mv.tk {p l : Addr} {H H' : Hp} {S : List Addr} (a : Mv p l H H') (t : Tk H S) : Tk H' S := fun b hb => by
  by_cases e : b = p
  · subst e; exact a.2.tk
  · cases q : H b with
    | none => exact absurd q (t b hb)
    | some o => rw [a.1 b o e q]; intro z; cases z
/-- the feed's own list is written anew -/
theorem Feed.put {H : Hp} {p l : Addr} {ns : List Int} {i c s : Int} (h2 : H l = some (.lst (ns.map V.int))) (hl : l ≠ p) (h3 : 0 ≤ i) (h4 : 0 ≤ c) (h5 : 0 ≤ s) (h6 : s < 2147483647) (h7 : ns.length < 64) :
    Feed (upd H p (.lst [.ref l, .int i, .int c, .int s])) p l := ⟨ns, i, c, s, upd_same, by rw [upd_ne hl]; exact h2, hl, h3, h4, h5, h6, h7⟩
theorem Mv.put {H : Hp} {p l : Addr} {ns : List Int} {i c s : Int} (h2 : H l = some (.lst (ns.map V.int))) (hl : l ≠ p) (h3 : 0 ≤ i) (h4 : 0 ≤ c) (h5 : 0 ≤ s) (h6 : s < 2147483647) (h7 : ns.length < 64) :
    Mv p l H (upd H p (.lst [.ref l, .int i, .int c, .int s])) := ⟨fun b o n e => by rw [upd_ne n]; exact e, Feed.put h2 hl h3 h4 h5 h6 h7⟩
theorem Dp.on {K : PySem.W.Frag} {H : Hp} {S : List Addr} {v : V} {d : PyData} (h : Dp K (off H S) v d) : Dp K H v d := h.monoT (off_same H S) d
theorem DpAll.on {K : PySem.W.Frag} {H : Hp} {S : List Addr} {v : List V} {d : List PyData} (h : DpAll K (off H S) v d) : DpAll K H v d := h.monoT (off_same H S) d
theorem Dp.mv {K : PySem.W.Frag} {H H' : Hp} {p : Addr} {S : List Addr} {v : V} {d : PyData} (h : Dp K (off H S) v d) (m : Mv p l H H') (hp : p ∈ S) : Dp K (off H' S) v d := h.monoT (m.off hp) d
theorem DpAll.mv {K : PySem.W.Frag} {H H' : Hp} {p : Addr} {S : List Addr} {v : List V} {d : List PyData} (h : DpAll K (off H S) v d) (m : Mv p l H H') (hp : p ∈ S) : DpAll K (off H' S) v d := h.monoT (m.off hp) d
/-- take: a number below many -/
def spTake : Sp := fun vs H Q _ => ∃ (p l : Addr) (m : Int), vs = [.ref p, .int m] ∧ Feed H p l ∧ 0 < m ∧ m < 1000 ∧ ∀ (r : Int) (H' : Hp), 0 ≤ r → r < m → Mv p l H H' → Q (.int r) H'
/-- of: one of some -/
def spOf (K : PySem.W.Frag) : Sp := fun vs H Q _ => ∃ (p l : Addr) (v : V), vs = [.ref p, v] ∧ Feed H p l ∧
  ((∃ a xs, v = .ref a ∧ (SqL K (off H [p]) a xs ∨ SqT K (off H [p]) a xs) ∧ 0 < xs.length ∧ xs.length < 1000 ∧ ∀ x H', x ∈ xs → Mv p l H H' → Q x H') ∨
   (∃ z : Str, v = .str z ∧ 0 < z.length ∧ z.length < 1000 ∧ ∀ c H', c ∈ z.cps.toList → Mv p l H H' → Q (.str ⟨#[c]⟩) H'))
def spFeed (K : PySem.W.Frag) : Sp := fun vs H Q _ => ∃ (a : Addr) (ns : List Int), vs = [.ref a] ∧ SqL K H a (ns.map V.int) ∧ ns.length ≤ 63 ∧ ∀ p l H', Same H H' → Feed H' p l → H p = none → H l = none → Q (.ref p) H'
theorem mod_lt {a b : Int} (h : 0 < b) : 0 ≤ a.fmod b ∧ a.fmod b < b := ⟨Int.fmod_nonneg_of_pos _ h, Int.fmod_lt_of_pos _ h⟩
def dok : Nat → PyData → Bool
  | n + 1, .list ds => decide (ds.length ≤ 100000) && ds.all (dok n)
  | n + 1, .tuple ds => decide (ds.length ≤ 100000) && ds.all (dok n)
  | _, .none => true
  | _, .bool _ => true
  | _, .int _ => true
  | _, .str s => decide (s.length ≤ 100000)
  | _, _ => false
/-- same: two equal data -/
def spSame (K : PySem.W.Frag) : Nat → Sp
  | 0 => fun _ _ _ _ => False
  | n + 1 => fun vs H Q _ => ∃ (a b : V) (d : PyData), vs = [a, b] ∧ Dp K H a d ∧ Dp K H b d ∧ dok n d = true ∧ ∀ H', Same H H' → Q (.bl true) H'
theorem same_seqs {K : PySem.W.Frag} {H : Hp} {a b : V} {d : PyData} {n : Nat} (ha : Dp K H a d) (hb : Dp K H b d) (hd : dok n d = true) (hq : (isLst d || isTup d) = true) :
    ∃ (p q : Addr) (xs ys : List V) (ds : List PyData) (m : Nat), n = m + 1 ∧ a = .ref p ∧ b = .ref q ∧ (SqL K H p xs ∨ SqT K H p xs) ∧ (SqL K H q ys ∨ SqT K H q ys) ∧ DpAll K H xs ds ∧ DpAll K H ys ds ∧ ds.length ≤ 100000 ∧ ∀ d ∈ ds, dok m d = true := by
  cases d with
  | list ds =>
    cases n with
    | zero => cases hd
    | succ m =>
      have hd' : (decide (ds.length ≤ 100000) && ds.all (dok m)) = true := hd
      rw [Bool.and_eq_true, List.all_eq_true] at hd'
      cases ha with
      | lst hs hall =>
        cases hb with
        | lst hs2 hall2 => exact ⟨_, _, _, _, ds, m, rfl, rfl, rfl, .inl hs, .inl hs2, hall, hall2, of_decide_eq_true hd'.1, hd'.2⟩
  | tuple ds =>
    cases n with
    | zero => cases hd
    | succ m =>
      have hd' : (decide (ds.length ≤ 100000) && ds.all (dok m)) = true := hd
      rw [Bool.and_eq_true, List.all_eq_true] at hd'
      cases ha with
      | tup hs hall =>
        cases hb with
        | tup hs2 hall2 => exact ⟨_, _, _, _, ds, m, rfl, rfl, rfl, .inr hs, .inr hs2, hall, hall2, of_decide_eq_true hd'.1, hd'.2⟩
  | _ => cases hq
/-- a place of a list or a tuple -/
theorem ix_any {K : PySem.W.Frag} {H : Hp} {p : Addr} {xs : List V} {i : Nat} {x : V} {z : Int} {Q : VK} (h : SqL K H p xs ∨ SqT K H p xs) (hx : xs[i]? = some x) (hz : z = (i : Int)) (q : Q x H) : rIx K (.ref p) (.int z) H Q := by
  subst hz
  exact h.elim (fun h => .inl ⟨p, xs, _, x, rfl, rfl, h, atI_nat hx, q⟩) (fun h => .inr (.inl ⟨p, xs, _, x, rfl, rfl, h, atI_nat hx, q⟩))
theorem Same.seqs {K : PySem.W.Frag} {H H' : Hp} {p : Addr} {xs : List V} (e : Same H H') (h : SqL K H p xs ∨ SqT K H p xs) : SqL K H' p xs ∨ SqT K H' p xs :=
  h.elim (fun h => .inl (Same.seq e h)) (fun h => .inr (Same.seqTT e h))
theorem len_any {K : PySem.W.Frag} {H : Hp} {p : Addr} {xs : List V} (h : SqL K H p xs ∨ SqT K H p xs) : LenV K (.ref p) H xs.length := h.elim (fun h => .inl ⟨_, h, rfl⟩) (fun h => .inr ⟨_, h, rfl⟩)
end L2
namespace L2
open PySem PySem.Spec PyProof.Rows
/-! ### words -/
def abc_ : Str := "abcdefghijklmnopqrstuvwxyz"
def fig_ : Str := "0123456789"
def sgn_ : Str := "abcdefghijklmnopqrstuvwxyz0123456789-"
def allIn (z Z : Str) : Bool := z.cps.toList.all fun c => decide (c ∈ Z.cps.toList)
def wordS (z : Str) : Bool := (decide ((1 : Int) ≤ ((z.length : Nat) : Int)) && decide (((z.length : Nat) : Int) ≤ 8)) && allIn z sgn_
def wordD : PyData → Bool | .str z => wordS z | _ => false
def headS (z : Str) : Str := cutS z none (some 1)
def tailS (z : Str) : Str := cutS z (some 1) none
def plainS (z : Str) : Bool := wordS z && !decide (headS z = "-")
def plainD : PyData → Bool | .str z => plainS z | _ => false
def numS (z : Str) : Bool := wordS z && (allIn z fig_ && (decide (z = "0") || !decide (headS z = "0")))
def numD : PyData → Bool | .str z => numS z | _ => false
def nameS (z : Str) : Bool := (decide ((1 : Int) ≤ ((z.length : Nat) : Int)) && decide (((z.length : Nat) : Int) ≤ 6)) && allIn z abc_
def nameD : PyData → Bool | .str z => nameS z | _ => false
def optS (z : Str) : Bool := decide (headS z = "-") && nameS (tailS z)
def optD : PyData → Bool | .str z => optS z | _ => false
/-- a predicate of data -/
def spPred (K : PySem.W.Frag) (f : PyData → Bool) : Sp := fun vs H Q _ => ∃ (v : V) (d : PyData) (n : Nat), vs = [v] ∧ Dp K H v d ∧ dok n d = true ∧ ∀ H', Same H H' → Q (.bl (f d)) H'
theorem str_of {d : PyData} (h : isStr d = true) : ∃ z, d = .str z := by cases d <;> first | exact ⟨_, rfl⟩ | cases h
theorem dok_str {n : Nat} {z : Str} (h : dok n (.str z) = true) : z.length ≤ 100000 := by cases n <;> exact of_decide_eq_true h
theorem tl_len (z : Str) : z.cps.toList.length = z.length := by simp [Str.length]
theorem head_at {z : Str} (h : 1 ≤ z.length) : ∃ c, atI z.cps.toList 0 = some c ∧ headS z = ⟨#[c]⟩ := by
  have hl := tl_len z
  obtain ⟨c, r, e⟩ : ∃ c r, z.cps.toList = c :: r := by
    cases q : z.cps.toList with
    | nil => rw [q] at hl; simp at hl; omega
    | cons c r => exact ⟨c, r, rfl⟩
  refine ⟨c, ?_, ?_⟩
  · have h0 : atI z.cps.toList ((0 : Nat) : Int) = some c := atI_nat (by rw [e]; rfl)
    exact h0
  · unfold headS cutS
    have e1 : HT.sIx z.length 0 none = 0 := rfl
    have e2 : HT.sIx z.length z.length (some 1) = 1 := by
      show (if (1 : Int) < 0 then ((1 : Int) + (z.length : Int)).toNat else min (1 : Int).toNat z.length) = 1
      rw [if_neg (by decide)]
      show min 1 z.length = 1
      omega
    rw [e1, e2, e]
    rfl
theorem dstr {a b : Str} : decide (V.str a = V.str b) = decide (a = b) := by
  rw [decide_eq_decide]
  exact ⟨V.str.inj, fun e => by rw [e]⟩
theorem wordS_pos {z : Str} (h : wordS z = true) : 1 ≤ z.length := by
  unfold wordS at h
  rw [Bool.and_eq_true, Bool.and_eq_true] at h
  have q := of_decide_eq_true h.1.1
  omega
/-- all([sign in Z for sign in z]) -/
theorem lc_allIn {z : Str} (Z : Str) {i : Nat} {σ : St} {H : Hp} {te : TE} {D : Addr} {Qd : Hp → Prop} (hD : H D = none) (hz : z.length ≤ 100000) (hw : ∀ x : V, wipe ((wipe σ [i]).set i (some x)) [i] = wipe σ [i])
    (he : ∀ c H Q, Q (.bl (decide (c ∈ Z.cps.toList))) H → te ((wipe σ [i]).set i (some (.str ⟨#[c]⟩))) H Q)
    (k : ∀ H', Same H H' → H' D = some (.lst ((z.cps.toList.map fun c => decide (c ∈ Z.cps.toList)).map V.bl)) → Qd H') :
    ∃ W : Nat → Nat → Hp → Prop, (∃ m, W 0 m (upd H D (.lst []))) ∧ ∀ j m H, W j m H →
      ((Its z).stop j H ∧ Qd H) ∨ ((Its z).go j H ∧ ∃ Nx : Hp → Prop, (∀ H', Nx H' → ∃ m', m' < m ∧ W (j + 1) m' H') ∧ ∀ x H', (Its z).yld j H x H' → gName i x (wipe σ [i]) H' fun σ2 H2 => wipe σ2 [i] = wipe σ [i] ∧ tYes σ2 H2 fun b H3 =>
        if b = true then te σ2 H3 fun y H4 => ∃ acc, H4 D = some (.lst acc) ∧ acc.length < sizeLine ∧ Nx (upd H4 D (.lst (acc ++ [y]))) else Nx H3) := by
  refine lc_strV (fun c => .bl (decide (c ∈ Z.cps.toList))) hD hz (fun c H1 Nx hc S1 h => ?_) gName_mono tYes_mono (fun H1 S1 h1 => ?_)
  · exact ⟨hw _, rfl, he c H1 Nx (h _ (Same.refl _))⟩
  · exact k _ S1 (by rw [h1, List.map_map]; rfl)
theorem all_id {z Z : Str} : (z.cps.toList.map fun c => decide (c ∈ Z.cps.toList)).all id = allIn z Z := by
  rw [List.all_map]; rfl
end L2
namespace L2
open PySem PySem.Spec PyProof.Rows
/-! ### contracts of defs by the form of a call: positional values, keywords named ks -/
abbrev Sp2 := List V → List V → Hp → VK → XK → Prop
structure FnA (P : Program) (w : World) (K : PySem.W.Frag) (mg : Str → Option Value) (base : Heap) (CX : CXT) (k : Nat) (f : Addr) (ks : List Str) (sp : Sp2) : Prop where
  run : ∀ (A : Around) (outer : List Env) (s : Shared) (H : Hp) (us ws : List Value) (vs zs : List V) (Q : VK) (E : XK), Room k A → Env0 P w K mg base A outer s H → Vals vs us → Vals zs ws → zs.length = ks.length → sp vs zs H Q E →
    codeAny (model P w) A (.call (.ref f) ⟨us, ks.zip ws⟩) (CR CX outer P w H s Q E) s
section
variable {P : Program} {w : World} {K : PySem.W.Frag} {mg : Str → Option Value} {base : Heap} {CX : CXT} {k j n : Nat} {f : Addr} {fd : FuncData} {ps ks : List Str} {sp : Sp} {sp2 : Sp2} {ds : List Value} {dvs : List V} {g : List Value → List Value → List Value} {gV : List V → List V → List V}
theorem FnA.mono (F : FnA P w K mg base CX j f ks sp2) (h : j ≤ k) : FnA P w K mg base CX k f ks sp2 := ⟨fun A o s H us ws vs zs Q E hr => F.run A o s H us ws vs zs Q E (hr.mono h)⟩
theorem FnA.imp {sp' : Sp2} (F : FnA P w K mg base CX k f ks sp2) (h : ∀ vs zs H Q E, sp' vs zs H Q E → sp2 vs zs H Q E) : FnA P w K mg base CX k f ks sp' :=
  ⟨fun A o s H us ws vs zs Q E hr he r1 r2 l hs => F.run A o s H us ws vs zs Q E hr he r1 r2 l (h _ _ _ _ _ hs)⟩
theorem kIn0 {A : Around} {outer : List Env} {s : Shared} {H : Hp} (e : Env0 P w K mg base A outer s H) : K.In s.heap := e.mod.kin.keeps fun b o q => (e.bs b o q).1
/-- positional values, then the defaults -/
theorem FnOk.toA (F : FnOk P w K mg base CX k f fd ps sp) (hb : Binds K fd ps ds) (hd : Vals dvs ds) : FnA P w K mg base CX k f [] (fun vs _ H Q E => sp (vs ++ dvs) H Q E) :=
  ⟨fun A o s H us ws vs zs Q E hr he r1 r2 l hs => by
    have r := r1.append hd
    have hl : (us ++ ds).length = ps.length := by rw [← r.length]; exact F.len _ _ _ _ hs
    have := F.run A o s H ⟨us, []⟩ (us ++ ds) (vs ++ dvs) Q E hr he (hb s us (kIn0 he) hl) r hs
    simpa using this⟩
/-- n positional values, keywords named ks -/
theorem FnOk.toK (F : FnOk P w K mg base CX k f fd ps sp) (hb : KBn K fd ps n ks g gV) : FnA P w K mg base CX k f ks (fun vs zs H Q E => vs.length = n ∧ sp (gV vs zs) H Q E) :=
  ⟨fun A o s H us ws vs zs Q E hr he r1 r2 l hs =>
    F.run A o s H ⟨us, ks.zip ws⟩ (g us ws) (gV vs zs) Q E hr he (hb.to s us ws (kIn0 he) (r1.length.symm.trans hs.1) (r2.length.symm.trans l)) (hb.rel r1 r2) hs.2⟩
end
section
variable {X : Cx} {CX : CXT} {k : Nat} {f : Addr} {ks : List Str} {sp : Sp2} {E : XK}
/-- the callee runs, within A -/
theorem run_fnA {A : Around} {pins : List (Addr × Obj)} {σ : St} {H : Hp} {s : Shared} {Q : VK} {us ws : List Value} {vs zs : List V} (F : FnA X.prog X.w X.K X.mg X.base CX k f ks sp) (hr : Room k A) (hf : A.frames = X.A.frames) (hx : Passes CX X E)
    (I : Inv X pins σ H s) (r : Vals vs us) (rz : Vals zs ws) (l : zs.length = ks.length) (h : sp vs zs H Q E) : wpAny (model X.prog X.w) A (call (.ref f) us (ks.zip ws)) (EP X pins σ Q) X.xe s := by
  have e0 : Env0 X.prog X.w X.K X.mg X.base A X.stack s H := by
    have e := I.env0
    exact ⟨by rw [hf]; exact e.frames, e.mod, e.bs, e.bsz, e.funs, e.frf, e.hok, e.bare⟩
  refine wpAny_call (codeAny_mono (F.run A X.stack s H us ws vs zs Q E hr e0 r rz l h) fun r s' hq => ?_)
  cases r with
  | error e => exact hx pins σ H s e s' I hq
  | ok fl =>
    cases fl with
    | ret u => exact I.after hq
    | next => exact False.elim hq
    | brk => exact False.elim hq
    | cont => exact False.elim hq
theorem run_fnA0 {A : Around} {pins : List (Addr × Obj)} {σ : St} {H : Hp} {s : Shared} {Q : VK} {us : List Value} {vs : List V} (F : FnA X.prog X.w X.K X.mg X.base CX k f [] sp) (hr : Room k A) (hf : A.frames = X.A.frames) (hx : Passes CX X E)
    (I : Inv X pins σ H s) (r : Vals vs us) (h : sp vs [] H Q E) : wpAny (model X.prog X.w) A (call (.ref f) us) (EP X pins σ Q) X.xe s := by
  have := run_fnA (ws := []) F hr hf hx I r .nil rfl h
  simpa using this
end
/-! ### methods: the class at C answers to m -/
structure MtC (P : Program) (w : World) (K : PySem.W.Frag) (mg : Str → Option Value) (base : Heap) (CX : CXT) (k : Nat) (C : Addr) (m : Str) (ks : List Str) (sp : Sp2) : Prop where
  ex : ∃ f, Meth K C m f ∧ FnA P w K mg base CX k f ks sp
  cl : Cls K C
section
variable {P : Program} {w : World} {K : PySem.W.Frag} {mg : Str → Option Value} {base : Heap} {CX : CXT} {k j : Nat} {C : Addr} {m : Str} {ks : List Str} {sp sp' : Sp2}
theorem MtC.mono (F : MtC P w K mg base CX j C m ks sp) (h : j ≤ k) : MtC P w K mg base CX k C m ks sp := by
  obtain ⟨⟨f, h1, h2⟩, c⟩ := F
  exact ⟨⟨f, h1, h2.mono h⟩, c⟩
theorem MtC.imp (F : MtC P w K mg base CX k C m ks sp) (h : ∀ vs zs H Q E, sp' vs zs H Q E → sp vs zs H Q E) : MtC P w K mg base CX k C m ks sp' := by
  obtain ⟨⟨f, h1, h2⟩, c⟩ := F
  exact ⟨⟨f, h1, h2.imp h⟩, c⟩
end
def tMethA (X : Cx) (CX : CXT) (k : Nat) (m : Str) (ks : List Str) (E : XK) (ta : TE) (t tk : TA) : TE := fun σ H Q => ta σ H fun x H1 => ∃ a C dx fs sp, x = .ref a ∧ H1 a = some (.ins C dx fs) ∧ fs.lookup m = none ∧ MtC X.prog X.w X.K X.mg X.base CX k C m ks sp ∧
  t σ H1 fun vs H2 => tk σ H2 fun zs H3 => zs.length = ks.length ∧ sp (x :: vs) zs H3 Q E
section
variable {X : Cx} {CX : CXT} {k : Nat} {ks : List Str} {E : XK} {m : Str} {apos pos : Pos} {o e : Expr} {es : List Expr} {kws : List Keyword} {ta : TE} {t tk : TA} {pl : Sem Bool}
theorem pe_methA (hr : Room k X.A) (hx : Passes CX X E) (he : PE X o ta) (ha : PA X (e :: es) t) (hkw : PK X kws tk)
    (hall : (backToKw pos (keywordEach kws X.env)).all (·.1.isSome) = true := by rfl) (hks : (backToKw pos (keywordEach kws X.env)).filterMap (·.1) = ks := by rfl)
    (hst : starEach (e :: es) X.env = (false, eval e X.env) :: starEach es X.env := by rfl)
    (hpl : ((backTo pos (starEach (e :: es) X.env)).any (·.1) || (backToKw pos (keywordEach kws X.env)).any (·.1.isNone)) = false := by rfl)
    (ht : eval (.Call (.Attribute o m apos) (e :: es) kws pos) X.env = (do
      let ov ← eval o X.env
      standAt apos.atName
      let (f, first) ← holding [ov] (getMethod ov m pl)
      callWith pos f first (backTo pos (starEach (e :: es) X.env)) (backToKw pos (keywordEach kws X.env))) := by rfl) :
    PE X (.Call (.Attribute o m apos) (e :: es) kws pos) (tMethA X CX k m ks E ta t tk) := by
  refine ⟨fun pins s σ H Q I h => ?_⟩
  refine PySem.W.methodCall_KW (pl := pl) (thn (he.run pins s σ H _ I h) fun u s1 ⟨x, H1, I1, rx, a, C, dx, fs, sp, ex, ea, l, M, q⟩ => ?_) ht
  subst ex
  obtain rfl : u = Value.ref a := rx
  obtain ⟨⟨f, hm, F⟩, c⟩ := M
  refine getmeth_ok I1 ea c hm l ?_
  refine PySem.W.callWith_KW (first := [.ref a]) (h₀ := X.base) I.ok.mod.kin hm.kp hall (thn (ha.run pos pins s1 σ H1 _ I1 q) fun us s2 ⟨vs, H2, I2, r, q2⟩ => ?_) hpl hst
  refine thn (hkw.run pos pins s2 σ H2 _ I2 q2) fun ws s3 ⟨zs, H3, I3, rz, l2, q3⟩ => ⟨I3.kIn, ?_⟩
  rw [hks]
  exact run_fnA (us := .ref a :: us) (vs := .ref a :: vs) F hr rfl hx I3 (.cons rfl r) rz l2 q3
theorem pe_methA0 (hr : Room k X.A) (hx : Passes CX X E) (he : PE X o ta) (hkw : PK X kws tk)
    (hall : (backToKw pos (keywordEach kws X.env)).all (·.1.isSome) = true := by rfl) (hks : (backToKw pos (keywordEach kws X.env)).filterMap (·.1) = ks := by rfl)
    (hpl : ((backTo pos (starEach [] X.env)).any (·.1) || (backToKw pos (keywordEach kws X.env)).any (·.1.isNone)) = false := by rfl)
    (ht : eval (.Call (.Attribute o m apos) [] kws pos) X.env = (do
      let ov ← eval o X.env
      standAt apos.atName
      let (f, first) ← holding [ov] (getMethod ov m pl)
      callWith pos f first (backTo pos (starEach [] X.env)) (backToKw pos (keywordEach kws X.env))) := by rfl) :
    PE X (.Call (.Attribute o m apos) [] kws pos) (tMethA X CX k m ks E ta tNil tk) := by
  refine ⟨fun pins s σ H Q I h => ?_⟩
  refine PySem.W.methodCall_KW (pl := pl) (thn (he.run pins s σ H _ I h) fun u s1 ⟨x, H1, I1, rx, a, C, dx, fs, sp, ex, ea, l, M, q⟩ => ?_) ht
  subst ex
  obtain rfl : u = Value.ref a := rx
  obtain ⟨⟨f, hm, F⟩, c⟩ := M
  refine getmeth_ok I1 ea c hm l ?_
  refine PySem.W.callWith_KW0 (first := [.ref a]) (h₀ := X.base) I.ok.mod.kin hm.kp hall ?_ hpl
  refine thn (hkw.run pos pins s1 σ H1 _ I1 q) fun ws s3 ⟨zs, H3, I3, rz, l2, q3⟩ => ⟨I3.kIn, ?_⟩
  rw [hks]
  exact run_fnA (us := [.ref a]) (vs := [.ref a]) F hr rfl hx I3 (.cons rfl .nil) rz l2 q3
end
/-! ### new instances: the name x is the class at C -/
structure MkA (P : Program) (w : World) (K : PySem.W.Frag) (mg : Str → Option Value) (base : Heap) (CX : CXT) (k : Nat) (x : Str) (C : Addr) (ks : List Str) (sp : Sp2) : Prop where
  ex : ∃ f, Mk K C f ∧ FnA P w K mg base CX k f ks sp
  mg : mg x = some (.ref C)
def tMakeA (C : Addr) (ks : List Str) (sp : Sp2) (E : XK) (t tk : TA) : TE := fun σ H Q => t σ H fun vs H1 => tk σ H1 fun zs H2 => zs.length = ks.length ∧ ∀ x dx, H2 x = none → H2 dx = none → dx ≠ x →
  sp (.ref x :: vs) zs (upd (upd H2 dx (.own x)) x (.ins C dx [])) (fun v H3 => v = .non ∧ Q (.ref x) H3) E
section
variable {X : Cx} {CX : CXT} {k j : Nat} {C : Addr} {ks : List Str} {sp : Sp2} {E : XK} {x : Str} {p pos : Pos} {e : Expr} {es : List Expr} {kws : List Keyword} {t tk : TA}
theorem run_makeA {pins : List (Addr × Obj)} {σ : St} {H : Hp} {s : Shared} {Q : VK} {us ws : List Value} {vs zs : List V} (M : MkA X.prog X.w X.K X.mg X.base CX k x C ks sp) (hr : Room (k + 1) X.A) (hx : Passes CX X E) (I : Inv X pins σ H s) (r : Vals vs us) (rz : Vals zs ws) (l : zs.length = ks.length)
    (h : ∀ x dx, H x = none → H dx = none → dx ≠ x → sp (.ref x :: vs) zs (upd (upd H dx (.own x)) x (.ins C dx [])) (fun v H2 => v = .non ∧ Q (.ref x) H2) E) :
    wpAny (model X.prog X.w) X.A (call (.ref C) us (ks.zip ws)) (EP X pins σ Q) X.xe s := by
  obtain ⟨⟨f, M, F⟩, _⟩ := M
  have hq := h (s.heap.objs.size + 1) s.heap.objs.size (I.hok.fresh (Nat.le_succ _)) (I.hok.fresh (Nat.le_refl _)) (Nat.ne_of_lt (Nat.lt_succ_self _))
  have I2 := Inv.made (C := C) I
  have r1 : Vals (V.ref (s.heap.objs.size + 1) :: vs) (Value.ref (s.heap.objs.size + 1) :: us) := .cons rfl r
  refine wpAny_call (make_map (f := f) I.kIn M.makes M.init (beq_iff_eq.mp M.fn) (codeAny_mono (F.run _ X.stack _ _ (Value.ref (s.heap.objs.size + 1) :: us) ws _ _ _ E (hr.make C us (ks.zip ws))
    (I2.env0.make C us (ks.zip ws)) r1 rz l hq) fun r s' hq' => ?_))
  cases r with
  | error e => exact hx pins σ _ _ e s' I2 hq'
  | ok fl =>
    cases fl with
    | ret u =>
      obtain ⟨v, H', I3, rv, ev, q3⟩ := I2.after hq'
      subst ev
      exact ⟨rv, ⟨V.ref (s.heap.objs.size + 1), H', I3, rfl, q3⟩⟩
    | next => exact False.elim hq'
    | brk => exact False.elim hq'
    | cont => exact False.elim hq'
theorem pe_makeA (M : MkA X.prog X.w X.K X.mg X.base CX k x C ks sp) (hr : Room j X.A) (hk : k + 1 ≤ j) (hx : Passes CX X E) (hg : Gl X x) (ha : PA X (e :: es) t) (hkw : PK X kws tk)
    (hall : (backToKw pos (keywordEach kws X.env)).all (·.1.isSome) = true := by rfl) (hks : (backToKw pos (keywordEach kws X.env)).filterMap (·.1) = ks := by rfl)
    (hdb : (x == ("__debug__" : Str)) = false := by decide) (he : starEach (e :: es) X.env = (false, eval e X.env) :: starEach es X.env := by rfl)
    (hpl : ((backTo pos (starEach (e :: es) X.env)).any (·.1) || (backToKw pos (keywordEach kws X.env)).any (·.1.isNone)) = false := by rfl) :
    PE X (.Call (.Name x p) (e :: es) kws pos) (tMakeA C ks sp E t tk) := by
  refine ⟨fun pins s σ H Q I h => ?_⟩
  obtain ⟨f, m, F⟩ := M.ex
  refine wpAny_Call_Name_kw (ld_glob I hg M.mg ?_ hdb)
  refine PySem.W.callWith_KW (h₀ := X.base) I.ok.mod.kin m.kp hall (thn (ha.run pos pins s σ H _ I h) fun us s1 ⟨vs, H1, I1, r, q⟩ => ?_) hpl he
  refine thn (hkw.run pos pins s1 σ H1 _ I1 q) fun ws s2 ⟨zs, H2, I2, rz, l2, q2⟩ => ⟨I2.kIn, ?_⟩
  rw [hks]
  exact run_makeA M (hr.mono hk) hx I2 r rz l2 q2
theorem pe_makeA0 (M : MkA X.prog X.w X.K X.mg X.base CX k x C ks sp) (hr : Room j X.A) (hk : k + 1 ≤ j) (hx : Passes CX X E) (hg : Gl X x) (hkw : PK X kws tk)
    (hall : (backToKw pos (keywordEach kws X.env)).all (·.1.isSome) = true := by rfl) (hks : (backToKw pos (keywordEach kws X.env)).filterMap (·.1) = ks := by rfl) (hdb : (x == ("__debug__" : Str)) = false := by decide)
    (hpl : ((backTo pos (starEach [] X.env)).any (·.1) || (backToKw pos (keywordEach kws X.env)).any (·.1.isNone)) = false := by rfl) :
    PE X (.Call (.Name x p) [] kws pos) (tMakeA C ks sp E tNil tk) := by
  refine ⟨fun pins s σ H Q I h => ?_⟩
  obtain ⟨f, m, F⟩ := M.ex
  refine wpAny_Call_Name_kw (ld_glob I hg M.mg ?_ hdb)
  refine PySem.W.callWith_KW0 (h₀ := X.base) I.ok.mod.kin m.kp hall ?_ hpl
  refine thn (hkw.run pos pins s σ H _ I h) fun ws s2 ⟨zs, H2, I2, rz, l2, q2⟩ => ⟨I2.kIn, ?_⟩
  rw [hks]
  exact run_makeA (us := []) (vs := []) M (hr.mono hk) hx I2 .nil rz l2 q2
end
/-- a class without __init__ -/
structure Mk0 (K : PySem.W.Frag) (mg : Str → Option Value) (x : Str) (C : Addr) : Prop where
  makes : PySem.W.makesIn K C = true
  init : PySem.W.findIn K (.ref C) "__init__" = some (some (.builtin "object.__init__"))
  kp : PySem.W.keepIn K (.ref C) = true
  mg : mg x = some (.ref C)
def tMake0 (C : Addr) : TE := fun _ H Q => ∀ x dx, H x = none → H dx = none → dx ≠ x → Q (.ref x) (upd (upd H dx (.own x)) x (.ins C dx []))
theorem make_plain0 {prog : Program} {w : World} {A : Around} {K : PySem.W.Frag} {C : Addr} {R : Result → Shared → Prop} {s : Shared} (X : K.In s.heap) (hm : PySem.W.makesIn K C = true) (hi : PySem.W.findIn K (.ref C) "__init__" = some (some (.builtin "object.__init__")))
    (h : R (.ok (.ret (.ref (s.heap.objs.size + 1)))) { s with heap := (s.heap.push PySem.W.emptyDict).push (PySem.W.instObj C s.heap.objs.size) }) : codeAny (model prog w) A (.call (.ref C) ⟨[], []⟩) R s := by
  obtain ⟨hh, g, d, t, os⟩ := s
  have Y := PySem.W.makes_of (M := model prog w) X hm
  have e2 : ((hh.push PySem.W.emptyDict).push (PySem.W.instObj C hh.objs.size)).get? (hh.objs.size + 1) = some (PySem.W.instObj C hh.objs.size) := by
    have := Heap.get?_push_size (hh.push PySem.W.emptyDict) (o := PySem.W.instObj C hh.objs.size) rfl
    rwa [Heap.size_push] at this
  refine PySem.W.make_core Y (PySem.W.looks_findIn X hi) (fun self => PySem.W.Looks.of_pure (PySem.W.oi_bind self)) (.inr ⟨rfl, rfl⟩) ?_
  have t1 : PySem.W.Looks (model prog w) ((hh.push PySem.W.emptyDict).push (PySem.W.instObj C hh.objs.size)) (typeOf (.ref (hh.objs.size + 1))) (.ref C) := (PySem.W.Looks.ld e2).andThen .now
  have t2 : PySem.W.Looks (model prog w) ((hh.push PySem.W.emptyDict).push (PySem.W.instObj C hh.objs.size)) (isInstance (.ref (hh.objs.size + 1)) (.type "object")) true := t1.andThen (Y.top.keeps fun b o e => Heap.get?_push_of_some _ (Heap.get?_push_of_some _ e))
  refine codeAny_call_builtin PySem.W.oi_plain PySem.W.entry_oi (@PySem.W.check_slot (model prog w) _ _ _ "object.__init__" "object" "__init__" (.ref (hh.objs.size + 1)) [] [] _ PySem.W.oi_kind PySem.W.oi_split t2 (PySem.W.oi_args (.ref (hh.objs.size + 1))) ?_)
  rw [PySem.W.oi_run]
  exact wpAny_pure (And.intro rfl h)
section
variable {X : Cx} {C : Addr} {x : Str} {p pos : Pos}
theorem pe_make00 (M : Mk0 X.K X.mg x C) (hg : Gl X x) (hdb : (x == ("__debug__" : Str)) = false := by decide) : PE X (.Call (.Name x p) [] [] pos) (tMake0 C) := by
  refine ⟨fun pins s σ H Q I h => ?_⟩
  refine wpAny_Call_Name_kw (ld_glob I hg M.mg ?_ hdb)
  refine PySem.W.callWith_K0 I.kIn M.kp (wpAny_call (make_plain0 I.kIn M.makes M.init ?_))
  exact ⟨.ref (s.heap.objs.size + 1), _, Inv.made (C := C) I, rfl, h _ _ (I.hok.fresh (Nat.le_succ _)) (I.hok.fresh (Nat.le_refl _)) (Nat.ne_of_lt (Nat.lt_succ_self _))⟩
end
/-! ### a value's type as the library looks it up -/
theorem looks_ty {X : Cx} {pins : List (Addr × Obj)} {σ : St} {H : Hp} {s : Shared} {M : Model} {y : V} {u t : Value} (I : Inv X pins σ H s) (ry : RelV y u) (ty : TyOf X.K H y t) : PySem.W.Looks M s.heap (typeOf u) t := by
  cases ty with
  | non => cases (show u = Value.none from ry); exact PySem.W.Looks.of_pure rfl
  | bl y => cases (show u = Value.bool y from ry); exact PySem.W.Looks.of_pure rfl
  | int i => obtain ⟨t, q⟩ := (show ∃ t, u = Value.int i t from ry); cases q; exact PySem.W.Looks.of_pure rfl
  | str y => obtain ⟨t, q⟩ := (show ∃ t, u = Value.str y t from ry); cases q; exact PySem.W.Looks.of_pure rfl
  | flt y => obtain ⟨t, q⟩ := (show ∃ t, u = Value.float y t from ry); cases q; exact PySem.W.Looks.of_pure rfl
  | @lst a xs ea =>
    cases (show u = Value.ref a from ry)
    obtain ⟨_, _, n, _, h1⟩ := (show ObjOk X.prog X.w H s.heap a (.lst xs) from I.hok a _ ea)
    exact (PySem.W.Looks.ld h1).andThen .now
  | @frz a ob xs ea =>
    cases (show u = Value.ref a from ry)
    obtain ⟨_, _, _, n, _, h1⟩ := (show ObjOk X.prog X.w H s.heap a (.frz ob (.lst xs)) from I.hok a _ ea)
    exact (PySem.W.Looks.ld h1).andThen .now
  | @tup a xs ea =>
    cases (show u = Value.ref a from ry)
    obtain ⟨_, _, _, o, h1, h2, _⟩ := (show ObjOk X.prog X.w H s.heap a (.tup xs) from I.hok a _ ea)
    exact h2 ▸ (PySem.W.Looks.ld h1).andThen .now
  | @dK a kvs ea =>
    cases (show u = Value.ref a from ry)
    obtain ⟨_, _, vs, _, o, es, ep, h1, h2, _⟩ := (show ObjOk X.prog X.w H s.heap a (.dK kvs) from I.hok a _ ea)
    exact h2.1 ▸ (PySem.W.Looks.ld h1).andThen .now
  | @dT a kvs ea =>
    cases (show u = Value.ref a from ry)
    obtain ⟨_, _, xs, _, o, es, ep, h1, h2, _⟩ := (show ObjOk X.prog X.w H s.heap a (.dT kvs) from I.hok a _ ea)
    exact h2.1 ▸ (PySem.W.Looks.ld h1).andThen .now
  | @ins a C dx fs ea cl ha hn htk hm =>
    cases (show u = Value.ref a from ry)
    obtain ⟨mA, O, _⟩ := ins_get I.hok ea
    obtain ⟨od, J, _⟩ := O.look
    exact J.type
/-! ### == and != by the class's own __eq__ -/
theorem rel_cmp {Q : Value → Shared → Prop} {v : V} {u : Value} {s' : Shared} (r : RelV v u) (h : Q u s') : PySem.W.CmpBack Q u s' := by
  cases u <;> first | exact h | (cases v <;> first | exact r.elim | (obtain ⟨_, z⟩ := r; cases z) | cases r)
def rEqI (X : Cx) (CX : CXT) (k : Nat) (E : XK) : R2 := fun x y H Q => ∃ a C dx fs sp t, x = .ref a ∧ H a = some (.ins C dx fs) ∧ MtC X.prog X.w X.K X.mg X.base CX k C "__eq__" [] sp ∧ TyOf X.K H y t ∧ PySem.W.notFirst X.K C t = true ∧ sp [x, y] [] H Q E
theorem op_eqI {X : Cx} {CX : CXT} {k : Nat} {E : XK} (hr : Room k X.A) (hx : Passes CX X E) : OpR X (compareOp .Eq) (rEqI X CX k E) := by
  rintro pins s σ H x y u v Q I rx ry ⟨a, C, dx, fs, sp, t, rfl, ha, M, ty, nf, q⟩
  obtain rfl : u = Value.ref a := rx
  obtain ⟨⟨f, hm, F⟩, c⟩ := M
  obtain ⟨mA, J, _⟩ := ins_get I.hok ha
  obtain ⟨od, J, _⟩ := J.look
  obtain ⟨m, hF⟩ := I.fr
  show wpAny (model X.prog X.w) X.A (richCompare .Eq (.ref a) v) (EP X pins σ Q) X.xe s
  refine PySem.W.cmp_K (op := .Eq) hr.units0 hF I.ok.mod.kin J (looks_ty I ry ty) nf hm.at_ hm.fn ?_
  exact wpAny_mono (run_fnA0 (us := [.ref a, v]) (vs := [.ref a, y]) F hr rfl hx I (.cons rfl (.cons ry .nil)) q) (fun r s' h => let ⟨_, _, _, rv, _⟩ := h; rel_cmp rv h) fun _ _ e => e
theorem ifBound_B {M : Model} {A : Around} {E : Value → Shared → Prop} {s : Shared} {K : PySem.W.Frag} {x C : Addr} {ox : Obj} {od : Option Obj} {name : Str} {id : String} {args : List Value} {Q : Option Value → Shared → Prop} (X : K.In s.heap) (I : PySem.W.InstAt s.heap x ox C od)
    (hs : PySem.W.findIn K (.ref C) name = some (some (.builtin id))) (hb : ∀ self, bindSpecial (.builtin id) self = pure (.builtin id, [self]))
    (h : wpAny M A (call (.builtin id) (.ref x :: args)) (fun v => Q (some v)) E s) : wpAny M A (callSpecialIfBound? (.ref x) name args) Q E s := by
  simp only [callSpecialIfBound?, bindSpecialIfBound?]
  refine wpAny_holding (wpAny_bind (wpAny_bind (wpAny_bind (I.type.here ((PySem.W.looks_findIn X hs).here ?_)))))
  refine wpAny_bind (wpAny_askSetting (wpAny_ite ?_))
  have fin : wpAny M A (call (.builtin id) ([.ref x] ++ args) >>= fun v => pure (some v)) Q E s := wpAny_bind (wpAny_mono h (fun v s' h' => wpAny_pure h') fun _ _ h' => h')
  split
  · exact wpAny_bind ((PySem.W.Looks.of_pure (hb _)).here (wpAny_pure (by exact fin)))
  · exact wpAny_tryCatch (wpAny_bind ((PySem.W.Looks.of_pure (hb _)).here (wpAny_pure (by exact fin))))
theorem one_bind (self : Value) : bindSpecial (.builtin "object.__ne__") self = pure (.builtin "object.__ne__", [self]) :=
  (Slot.of (T := "object") (name := "__ne__") (owner := "object") (n := "__ne__") (by rw [typeLookup_type, builtinLookup_eq_fast]; kernel_rfl) (by decide +kernel) (by decide +kernel) (by decide +kernel)
    (.inl (by decide +kernel)) (by rw [isSubtype_type]; kernel_rfl)).bind self
theorem one_plain : plainId "object.__ne__" = true := by decide +kernel
section
variable {prog : Program} {w : World} {A : Around} {E : Value → Shared → Prop} {s : Shared} {K : PySem.W.Frag} {x C f : Addr} {ox : Obj} {od : Option Obj} {b tb : Value}
theorem ne_own {Q : Value → Shared → Prop} (hu : A.units + 1 < cLine) (X : K.In s.heap) (I : PySem.W.InstAt s.heap x ox C od) (hb : PySem.W.Looks (model prog w) s.heap (typeOf b) tb) (hn : PySem.W.notFirst K C tb = true)
    (hne : PySem.W.findIn K (.ref C) "__ne__" = some (some (.builtin "object.__ne__"))) (ho : PySem.W.mroIn K C (.type "object") = some true) (hs : PySem.W.findIn K (.ref C) "__eq__" = some (some (.ref f))) (hf : PySem.W.isFn K (.ref f) = true)
    (h : wpAny (model prog w) A.in1 (call (.ref f) [.ref x, b]) (fun v s' => ∃ c, v = .bool c ∧ Q (.bool (!c)) s') E s) : wpAny (model prog w) A (richCompare .NotEq (.ref x) b) Q E s := by
  have one : wpAny (model prog w) A (tryCompare (.ref x) "__ne__" b) (fun r s' => ∃ v, r = some v ∧ Q v s') E s := by
    unfold tryCompare
    refine wpAny_bind (ifBound_B X I hne one_bind (wpAny_call (codeAny_call_builtin one_plain PySem.F.cmpEntry_ne
      (@PySem.W.check_slot (model prog w) _ _ _ "object.__ne__" "object" "__ne__" (.ref x) [b] [] _ PySem.F.cmpKind_ne PySem.F.cmpSplit_ne (I.type.andThen (PySem.W.looks_mroIn X ho)) (PySem.F.cmpArgs_ne _ _) ?_))))
    have hu1 : A.in1.units < cLine := by show A.units + 1 < cLine; exact hu
    unfold Builtin.«object.__ne__»
    repeat (first
      | with_reducible refine wpAny_cRoomFor hu1 ?_
      | (refine wpAny_bind (m := callSpecialIfBound? (.ref x) (Str.ofString "__eq__") [b])
          (PySem.W.ifBound_K X I hs hf (wpAny_mono h (fun r s' hr => by
            obtain ⟨c, rfl, hq⟩ := hr
            repeat (first | exact ⟨_, rfl, hq⟩ | exact wpAny_pure ⟨_, rfl, hq⟩ | exact wpAny_pure (wpAny_pure ⟨_, rfl, hq⟩) | exact wpAny_truthy_bool ⟨_, rfl, hq⟩ | (refine wpAny_bind (m := truthy (.bool _)) (wpAny_truthy_bool ?_)) | wp_step)) fun _ _ e => e)))
      | wp_step)
  unfold richCompare
  simp only [oneThing_ref]
  refine wpAny_holding (wpAny_bind (wpAny_cRoomFor (Nat.lt_of_succ_lt hu) ?_))
  refine wpAny_bind (I.type.here (wpAny_bind (hb.here ?_)))
  split
  · rename_i q
    have e : PySem.W.subIn K tb (.ref C) = some false := by
      rcases Bool.or_eq_true_iff.mp hn with e | e
      · rw [beq_iff_eq.mp e] at q; simp at q
      · exact beq_iff_eq.mp e
    refine wpAny_bind ((PySem.W.looks_subIn X e).here ?_)
    simp only [Bool.false_eq_true, if_false]
    refine wpAny_bind (wpAny_mono one (fun r s' z => ?_) fun _ _ e => e)
    obtain ⟨v, rfl, hq⟩ := z
    exact wpAny_pure hq
  · refine wpAny_bind (wpAny_pure ?_)
    simp only [Bool.false_eq_true, if_false]
    refine wpAny_bind (wpAny_mono one (fun r s' z => ?_) fun _ _ e => e)
    obtain ⟨v, rfl, hq⟩ := z
    exact wpAny_pure hq
end
/-- the class has no __ne__ of its own -/
structure NoNe (K : PySem.W.Frag) (C : Addr) : Prop where
  ne : PySem.W.findIn K (.ref C) "__ne__" = some (some (.builtin "object.__ne__"))
  ob : PySem.W.mroIn K C (.type "object") = some true
def rNeI (X : Cx) (CX : CXT) (k : Nat) (E : XK) : R2 := fun x y H Q => ∃ a C dx fs sp t, x = .ref a ∧ H a = some (.ins C dx fs) ∧ MtC X.prog X.w X.K X.mg X.base CX k C "__eq__" [] sp ∧ NoNe X.K C ∧ TyOf X.K H y t ∧ PySem.W.notFirst X.K C t = true ∧
  sp [x, y] [] H (fun v H' => ∃ b, v = .bl b ∧ Q (.bl (!b)) H') E
theorem op_neI {X : Cx} {CX : CXT} {k : Nat} {E : XK} (hr : Room (k + 1) X.A) (hx : Passes CX X E) : OpR X (compareOp .NotEq) (rNeI X CX k E) := by
  rintro pins s σ H x y u v Q I rx ry ⟨a, C, dx, fs, sp, t, rfl, ha, M, N, ty, nf, q⟩
  obtain rfl : u = Value.ref a := rx
  obtain ⟨⟨f, hm, F⟩, c⟩ := M
  obtain ⟨mA, J, _⟩ := ins_get I.hok ha
  obtain ⟨od, J, _⟩ := J.look
  obtain ⟨m, hF⟩ := I.fr
  show wpAny (model X.prog X.w) X.A (richCompare .NotEq (.ref a) v) (EP X pins σ Q) X.xe s
  refine ne_own (by have := hr.un; omega) I.kIn J (looks_ty I ry ty) nf N.ne N.ob hm.at_ hm.fn ?_
  refine wpAny_mono (run_fnA0 (us := [.ref a, v]) (vs := [.ref a, y]) (A := X.A.in1) F hr.in1 rfl hx I (.cons rfl (.cons ry .nil)) q) (fun r s' h => ?_) fun _ _ e => e
  obtain ⟨v', H', I', rv, c, ev, q'⟩ := h
  subst ev
  cases (show r = Value.bool c from rv)
  exact ⟨c, rfl, .bl (!c), H', I', rfl, q'⟩
/-! ### in and not in by the class's own __contains__ -/
def rInI (X : Cx) (CX : CXT) (k : Nat) (E : XK) (neg : Bool) : R2 := fun y x H Q => ∃ a C dx fs sp, x = .ref a ∧ H a = some (.ins C dx fs) ∧ MtC X.prog X.w X.K X.mg X.base CX k C "__contains__" [] sp ∧
  sp [x, y] [] H (fun v H' => ∃ b, v = .bl b ∧ Q (.bl (neg != b)) H') E
theorem op_inI {X : Cx} {CX : CXT} {k : Nat} {E : XK} (hr : Room k X.A) (hx : Passes CX X E) : OpR X (compareOp .In) (rInI X CX k E false) := by
  rintro pins s σ H y x v u Q I ry rx ⟨a, C, dx, fs, sp, rfl, ha, M, q⟩
  obtain rfl : u = Value.ref a := rx
  obtain ⟨⟨f, hm, F⟩, c⟩ := M
  obtain ⟨mA, J, _⟩ := ins_get I.hok ha
  obtain ⟨od, J, _⟩ := J.look
  obtain ⟨m, hF⟩ := I.fr
  refine PySem.W.in_K hF I.ok.mod.kin J hm.at_ hm.fn ?_
  refine wpAny_mono (run_fnA0 (us := [.ref a, v]) (vs := [.ref a, y]) F hr rfl hx I (.cons rfl (.cons ry .nil)) q) (fun r s' h => ?_) fun _ _ e => e
  obtain ⟨v', H', I', rv, c, ev, q'⟩ := h
  subst ev
  cases (show r = Value.bool c from rv)
  exact wpAny_truthy_bool ⟨.bl c, H', I', rfl, by simpa using q'⟩
theorem op_notInI {X : Cx} {CX : CXT} {k : Nat} {E : XK} (hr : Room k X.A) (hx : Passes CX X E) : OpR X (compareOp .NotIn) (rInI X CX k E true) := by
  rintro pins s σ H y x v u Q I ry rx ⟨a, C, dx, fs, sp, rfl, ha, M, q⟩
  obtain rfl : u = Value.ref a := rx
  obtain ⟨⟨f, hm, F⟩, c⟩ := M
  obtain ⟨mA, J, _⟩ := ins_get I.hok ha
  obtain ⟨od, J, _⟩ := J.look
  obtain ⟨m, hF⟩ := I.fr
  refine PySem.W.notIn_K hF I.ok.mod.kin J hm.at_ hm.fn ?_
  refine wpAny_mono (run_fnA0 (us := [.ref a, v]) (vs := [.ref a, y]) F hr rfl hx I (.cons rfl (.cons ry .nil)) q) (fun r s' h => ?_) fun _ _ e => e
  obtain ⟨v', H', I', rv, c, ev, q'⟩ := h
  subst ev
  cases (show r = Value.bool c from rv)
  exact wpAny_truthy_bool ⟨.bl (!c), H', I', rfl, by simpa using q'⟩
/-! ### repr(o), len(o), the truth of o by its class's own defs -/
def rReprI (X : Cx) (CX : CXT) (k : Nat) (E : XK) : List V → Hp → VK → Prop := fun xs H Q => ∃ a C dx fs sp, xs = [.ref a] ∧ H a = some (.ins C dx fs) ∧ MtC X.prog X.w X.K X.mg X.base CX k C "__repr__" [] sp ∧ sp [.ref a] [] H (fun v H' => (∃ z, v = .str z) ∧ Q v H') E
theorem call_reprI {X : Cx} {CX : CXT} {k : Nat} {E : XK} (hr : Room (k + 1) X.A) (hx : Passes CX X E) : CallR X (.builtin "repr") (rReprI X CX k E) := by
  rintro pins s σ H xs us Q I r ⟨a, C, dx, fs, sp, rfl, ha, M, q⟩
  obtain ⟨u, rfl, rx⟩ := vals1 r
  obtain rfl : u = Value.ref a := rx
  obtain ⟨⟨f, hm, F⟩, c⟩ := M
  obtain ⟨mA, J, _⟩ := ins_get I.hok ha
  obtain ⟨od, J, _⟩ := J.look
  obtain ⟨m, hF⟩ := I.fr
  refine PySem.W.repr_K (by show X.A.units + 1 < cLine; have := hr.un; omega) hF I.ok.mod.kin J hm.at_ hm.fn ?_
  refine wpAny_mono (run_fnA0 (us := [.ref a]) (vs := [.ref a]) (A := X.A.in1) F hr.in1 rfl hx I (.cons rfl .nil) q) (fun r s' h => ?_) fun _ _ e => e
  obtain ⟨v', H', I', rv, ⟨z, ev⟩, q'⟩ := h
  subst ev
  obtain ⟨t, e⟩ := (show ∃ t, r = Value.str z t from rv)
  subst e
  exact ⟨.str z, H', I', ⟨t, rfl⟩, q'⟩
def rLenI (X : Cx) (CX : CXT) (k : Nat) (E : XK) : List V → Hp → VK → Prop := fun xs H Q => ∃ a C dx fs sp, xs = [.ref a] ∧ H a = some (.ins C dx fs) ∧ MtC X.prog X.w X.K X.mg X.base CX k C "__len__" [] sp ∧ sp [.ref a] [] H (fun v H' => ∃ i : Int, v = .int i ∧ 0 ≤ i ∧ i < 2 ^ 63 ∧ Q v H') E
theorem call_lenI {X : Cx} {CX : CXT} {k : Nat} {E : XK} (hr : Room (k + 1) X.A) (hx : Passes CX X E) : CallR X (.builtin "len") (rLenI X CX k E) := by
  rintro pins s σ H xs us Q I r ⟨a, C, dx, fs, sp, rfl, ha, M, q⟩
  obtain ⟨u, rfl, rx⟩ := vals1 r
  obtain rfl : u = Value.ref a := rx
  obtain ⟨⟨f, hm, F⟩, c⟩ := M
  obtain ⟨mA, J, _⟩ := ins_get I.hok ha
  obtain ⟨od, J, _⟩ := J.look
  obtain ⟨m, hF⟩ := I.fr
  refine PySem.W.len_K hF I.ok.mod.kin J hm.at_ hm.fn ?_
  refine wpAny_mono (run_fnA0 (us := [.ref a]) (vs := [.ref a]) (A := X.A.in1) F hr.in1 rfl hx I (.cons rfl .nil) q) (fun r s' h => ?_) fun _ _ e => e
  obtain ⟨v', H', I', rv, i, ev, h0, h1, q'⟩ := h
  subst ev
  obtain ⟨t, e⟩ := (show ∃ t, r = Value.int i t from rv)
  subst e
  exact ⟨⟨h0, h1⟩, .int i, H', I'.tok _, ⟨_, rfl⟩, q'⟩
end L2
namespace L2
open PySem PySem.Spec PyProof.Rows
/-! ### a def or a method of the text, standing at f -/
structure Fd (K : PySem.W.Frag) (x qual : Str) (st : Stmt) (dvs : List V) (kws : List (Str × V)) (f : Addr) : Prop where
  ex : ∃ fd, FunD K x qual (defArgs st) (defBody st) (defScope st) dvs kws f fd
theorem fd_mk {K : PySem.W.Frag} {x qual : Str} {st : Stmt} {dvs : List V} {kws : List (Str × V)} {f : Addr} {oc dV kV doc pm cdv ct : Value} {od an : Option Addr} {osl : Array (Option Value)}
    (l : K.lookup f = some ⟨oc, od, .func (PySem.W.fnOf x qual (defArgs st) (defBody st) (defScope st) dV kV doc pm an cdv ct), osl⟩) (c : PySem.W.codeIn K cdv qual = true) (k : PySem.W.keepIn K (.ref f) = true) (hd : DflV K dV dvs) (hk : KwdV K kV kws) : Fd K x qual st dvs kws f :=
  ⟨_, ⟨oc, od, dV, kV, doc, pm, an, cdv, ct, osl, rfl, l, c, hd, hk⟩, k⟩
theorem dfl_none {K : PySem.W.Frag} : DflV K .none [] := .inl ⟨rfl, rfl⟩
theorem dfl_of {K : PySem.W.Frag} {T : Addr} {o : Obj} {v : V} {dvs : List V} {its : List Value} {n : Nat} (l : K.lookup T = some o) (h : o.data = .seq its.toArray n) (r : Vals (v :: dvs) its) : DflV K (.ref T) (v :: dvs) := .inr ⟨fun z => (by cases z), T, o, its, n, rfl, l, h, r⟩
theorem kwd_none {K : PySem.W.Frag} {kV : Value} : KwdV K kV [] := .inl rfl
theorem kwd_of {K : PySem.W.Frag} {D : Addr} {kws : List (Str × V)} (h : ∀ q ∈ kws, ∃ u, PySem.W.nsIn K D q.1 = some (some u) ∧ RelV q.2 u) : KwdV K (.ref D) kws := .inr ⟨D, rfl, h⟩
/-- .. with its promise -/
structure Fo (P : Program) (w : World) (K : PySem.W.Frag) (mg : Str → Option Value) (base : Heap) (CX : CXT) (k : Nat) (x qual : Str) (st : Stmt) (dvs : List V) (kws : List (Str × V)) (f : Addr) (ps : List Str) (sp : Sp) : Prop where
  ex : ∃ fd, FunD K x qual (defArgs st) (defBody st) (defScope st) dvs kws f fd ∧ FnOk P w K mg base CX k f fd ps sp
section
variable {P : Program} {w : World} {K : PySem.W.Frag} {mg : Str → Option Value} {base : Heap} {CX : CXT} {k : Nat} {x qual : Str} {st : Stmt} {dvs : List V} {kws : List (Str × V)} {f : Addr} {N ps : List Str} {sp : Sp}
theorem fo_mk (D : Fd K x qual st dvs kws f) (S : FnScope N ps (defScope st)) (len : ∀ vs H Q E, sp vs H Q E → vs.length = ps.length)
    (hbody : ∀ (cdv : Value) (A : Around) (outer : List Env) (s : Shared) (H : Hp) (vs : List V) (Q : VK) (E : XK), Room k (A.deeper (envOfC qual (defScope st) s.heap.objs.size f cdv)) → sp vs H Q E →
      ∃ t, PSs (cxOf CX0 P w K mg base N qual (defScope st) f cdv A outer s H E).nox (defBody st) t ∧ t { nx := fun _ H' => Q .non H', rt := Q } (start N vs) H) : Fo P w K mg base CX0 (k + 1) x qual st dvs kws f ps sp := by
  obtain ⟨fd, F⟩ := D.ex
  exact ⟨fd, F, F.ok S len fun cdv A outer s H vs Q E hr hs => let ⟨t, h, q⟩ := hbody cdv A outer s H vs Q E hr hs; ⟨t, h.nox, q⟩⟩
theorem fo_mkX (D : Fd K x qual st dvs kws f) (S : FnScope N ps (defScope st)) (len : ∀ vs H Q E, sp vs H Q E → vs.length = ps.length)
    (hbody : ∀ (cdv : Value) (A : Around) (outer : List Env) (s : Shared) (H : Hp) (vs : List V) (Q : VK) (E : XK), Room k (A.deeper (envOfC qual (defScope st) s.heap.objs.size f cdv)) → sp vs H Q E →
      ∃ t, PSs (cxOf CX P w K mg base N qual (defScope st) f cdv A outer s H E) (defBody st) t ∧ t { nx := fun _ H' => Q .non H', rt := Q } (start N vs) H) : Fo P w K mg base CX (k + 1) x qual st dvs kws f ps sp := by
  obtain ⟨fd, F⟩ := D.ex
  exact ⟨fd, F, F.ok S len hbody⟩
/-- no defaults, all written -/
theorem Fo.pos (o : Fo P w K mg base CX k x qual st [] kws f ps sp) (h : ∀ (kV doc pm : Value) (an : Option Addr) (cdv ct : Value) (us : List Value), us.length = ps.length → bindArgs (PySem.W.fnOf x qual (defArgs st) (defBody st) (defScope st) .none kV doc pm an cdv ct) ⟨us, []⟩ = pure (ps.zip us)) :
    FnA P w K mg base CX k f [] (fun vs _ => sp vs) := by
  obtain ⟨fd, F, ok⟩ := o.ex
  exact (ok.toA (F.bindsN h) .nil).imp fun vs zs H Q E q => by rw [List.append_nil]; exact q
/-- keywords ks behind n values -/
theorem Fo.key (o : Fo P w K mg base CX k x qual st [] kws f ps sp) (n : Nat) (ks : List Str) (g : {α : Type} → List α → List α → List α) (hr : ∀ {vs us zs ws}, Vals vs us → Vals zs ws → Vals (g vs zs) (g us ws))
    (h : ∀ (kV doc pm : Value) (an : Option Addr) (cdv ct : Value) (us ws : List Value), us.length = n → ws.length = ks.length → bindArgs (PySem.W.fnOf x qual (defArgs st) (defBody st) (defScope st) .none kV doc pm an cdv ct) ⟨us, ks.zip ws⟩ = pure (ps.zip (g us ws))) :
    FnA P w K mg base CX k f ks (fun vs zs H Q E => vs.length = n ∧ sp (g vs zs) H Q E) := by
  obtain ⟨fd, F, ok⟩ := o.ex
  obtain ⟨oc, od, dV, kV, doc, pm, an, cdv, ct, osl, rfl, lk, hcd, hD, hK⟩ := F.ex
  rcases hD with ⟨_, rfl⟩ | ⟨e, _⟩
  · exact ok.toK (ks := ks) (n := n) (g := fun us ws => g us ws) (gV := fun vs zs => g vs zs) ⟨fun s us ws _ l1 l2 => .of_eq (h kV doc pm an cdv ct us ws l1 l2), fun r1 r2 => hr r1 r2⟩
  · exact absurd rfl e
/-- keyword-only defaults -/
theorem Fo.pos0 (o : Fo P w K mg base CX k x qual st [] kws f ps sp) (n : Nat) (hk : kws ≠ []) (hn : n + kws.length = ps.length)
    (h : ∀ (D : Addr) (doc pm : Value) (an : Option Addr) (cdv ct : Value) (us ks : List Value), us.length = n → ks.length = kws.length →
      KwChain D ((kws.map (·.1)).zip ks) (bindArgs (PySem.W.fnOf x qual (defArgs st) (defBody st) (defScope st) .none (.ref D) doc pm an cdv ct) ⟨us, []⟩) (ps.zip (us ++ ks))) :
    FnA P w K mg base CX k f [] (fun vs _ H Q E => sp (vs ++ kws.map (·.2)) H Q E) := by
  obtain ⟨fd, F, ok⟩ := o.ex
  obtain ⟨ds, r, b⟩ := F.binds0 n hk hn h
  exact ok.toA b r
/-- defaults: n values written, the ones behind the first j fill up -/
theorem Fo.pos1 (o : Fo P w K mg base CX k x qual st dvs kws f ps sp) (n j : Nat) (hd : dvs ≠ []) (hn : n + (dvs.length - j) = ps.length)
    (h : ∀ (T : Addr) (kV doc pm : Value) (an : Option Addr) (cdv ct : Value) (us its : List Value), us.length = n → its.length = dvs.length →
      ∃ k, bindArgs (PySem.W.fnOf x qual (defArgs st) (defBody st) (defScope st) (.ref T) kV doc pm an cdv ct) ⟨us, []⟩ = seqItems? (.ref T) >>= k ∧ k (some its.toArray) = pure (ps.zip (us ++ its.drop j))) :
    FnA P w K mg base CX k f [] (fun vs _ H Q E => sp (vs ++ dvs.drop j) H Q E) := by
  obtain ⟨fd, F, ok⟩ := o.ex
  obtain ⟨ds, r, b⟩ := F.binds1 n j hd hn h
  exact ok.toA b r
theorem FnR.toA {sp : Sp} (F : FnR P w K mg base CX k f sp) : FnA P w K mg base CX k f [] (fun vs _ => sp vs) := ⟨fun A o s H us ws vs zs Q E hr he r1 r2 l hs => by
  have := F A o s H us vs Q E hr he r1 hs
  simpa using this⟩
/-- def f(a, .., *v): the promise tells of the tuple of the rest -/
theorem fo_star {pv : Str} (D : Fd K x qual st [] [] f) (S : FnScope N (ps ++ [pv]) (defScope st)) (hCX : StX.CXUp CX)
    (hb : ∀ (kV doc pm : Value) (an : Option Addr) (cdv ct : Value) (us rest : List Value), us.length = ps.length → bindArgs (PySem.W.fnOf x qual (defArgs st) (defBody st) (defScope st) .none kV doc pm an cdv ct) ⟨us ++ rest, []⟩ = (newTuple rest >>= fun t => pure (ps.zip us ++ [(pv, t)])))
    (hbody : ∀ (cdv : Value) (A : Around) (outer : List Env) (s : Shared) (H : Hp) (vs : List V) (Q : VK) (E : XK), Room k (A.deeper (envOfC qual (defScope st) s.heap.objs.size f cdv)) → sp vs H Q E →
      ∃ t, PSs (cxOf CX P w K mg base N qual (defScope st) f cdv A outer s H E) (defBody st) t ∧ t { nx := fun _ H' => Q .non H', rt := Q } (start N vs) H) :
    FnA P w K mg base CX (k + 1) f [] (fun vs _ H Q E => ∃ ws rest, vs = ws ++ rest ∧ ws.length = ps.length ∧ rest.length ≤ sizeLine ∧ ∀ p, H p = Option.none → sp (ws ++ [V.ref p]) (upd H p (.tup rest)) Q E) := by
  obtain ⟨fd, F⟩ := D.ex
  obtain ⟨oc, od, dV, kV, doc, pm, an, cdv, ct, osl, rfl, lk, hcd, hD, hK⟩ := F.ex
  rcases hD with ⟨_, rfl⟩ | ⟨e, _⟩
  · exact FnR.toA (StX.fn_star lk hcd S hCX (hb kV doc pm an cdv ct) fun A outer s H vs Q E hr hs => hbody cdv A outer s H vs Q E hr hs)
  · exact absurd rfl e
/-- .. which lets no exception out -/
theorem fo_star0 {pv : Str} (D : Fd K x qual st [] [] f) (S : FnScope N (ps ++ [pv]) (defScope st))
    (hb : ∀ (kV doc pm : Value) (an : Option Addr) (cdv ct : Value) (us rest : List Value), us.length = ps.length → bindArgs (PySem.W.fnOf x qual (defArgs st) (defBody st) (defScope st) .none kV doc pm an cdv ct) ⟨us ++ rest, []⟩ = (newTuple rest >>= fun t => pure (ps.zip us ++ [(pv, t)])))
    (hbody : ∀ (cdv : Value) (A : Around) (outer : List Env) (s : Shared) (H : Hp) (vs : List V) (Q : VK) (E : XK), Room k (A.deeper (envOfC qual (defScope st) s.heap.objs.size f cdv)) → sp vs H Q E →
      ∃ t, PSs (cxOf CX0 P w K mg base N qual (defScope st) f cdv A outer s H E).nox (defBody st) t ∧ t { nx := fun _ H' => Q .non H', rt := Q } (start N vs) H) :
    FnA P w K mg base CX0 (k + 1) f [] (fun vs _ H Q E => ∃ ws rest, vs = ws ++ rest ∧ ws.length = ps.length ∧ rest.length ≤ sizeLine ∧ ∀ p, H p = Option.none → sp (ws ++ [V.ref p]) (upd H p (.tup rest)) Q E) := by
  obtain ⟨fd, F⟩ := D.ex
  obtain ⟨oc, od, dV, kV, doc, pm, an, cdv, ct, osl, rfl, lk, hcd, hD, hK⟩ := F.ex
  rcases hD with ⟨_, rfl⟩ | ⟨e, _⟩
  · exact FnR.toA (StX.fn_star lk hcd S StX.cxUp_none (hb kV doc pm an cdv ct) fun A outer s H vs Q E hr hs => let ⟨t, h, q⟩ := hbody cdv A outer s H vs Q E hr hs; ⟨t, h.nox, q⟩)
  · exact absurd rfl e
end
/-- a def of the module by its name -/
structure FdG (K : PySem.W.Frag) (mg : Str → Option Value) (x : Str) (st : Stmt) (dvs : List V) (kws : List (Str × V)) (f : Addr) : Prop where
  fd : Fd K x x st dvs kws f
  mg : mg x = some (.ref f)
  kp : PySem.W.keepIn K (.ref f) = true
end L2
namespace L2
open PySem
/-- isinstance against an own class -/
theorem kit_own {K : PySem.W.Frag} {t : Value} {C : Addr} {b : Bool} (h1 : PySem.W.isClsIn K C = true) (h2 : PySem.W.typeIn K (.ref C) = some (.type "type")) (h3 : PySem.W.subIn K (.ref C) (.ref C) = some true) (h4 : PySem.W.subIn K t (.ref C) = some b) : PySem.W.kitOne K t (.ref C) = some b := by
  unfold PySem.W.kitOne
  by_cases e : (t == Value.ref C) = true
  · rw [if_pos e]
    rw [beq_iff_eq.mp e, h3] at h4
    exact h4
  · rw [if_neg e]
    have h1' : (PySem.W.clsIn K C).isSome = true := h1
    show (if ((PySem.W.clsIn K C).isSome && PySem.W.typeIn K (.ref C) == some (.type "type")) = true then PySem.W.subIn K t (.ref C) else none) = some b
    rw [h1', h2, if_pos (by rfl)]
    exact h4
end L2
/-! ### enumerate(tuple) -/
namespace PySem
set_option maxHeartbeats 1000000 in
theorem meets_enumerate_newB1 {v : Value} {o : Obj} {H : Heap → Prop} (B : Begins v o H) :
    Meets (Builtin.«enumerate.__new__» ⟨[.type "enumerate", v], []⟩) (fun _ R s => H s.heap ∧
      R (.ok (.ret (.ref (s.heap.push o).objs.size))) { s with heap := (s.heap.push o).push { cls := .type "enumerate", data := .fields #[.none, .bool false, .ref s.heap.objs.size, rawInt 0, .none, .none] } }) :=
  .of_wp fun prog w A R s h => by
    obtain ⟨hp, g, d, tk, os⟩ := s; obtain ⟨h1, h⟩ := h
    have hsub := sub_enumerate
    have q1 : ∀ {A' : Around} {E : Value → Shared → Prop} {Q : Value → Shared → Prop}, Q (.ref hp.objs.size) ⟨hp.push o, g, d, tk, os⟩ → wpAny (model prog w) A' (pyIter v) Q E ⟨hp, g, d, tk, os⟩ :=
      fun q => B.iter prog w _ _ ⟨hp, g, d, tk, os⟩ _ h1 q
    wp_walk using q1
    refine wpAny_stack_any fun st => wpAny_pure ?_
    split
    · rename_i c _ _ _ _ _
      cases (c == Value.type "enumerate")
      · wp_walk using q1
        exact ⟨_, rfl, h⟩
      · wp_walk using q1
        exact ⟨_, rfl, h⟩
    · wp_walk using q1
      exact ⟨_, rfl, h⟩
theorem enum_begins1 {prog : Program} {w : World} {A : Around} {E : Value → Shared → Prop} {s : Shared} {v : Value} {o : Obj} {H : Heap → Prop} {Q : Value → Shared → Prop} (B : Begins v o H) (h1 : H s.heap)
    (h : ∀ h', IsEnum h' (s.heap.objs.size + 1) s.heap.objs.size 0 .none → h'.get? s.heap.objs.size = some o → h'.objs.size = s.heap.objs.size + 2 →
      (∀ b o, s.heap.get? b = some o → h'.get? b = some o) → Q (.ref (s.heap.objs.size + 1)) { s with heap := h' }) :
    wpAny (model prog w) A (call (.type "enumerate") [v]) Q E s := by
  refine callType_new F.called_enumerate (by decide) (F.typeCall_enumerate_1 _) (F.newCall_enumerate_1 _) (fun obj => F.args_object_init_2 obj _) F.entry_enumerate_new
    (meets_enumerate_newB1 B) ⟨h1, ?_⟩
  have hz : (s.heap.push o).objs.size = s.heap.objs.size + 1 := Heap.size_push ..
  show _ ∧ _
  rw [hz]
  have he : IsEnum ((s.heap.push o).push { cls := .type "enumerate", data := .fields #[.none, .bool false, .ref s.heap.objs.size, rawInt 0, .none, .none] }) (s.heap.objs.size + 1) s.heap.objs.size 0 .none := by
    have := Heap.get?_push_size (s.heap.push o) (o := { cls := .type "enumerate", data := .fields #[.none, .bool false, .ref s.heap.objs.size, rawInt 0, .none, .none] }) rfl
    rw [hz] at this; exact this
  refine ⟨⟨_, he, rfl⟩, h _ he (Heap.get?_push_of_some _ (Heap.get?_push_size _ B.free)) (by rw [Heap.size_push, hz]) fun b o x => Heap.get?_push_of_some _ (Heap.get?_push_of_some _ x)⟩
end PySem
namespace L2
open PySem PySem.Spec PyProof.Rows
def IteT (K : PySem.W.Frag) (a : Addr) : It :=
  ⟨fun i H => ∃ (xs : List V) (x : V), SqT K H a xs ∧ xs[i]? = some x, fun i H v H' => ∃ T x, v = .ref T ∧ H T = none ∧ H' = upd H T (.tup [.int (i : Nat), x]) ∧ ∀ xs, SqT K H a xs → xs[i]? = some x, fun i H => ∃ xs : List V, SqT K H a xs ∧ xs.length ≤ i⟩
theorem turn_enumT {P : Program} {w : World} {K : PySem.W.Frag} {elts : List Expr} {kk : Nat} {tpos : Pos} (a e it : Addr) (hat : a ≠ it) (hae : a ≠ e) :
    Turn P w K (.Tuple elts kk tpos) (IteT K a) [e, it] e (fun i h => (∃ old, IsEnum h e it ((i : Nat) : Int) old) ∧ h.IsTupleIter it a i ∧ e ≠ it) where
  mem := by simp
  obj := fun i h st b hb => by
    obtain ⟨⟨old, he⟩, ⟨o, ho, hc, hd⟩, _⟩ := st
    have e' : b = e ∨ b = it := by simpa using hb
    rcases e' with z | z
    · rw [z]; exact ⟨_, he, fun v q => nomatch q⟩
    · rw [z]; exact ⟨o, ho, fun v q => by rw [hd] at q; cases q⟩
  keep := fun i h h' st k => let ⟨⟨old, he⟩, hi, hne⟩ := st; ⟨⟨old, k e (by simp) _ he⟩, hi.at fun o q => k it (by simp) o q, hne⟩
  item := by
    intro X hP hw hK hc i pins s σ H E I hf st hg
    subst hP hw hK
    obtain ⟨⟨old, he⟩, hit, hne⟩ := st
    obtain ⟨xs, x, hq, hx⟩ := hg
    obtain ⟨its, rv, p, hz⟩ := I.tuple hq
    obtain ⟨u, hu, ru⟩ := rv.get hx
    have hel : e < s.heap.objs.size := Heap.lt_size he
    have hil : it < s.heap.objs.size := by obtain ⟨_, q, _⟩ := hit; exact Heap.lt_size q
    have pT : s.heap.IsTuple a its.toArray := p
    have hlt : i < its.toArray.size := by
      have := (List.getElem?_eq_some_iff.mp hu).1
      simpa using this
    refine wpAny_pyNext_enum_itemD (Draws.tuple (prog := X.prog) (w := X.w) (A := X.A.in1) (I.ok.hd hc) it a hat its.toArray) he ⟨hit, pT⟩ hlt hne (fun z => ?_) fun u' h' tk hP ho st' hT hsz hk => ?_
    · rcases (show e = it ∨ e = a by simpa using z) with z | z
      · exact hne z
      · exact hae z.symm
    have hu' : u' = u := by
      have e1 : its[i]? = some u' := by simpa using hP
      rw [hu] at e1
      injection e1 with e1
      exact e1.symm
    subst hu'
    refine ⟨_, rfl, wpAny_letOwnedTupleGo_enum (s := { s with heap := h', toks := tk + 1 }) ho fun h'' he' sb => ?_⟩
    have hT2 : h''.get? s.heap.objs.size = some { cls := .type "tuple", data := .seq #[.int i tk, u'] } := (sb.2 _ (Nat.ne_of_gt hel)).trans hT
    have new : ObjOk X.prog X.w (upd H s.heap.objs.size (.tup [.int (i : Nat), x])) h'' s.heap.objs.size (.tup [.int (i : Nat), x]) :=
      ⟨by show 2 ≤ sizeLine; decide, [.int i tk, u'], .cons ⟨_, rfl⟩ (.cons ru .nil), ⟨_, hT2, rfl, _, rfl⟩⟩
    have I1 : Inv X pins σ (upd H s.heap.objs.size (.tup [.int (i : Nat), x])) { s with heap := h'', toks := tk + 1 } :=
      I.turnedNew (ch := [e, it]) (fun b ob hb q => (sb.2 b (fun z => hb (by simp [z]))).trans (hk b ob (fun z => hb (by simp [z])) (fun z => hb (by simp [z])) q)) hf (Nat.le_refl _) new
    refine ⟨.ref s.heap.objs.size, _, I1, rfl, ⟨_, x, rfl, I.hok.fresh (Nat.le_refl _), rfl, fun ys hy => by rw [I.tuple_inj hy hq]; exact hx⟩, ⟨⟨u', ?_⟩, st'.1.at fun o q => (sb.2 it (Ne.symm hne)).trans q, hne⟩, fun b hb => ?_⟩
    · have e1 : ((i + 1 : Nat) : Int) = (i : Int) + 1 := by omega
      rw [e1]; exact he'
    · have hb' : b < s.heap.objs.size := by
        have e' : b = e ∨ b = it := by simpa using hb
        rcases e' with z | z
        · rw [z]; exact hel
        · rw [z]; exact hil
      rw [upd_ne (Nat.ne_of_lt hb')]
      exact (hf b hb).1
  done := by
    intro X hP hw hK hc i pins s σ H E I hf st hg
    subst hP hw hK
    obtain ⟨⟨old, he⟩, hit, hne⟩ := st
    obtain ⟨xs, hq, hx⟩ := hg
    obtain ⟨its, rv, p, hz⟩ := I.tuple hq
    obtain ⟨f0, f1, f2, f3, f4, f5⟩ := hf it (by simp)
    have hl := rv.length
    have pT : s.heap.IsTuple a its.toArray := p
    have hT : s.TypeIs (.ref e) "enumerate" := ⟨_, he, rfl⟩
    unfold pyNext
    refine wpAny_bind (wpAny_attempt (wpAny_callSpecial?_slot (name := Str.ofString "__next__") hT F.slot_enumerate_next
      (wpAny_call_entry F.slot_enumerate_next hT F.entry_enumerate_next ?_ (F.args_enumerate_next_1 _))))
    show wpAny _ _ (field (.ref e) 2 >>= _) _ _ _
    refine wpAny_bind (wpAny_field he rfl (x := .ref it) rfl ?_)
    refine wpAny_bind (wpAny_nextOf_tuple_end (I.ok.hd hc) hit pT (by simp; omega) fun h' x he' hx' => ?_)
    obtain ⟨o, ho, hc'⟩ := hx'
    refine wpAny_bind (wpAny_isInstance (T := "StopIteration") (b := true) ⟨o, ho, hc'⟩ isSubtype_stop ?_)
    exact wpAny_pure ⟨rfl, I.turned (t' := s.toks) (fun b o hb q => he' b o hb q) f0 f1 f3 f4 f5⟩
  self := fun A i s Q E st h => let ⟨⟨_, he⟩, _⟩ := st; wpAny_pyIter_enum he h
def iEnumT (K : PySem.W.Frag) (ta : TA) : TI := fun σ H R => ta σ H fun vs H1 => ∃ a xs, vs = [.ref a] ∧ SqT K H1 a xs ∧ R (IteT K a) H1
theorem pi_enumT {X : Cx} {e : Expr} {ta : TA} {p pos tpos : Pos} {elts : List Expr} {kk : Nat} (hg : Gl X "enumerate") (hm : X.mg "enumerate" = none) (ha : PA X [e] ta) (hs : starEach [e] X.env = [(false, eval e X.env)] := by rfl) :
    PI X (.Tuple elts kk tpos) (.Call (.Name "enumerate" p) [e] [] pos) (iEnumT X.K ta) := by
  refine ⟨fun pins s σ H R I h => ?_⟩
  refine Call_ (ld_blt I hg hm boot_enumerate (PyProof.Rows.callWith_type1 (thn (ha.run pos pins s σ H _ I h) fun us s1 ⟨vs, H1, I1, r1, q1⟩ => ?_) hs rfl))
  obtain ⟨a, xs, ex, hq, q⟩ := q1
  subst ex
  cases r1 with
  | cons r rr =>
    cases rr
    cases r
    obtain ⟨its, rv, p', hz⟩ := I1.tuple hq
    have pT : s1.heap.IsTuple a its.toArray := p'
    have hla : a < s1.heap.objs.size := by obtain ⟨_, q, _⟩ := pT; exact Heap.lt_size q
    refine enum_begins1 (begins_tuple a its.toArray) pT fun h' he hit hsz hk => wpAny_pyIter_enum he ?_
    have I2 : Inv X pins σ H1 { s1 with heap := h' } := I1.kept (t' := s1.toks) hk
    refine ⟨s1.heap.objs.size + 1, [s1.heap.objs.size + 1, s1.heap.objs.size], _, _, H1, rfl, I2, turn_enumT a (s1.heap.objs.size + 1) s1.heap.objs.size (Nat.ne_of_lt hla) (Nat.ne_of_lt (Nat.lt_succ_of_lt hla)), ⟨⟨.none, he⟩, ⟨_, hit, rfl, rfl⟩, Nat.succ_ne_self _⟩, fun b hb => ?_, q⟩
    have e' : b = s1.heap.objs.size + 1 ∨ b = s1.heap.objs.size := by simpa using hb
    have hle : s1.heap.objs.size ≤ b := by
      rcases e' with z | z
      · rw [z]; exact Nat.le_add_right _ _
      · rw [z]; exact Nat.le_refl _
    exact I1.fpOk hle (I1.hok.fresh hle)
/-- the loop over enumerate(t): one turn gets the place and the item, in a new pair -/
theorem for_enumT {K : PySem.W.Frag} {a : Addr} {xs : List V} {g : TG} {tb : TS} {D : Ends} {σ : St} {H : Hp} (Pv : Nat → St → Hp → Prop) (h0 : Pv 0 σ H) (hl : ∀ i σ H, Pv i σ H → SqT K H a xs)
    (hs : ∀ i x T σ H, xs[i]? = some x → Pv i σ H → H T = none → g (.ref T) σ (upd H T (.tup [.int (i : Nat), x])) fun σ2 H2 => tb { D with nx := Pv (i + 1), ct := Pv (i + 1), bk := D.nx } σ2 H2) (hd : ∀ σ H, Pv xs.length σ H → D.nx σ H) :
    ∃ W : Nat → Nat → St → Hp → Prop, (∃ m, W 0 m σ H) ∧ ∀ i m σ H, W i m σ H → ((IteT K a).stop i H ∧ D.nx σ H) ∨
      ((IteT K a).go i H ∧ ∃ Nx : St → Hp → Prop, (∀ σ' H', Nx σ' H' → ∃ m', m' < m ∧ W (i + 1) m' σ' H') ∧ ∀ x H', (IteT K a).yld i H x H' → g x σ H' fun σ2 H2 => tb { D with nx := Nx, ct := Nx, bk := D.nx } σ2 H2) := by
  refine ⟨fun i m σ H => m = xs.length - i ∧ i ≤ xs.length ∧ Pv i σ H, ⟨xs.length, by simp, Nat.zero_le _, h0⟩, ?_⟩
  rintro i m σ H ⟨rfl, hi, p⟩
  have hq := hl _ _ _ p
  by_cases hlt : i < xs.length
  · refine .inr ⟨⟨xs, xs[i], hq, by simp [hlt]⟩, Pv (i + 1), fun σ' H' p' => ⟨xs.length - (i + 1), by omega, rfl, hlt, p'⟩, fun v H' y => ?_⟩
    obtain ⟨T, x, rfl, hT, rfl, hx⟩ := y
    exact hs i x T σ H (hx xs hq) p hT
  · have e : i = xs.length := by omega
    subst e
    exact .inl ⟨⟨xs, hq, Nat.le_refl _⟩, hd _ _ p⟩
end L2
namespace Toy
open PySem L2
def top (i : Nat) : Stmt := PySem.Challenge.pw_tabsure_k03_kinds_asked.main.body.getD i (.Pass ⟨0, 0, 0, 0⟩)
abbrev s_InvalidWord___init__ : Stmt := inClass (top 2) 0
abbrev s_InvalidNumber___init__ : Stmt := inClass (top 3) 0
abbrev s_TooMany___init__ : Stmt := inClass (top 4) 0
abbrev s_is_number : Stmt := top 9
abbrev s_is_between : Stmt := top 10
abbrev s_is_word : Stmt := top 11
abbrev s_is_plain : Stmt := top 12
abbrev s_is_number_word : Stmt := top 13
abbrev s_Kind_fits : Stmt := inClass (top 16) 0
abbrev s_Kind_words : Stmt := inClass (top 16) 1
abbrev s_Kind_hint : Stmt := inClass (top 16) 2
abbrev s_Kind_text : Stmt := inClass (top 16) 3
abbrev s_Kind___contains__ : Stmt := inClass (top 16) 4
abbrev s_Kind___eq__ : Stmt := inClass (top 16) 5
abbrev s_Kind___repr__ : Stmt := inClass (top 16) 6
abbrev s_AnyWord_fits : Stmt := inClass (top 17) 0
abbrev s_AnyWord_hint : Stmt := inClass (top 17) 1
abbrev s_AnyWord_text : Stmt := inClass (top 17) 2
abbrev s_OneOf___init__ : Stmt := inClass (top 18) 0
abbrev s_OneOf_fits : Stmt := inClass (top 18) 1
abbrev s_OneOf_words : Stmt := inClass (top 18) 2
abbrev s_OneOf_text : Stmt := inClass (top 18) 3
abbrev s_Number___init__ : Stmt := inClass (top 19) 1
abbrev s_Number_fits : Stmt := inClass (top 19) 2
abbrev s_Number_hint : Stmt := inClass (top 19) 3
abbrev s_Number_text : Stmt := inClass (top 19) 4
abbrev s__law_feed : Stmt := top 21
abbrev s__law_take : Stmt := top 22
abbrev s__law_of : Stmt := top 23
abbrev s__law_mixed : Stmt := top 24
abbrev s__law_same : Stmt := top 25
abbrev s__law_plain_words : Stmt := top 26
abbrev s__law_kind : Stmt := top 27
abbrev s__law_ready_kind : Stmt := top 28
abbrev s__law_fits : Stmt := top 29
abbrev s__law_is_num : Stmt := top 30
abbrev s_law : Stmt := top 31
structure Gct (mg : Str → Option Value) : Prop where
  g_FIGURES : ∃ u, mg "FIGURES" = some u ∧ RelV (.str "0123456789") u
  g_SIGNS : ∃ u, mg "SIGNS" = some u ∧ RelV (.str "abcdefghijklmnopqrstuvwxyz0123456789-") u
  g_MOST_SIGNS : ∃ u, mg "MOST_SIGNS" = some u ∧ RelV (.int (8)) u
  g_MOST_WORDS : ∃ u, mg "MOST_WORDS" = some u ∧ RelV (.int (6)) u

structure Cs where
  Kind : Addr
  AnyWord : Addr
  OneOf : Addr
  Number : Addr
  Kind_fits : Addr
  Kind_words : Addr
  Kind_hint : Addr
  Kind_text : Addr
  Kind___contains__ : Addr
  Kind___eq__ : Addr
  Kind___repr__ : Addr
  AnyWord_fits : Addr
  AnyWord_hint : Addr
  AnyWord_text : Addr
  OneOf___init__ : Addr
  OneOf_fits : Addr
  OneOf_words : Addr
  OneOf_text : Addr
  Number___init__ : Addr
  Number_fits : Addr
  Number_hint : Addr
  Number_text : Addr
structure Alls (K : PySem.W.Frag) (mg : Str → Option Value) (c : Cs) : Prop where
  n_Kind : mg "Kind" = some (.ref c.Kind)
  cl_Kind : Cls K c.Kind
  ty_Kind : ∀ {H : Hp} {a dx : Addr} {fs : List (Str × V)}, H a = some (.ins c.Kind dx fs) → TyOf K H (.ref a) (.ref c.Kind)
  n_AnyWord : mg "AnyWord" = some (.ref c.AnyWord)
  cl_AnyWord : Cls K c.AnyWord
  ty_AnyWord : ∀ {H : Hp} {a dx : Addr} {fs : List (Str × V)}, H a = some (.ins c.AnyWord dx fs) → TyOf K H (.ref a) (.ref c.AnyWord)
  n_OneOf : mg "OneOf" = some (.ref c.OneOf)
  cl_OneOf : Cls K c.OneOf
  ty_OneOf : ∀ {H : Hp} {a dx : Addr} {fs : List (Str × V)}, H a = some (.ins c.OneOf dx fs) → TyOf K H (.ref a) (.ref c.OneOf)
  n_Number : mg "Number" = some (.ref c.Number)
  cl_Number : Cls K c.Number
  ty_Number : ∀ {H : Hp} {a dx : Addr} {fs : List (Str × V)}, H a = some (.ins c.Number dx fs) → TyOf K H (.ref a) (.ref c.Number)
  f_Kind_fits : Fd K "fits" "Kind.fits" s_Kind_fits [] [("over", .bl false)] c.Kind_fits
  f_Kind_words : Fd K "words" "Kind.words" s_Kind_words [] [] c.Kind_words
  f_Kind_hint : Fd K "hint" "Kind.hint" s_Kind_hint [] [] c.Kind_hint
  f_Kind_text : Fd K "text" "Kind.text" s_Kind_text [] [] c.Kind_text
  f_Kind___contains__ : Fd K "__contains__" "Kind.__contains__" s_Kind___contains__ [] [] c.Kind___contains__
  f_Kind___eq__ : Fd K "__eq__" "Kind.__eq__" s_Kind___eq__ [] [] c.Kind___eq__
  f_Kind___repr__ : Fd K "__repr__" "Kind.__repr__" s_Kind___repr__ [] [] c.Kind___repr__
  f_AnyWord_fits : Fd K "fits" "AnyWord.fits" s_AnyWord_fits [] [("over", .bl false)] c.AnyWord_fits
  f_AnyWord_hint : Fd K "hint" "AnyWord.hint" s_AnyWord_hint [] [] c.AnyWord_hint
  f_AnyWord_text : Fd K "text" "AnyWord.text" s_AnyWord_text [] [] c.AnyWord_text
  f_OneOf___init__ : Fd K "__init__" "OneOf.__init__" s_OneOf___init__ [] [] c.OneOf___init__
  f_OneOf_fits : Fd K "fits" "OneOf.fits" s_OneOf_fits [] [("over", .bl false)] c.OneOf_fits
  f_OneOf_words : Fd K "words" "OneOf.words" s_OneOf_words [] [] c.OneOf_words
  f_OneOf_text : Fd K "text" "OneOf.text" s_OneOf_text [] [] c.OneOf_text
  f_Number___init__ : Fd K "__init__" "Number.__init__" s_Number___init__ [] [] c.Number___init__
  f_Number_fits : Fd K "fits" "Number.fits" s_Number_fits [] [("over", .bl false)] c.Number_fits
  f_Number_hint : Fd K "hint" "Number.hint" s_Number_hint [] [] c.Number_hint
  f_Number_text : Fd K "text" "Number.text" s_Number_text [] [] c.Number_text
  m_Kind : Mk0 K mg "Kind" c.Kind
  me_Kind_fits : Meth K c.Kind "fits" c.Kind_fits
  me_Kind_words : Meth K c.Kind "words" c.Kind_words
  me_Kind_hint : Meth K c.Kind "hint" c.Kind_hint
  me_Kind_text : Meth K c.Kind "text" c.Kind_text
  me_Kind___contains__ : Meth K c.Kind "__contains__" c.Kind___contains__
  me_Kind___eq__ : Meth K c.Kind "__eq__" c.Kind___eq__
  me_Kind___repr__ : Meth K c.Kind "__repr__" c.Kind___repr__
  ne_Kind : NoNe K c.Kind
  m_AnyWord : Mk0 K mg "AnyWord" c.AnyWord
  me_AnyWord_fits : Meth K c.AnyWord "fits" c.AnyWord_fits
  me_AnyWord_words : Meth K c.AnyWord "words" c.Kind_words
  me_AnyWord_hint : Meth K c.AnyWord "hint" c.AnyWord_hint
  me_AnyWord_text : Meth K c.AnyWord "text" c.AnyWord_text
  me_AnyWord___contains__ : Meth K c.AnyWord "__contains__" c.Kind___contains__
  me_AnyWord___eq__ : Meth K c.AnyWord "__eq__" c.Kind___eq__
  me_AnyWord___repr__ : Meth K c.AnyWord "__repr__" c.Kind___repr__
  ne_AnyWord : NoNe K c.AnyWord
  mk_OneOf : Mk K c.OneOf c.OneOf___init__
  me_OneOf_fits : Meth K c.OneOf "fits" c.OneOf_fits
  me_OneOf_words : Meth K c.OneOf "words" c.OneOf_words
  me_OneOf_hint : Meth K c.OneOf "hint" c.Kind_hint
  me_OneOf_text : Meth K c.OneOf "text" c.OneOf_text
  me_OneOf___contains__ : Meth K c.OneOf "__contains__" c.Kind___contains__
  me_OneOf___eq__ : Meth K c.OneOf "__eq__" c.Kind___eq__
  me_OneOf___repr__ : Meth K c.OneOf "__repr__" c.Kind___repr__
  ne_OneOf : NoNe K c.OneOf
  na_OneOf_own_words : NoAttr K c.OneOf "own_words"
  mk_Number : Mk K c.Number c.Number___init__
  me_Number_fits : Meth K c.Number "fits" c.Number_fits
  me_Number_words : Meth K c.Number "words" c.Kind_words
  me_Number_hint : Meth K c.Number "hint" c.Number_hint
  me_Number_text : Meth K c.Number "text" c.Number_text
  me_Number___contains__ : Meth K c.Number "__contains__" c.Kind___contains__
  me_Number___eq__ : Meth K c.Number "__eq__" c.Kind___eq__
  me_Number___repr__ : Meth K c.Number "__repr__" c.Kind___repr__
  ne_Number : NoNe K c.Number
  na_Number_low : NoAttr K c.Number "low"
  na_Number_high : NoAttr K c.Number "high"
  cv_Number_MOST : ∃ mc u, ClX.CRead K c.Number mc ∧ ClX.CVal K c.Number mc "MOST" (.int (99999)) u
  isa_NoneType_Kind : PySem.W.kitOne K (.type "NoneType") (.ref c.Kind) = some false
  isa_bool_Kind : PySem.W.kitOne K (.type "bool") (.ref c.Kind) = some false
  isa_int_Kind : PySem.W.kitOne K (.type "int") (.ref c.Kind) = some false
  isa_str_Kind : PySem.W.kitOne K (.type "str") (.ref c.Kind) = some false
  isa_list_Kind : PySem.W.kitOne K (.type "list") (.ref c.Kind) = some false
  isa_tuple_Kind : PySem.W.kitOne K (.type "tuple") (.ref c.Kind) = some false
  isa_dict_Kind : PySem.W.kitOne K (.type "dict") (.ref c.Kind) = some false
  isa_Kind_Kind : PySem.W.kitOne K (.ref c.Kind) (.ref c.Kind) = some true
  isa_AnyWord_Kind : PySem.W.kitOne K (.ref c.AnyWord) (.ref c.Kind) = some true
  isa_OneOf_Kind : PySem.W.kitOne K (.ref c.OneOf) (.ref c.Kind) = some true
  isa_Number_Kind : PySem.W.kitOne K (.ref c.Number) (.ref c.Kind) = some true
  nf_Kind_NoneType : PySem.W.notFirst K c.Kind (.type "NoneType") = true
  nf_Kind_bool : PySem.W.notFirst K c.Kind (.type "bool") = true
  nf_Kind_int : PySem.W.notFirst K c.Kind (.type "int") = true
  nf_Kind_str : PySem.W.notFirst K c.Kind (.type "str") = true
  nf_Kind_list : PySem.W.notFirst K c.Kind (.type "list") = true
  nf_Kind_tuple : PySem.W.notFirst K c.Kind (.type "tuple") = true
  nf_Kind_dict : PySem.W.notFirst K c.Kind (.type "dict") = true
  nf_Kind_Kind : PySem.W.notFirst K c.Kind (.ref c.Kind) = true
  nf_AnyWord_NoneType : PySem.W.notFirst K c.AnyWord (.type "NoneType") = true
  nf_AnyWord_bool : PySem.W.notFirst K c.AnyWord (.type "bool") = true
  nf_AnyWord_int : PySem.W.notFirst K c.AnyWord (.type "int") = true
  nf_AnyWord_str : PySem.W.notFirst K c.AnyWord (.type "str") = true
  nf_AnyWord_list : PySem.W.notFirst K c.AnyWord (.type "list") = true
  nf_AnyWord_tuple : PySem.W.notFirst K c.AnyWord (.type "tuple") = true
  nf_AnyWord_dict : PySem.W.notFirst K c.AnyWord (.type "dict") = true
  nf_AnyWord_Kind : PySem.W.notFirst K c.AnyWord (.ref c.Kind) = true
  nf_AnyWord_AnyWord : PySem.W.notFirst K c.AnyWord (.ref c.AnyWord) = true
  nf_AnyWord_OneOf : PySem.W.notFirst K c.AnyWord (.ref c.OneOf) = true
  nf_AnyWord_Number : PySem.W.notFirst K c.AnyWord (.ref c.Number) = true
  nf_OneOf_NoneType : PySem.W.notFirst K c.OneOf (.type "NoneType") = true
  nf_OneOf_bool : PySem.W.notFirst K c.OneOf (.type "bool") = true
  nf_OneOf_int : PySem.W.notFirst K c.OneOf (.type "int") = true
  nf_OneOf_str : PySem.W.notFirst K c.OneOf (.type "str") = true
  nf_OneOf_list : PySem.W.notFirst K c.OneOf (.type "list") = true
  nf_OneOf_tuple : PySem.W.notFirst K c.OneOf (.type "tuple") = true
  nf_OneOf_dict : PySem.W.notFirst K c.OneOf (.type "dict") = true
  nf_OneOf_Kind : PySem.W.notFirst K c.OneOf (.ref c.Kind) = true
  nf_OneOf_AnyWord : PySem.W.notFirst K c.OneOf (.ref c.AnyWord) = true
  nf_OneOf_OneOf : PySem.W.notFirst K c.OneOf (.ref c.OneOf) = true
  nf_OneOf_Number : PySem.W.notFirst K c.OneOf (.ref c.Number) = true
  nf_Number_NoneType : PySem.W.notFirst K c.Number (.type "NoneType") = true
  nf_Number_bool : PySem.W.notFirst K c.Number (.type "bool") = true
  nf_Number_int : PySem.W.notFirst K c.Number (.type "int") = true
  nf_Number_str : PySem.W.notFirst K c.Number (.type "str") = true
  nf_Number_list : PySem.W.notFirst K c.Number (.type "list") = true
  nf_Number_tuple : PySem.W.notFirst K c.Number (.type "tuple") = true
  nf_Number_dict : PySem.W.notFirst K c.Number (.type "dict") = true
  nf_Number_Kind : PySem.W.notFirst K c.Number (.ref c.Kind) = true
  nf_Number_AnyWord : PySem.W.notFirst K c.Number (.ref c.AnyWord) = true
  nf_Number_OneOf : PySem.W.notFirst K c.Number (.ref c.OneOf) = true
  nf_Number_Number : PySem.W.notFirst K c.Number (.ref c.Number) = true
  d_is_number : Df K mg "is_number" s_is_number
  d_is_between : Df K mg "is_between" s_is_between
  d_is_word : Df K mg "is_word" s_is_word
  d_is_plain : Df K mg "is_plain" s_is_plain
  d_is_number_word : Df K mg "is_number_word" s_is_number_word
  d__law_feed : Df K mg "_law_feed" s__law_feed
  d__law_take : Df K mg "_law_take" s__law_take
  d__law_of : Df K mg "_law_of" s__law_of
  d__law_mixed : Df K mg "_law_mixed" s__law_mixed
  d__law_same : Df K mg "_law_same" s__law_same
  d__law_plain_words : Df K mg "_law_plain_words" s__law_plain_words
  d__law_kind : Df K mg "_law_kind" s__law_kind
  d__law_ready_kind : Df K mg "_law_ready_kind" s__law_ready_kind
  d__law_fits : Df K mg "_law_fits" s__law_fits
  d__law_is_num : Df K mg "_law_is_num" s__law_is_num
  d_law : Df K mg "law" s_law
  T : Txt mg
  GC : Gct mg
theorem all_mk {K : PySem.W.Frag} {h : Heap} {mg : Str → Option Value} (X : K.In h) (G : h.Ns mainGlobals mg)
    {a_Kind : Addr}
    (hn_Kind : PySem.W.nsIn K mainGlobals "Kind" = some (some (.ref a_Kind)))
    {a_AnyWord : Addr}
    (hn_AnyWord : PySem.W.nsIn K mainGlobals "AnyWord" = some (some (.ref a_AnyWord)))
    {a_OneOf : Addr}
    (hn_OneOf : PySem.W.nsIn K mainGlobals "OneOf" = some (some (.ref a_OneOf)))
    {a_Number : Addr}
    (hn_Number : PySem.W.nsIn K mainGlobals "Number" = some (some (.ref a_Number)))
    {a_Kind_fits : Addr}
    {a_Kind_words : Addr}
    {a_Kind_hint : Addr}
    {a_Kind_text : Addr}
    {a_Kind___contains__ : Addr}
    {a_Kind___eq__ : Addr}
    {a_Kind___repr__ : Addr}
    {a_AnyWord_fits : Addr}
    {a_AnyWord_hint : Addr}
    {a_AnyWord_text : Addr}
    {a_OneOf___init__ : Addr}
    {a_OneOf_fits : Addr}
    {a_OneOf_words : Addr}
    {a_OneOf_text : Addr}
    {a_Number___init__ : Addr}
    {a_Number_fits : Addr}
    {a_Number_hint : Addr}
    {a_Number_text : Addr}
    (hgc : PySem.W.specialIn K (.builtin "object.__class__") "__get__" = some (some (.builtin "getset_descriptor.__get__")))
    (htc : PySem.W.takesIn K (.builtin "object.__class__") = some true)
    (hp_Kind : PySem.W.plainGet K a_Kind Str.empty = true)
    (hh_Kind : PySem.W.hasDictIn K a_Kind = true)
    (ho_Kind : PySem.W.plainOver K a_Kind = true)
    (hs_Kind : PySem.W.findIn K (.ref a_Kind) "__setattr__" = some (some (.builtin "object.__setattr__")))
    (hk_Kind : PySem.W.keepIn K (.ref a_Kind) = true)
    (hm_Kind : PySem.W.makesIn K a_Kind = true)
    (hb_Kind : PySem.W.mroIn K a_Kind (.type "object") = some true)
    (hc_Kind : PySem.W.findIn K (.ref a_Kind) "__class__" = some (some (.builtin "object.__class__")))
    (hf_Kind_fits : PySem.W.findIn K (.ref a_Kind) "fits" = some (some (.ref a_Kind_fits)))
    (hf_Kind_words : PySem.W.findIn K (.ref a_Kind) "words" = some (some (.ref a_Kind_words)))
    (hf_Kind_hint : PySem.W.findIn K (.ref a_Kind) "hint" = some (some (.ref a_Kind_hint)))
    (hf_Kind_text : PySem.W.findIn K (.ref a_Kind) "text" = some (some (.ref a_Kind_text)))
    (hf_Kind___contains__ : PySem.W.findIn K (.ref a_Kind) "__contains__" = some (some (.ref a_Kind___contains__)))
    (hf_Kind___eq__ : PySem.W.findIn K (.ref a_Kind) "__eq__" = some (some (.ref a_Kind___eq__)))
    (hf_Kind___repr__ : PySem.W.findIn K (.ref a_Kind) "__repr__" = some (some (.ref a_Kind___repr__)))
    (hp_AnyWord : PySem.W.plainGet K a_AnyWord Str.empty = true)
    (hh_AnyWord : PySem.W.hasDictIn K a_AnyWord = true)
    (ho_AnyWord : PySem.W.plainOver K a_AnyWord = true)
    (hs_AnyWord : PySem.W.findIn K (.ref a_AnyWord) "__setattr__" = some (some (.builtin "object.__setattr__")))
    (hk_AnyWord : PySem.W.keepIn K (.ref a_AnyWord) = true)
    (hm_AnyWord : PySem.W.makesIn K a_AnyWord = true)
    (hb_AnyWord : PySem.W.mroIn K a_AnyWord (.type "object") = some true)
    (hc_AnyWord : PySem.W.findIn K (.ref a_AnyWord) "__class__" = some (some (.builtin "object.__class__")))
    (hf_AnyWord_fits : PySem.W.findIn K (.ref a_AnyWord) "fits" = some (some (.ref a_AnyWord_fits)))
    (hf_AnyWord_words : PySem.W.findIn K (.ref a_AnyWord) "words" = some (some (.ref a_Kind_words)))
    (hf_AnyWord_hint : PySem.W.findIn K (.ref a_AnyWord) "hint" = some (some (.ref a_AnyWord_hint)))
    (hf_AnyWord_text : PySem.W.findIn K (.ref a_AnyWord) "text" = some (some (.ref a_AnyWord_text)))
    (hf_AnyWord___contains__ : PySem.W.findIn K (.ref a_AnyWord) "__contains__" = some (some (.ref a_Kind___contains__)))
    (hf_AnyWord___eq__ : PySem.W.findIn K (.ref a_AnyWord) "__eq__" = some (some (.ref a_Kind___eq__)))
    (hf_AnyWord___repr__ : PySem.W.findIn K (.ref a_AnyWord) "__repr__" = some (some (.ref a_Kind___repr__)))
    (hp_OneOf : PySem.W.plainGet K a_OneOf Str.empty = true)
    (hh_OneOf : PySem.W.hasDictIn K a_OneOf = true)
    (ho_OneOf : PySem.W.plainOver K a_OneOf = true)
    (hs_OneOf : PySem.W.findIn K (.ref a_OneOf) "__setattr__" = some (some (.builtin "object.__setattr__")))
    (hk_OneOf : PySem.W.keepIn K (.ref a_OneOf) = true)
    (hm_OneOf : PySem.W.makesIn K a_OneOf = true)
    (hb_OneOf : PySem.W.mroIn K a_OneOf (.type "object") = some true)
    (hc_OneOf : PySem.W.findIn K (.ref a_OneOf) "__class__" = some (some (.builtin "object.__class__")))
    (hf_OneOf_fits : PySem.W.findIn K (.ref a_OneOf) "fits" = some (some (.ref a_OneOf_fits)))
    (hf_OneOf_words : PySem.W.findIn K (.ref a_OneOf) "words" = some (some (.ref a_OneOf_words)))
    (hf_OneOf_hint : PySem.W.findIn K (.ref a_OneOf) "hint" = some (some (.ref a_Kind_hint)))
    (hf_OneOf_text : PySem.W.findIn K (.ref a_OneOf) "text" = some (some (.ref a_OneOf_text)))
    (hf_OneOf___contains__ : PySem.W.findIn K (.ref a_OneOf) "__contains__" = some (some (.ref a_Kind___contains__)))
    (hf_OneOf___eq__ : PySem.W.findIn K (.ref a_OneOf) "__eq__" = some (some (.ref a_Kind___eq__)))
    (hf_OneOf___repr__ : PySem.W.findIn K (.ref a_OneOf) "__repr__" = some (some (.ref a_Kind___repr__)))
    (hf_OneOf___init__ : PySem.W.findIn K (.ref a_OneOf) "__init__" = some (some (.ref a_OneOf___init__)))
    (hp_Number : PySem.W.plainGet K a_Number Str.empty = true)
    (hh_Number : PySem.W.hasDictIn K a_Number = true)
    (ho_Number : PySem.W.plainOver K a_Number = true)
    (hs_Number : PySem.W.findIn K (.ref a_Number) "__setattr__" = some (some (.builtin "object.__setattr__")))
    (hk_Number : PySem.W.keepIn K (.ref a_Number) = true)
    (hm_Number : PySem.W.makesIn K a_Number = true)
    (hb_Number : PySem.W.mroIn K a_Number (.type "object") = some true)
    (hc_Number : PySem.W.findIn K (.ref a_Number) "__class__" = some (some (.builtin "object.__class__")))
    (hf_Number_fits : PySem.W.findIn K (.ref a_Number) "fits" = some (some (.ref a_Number_fits)))
    (hf_Number_words : PySem.W.findIn K (.ref a_Number) "words" = some (some (.ref a_Kind_words)))
    (hf_Number_hint : PySem.W.findIn K (.ref a_Number) "hint" = some (some (.ref a_Number_hint)))
    (hf_Number_text : PySem.W.findIn K (.ref a_Number) "text" = some (some (.ref a_Number_text)))
    (hf_Number___contains__ : PySem.W.findIn K (.ref a_Number) "__contains__" = some (some (.ref a_Kind___contains__)))
    (hf_Number___eq__ : PySem.W.findIn K (.ref a_Number) "__eq__" = some (some (.ref a_Kind___eq__)))
    (hf_Number___repr__ : PySem.W.findIn K (.ref a_Number) "__repr__" = some (some (.ref a_Kind___repr__)))
    (hf_Number___init__ : PySem.W.findIn K (.ref a_Number) "__init__" = some (some (.ref a_Number___init__)))
    (hi_Kind_fits : PySem.W.isFn K (.ref a_Kind_fits) = true)
    (hi_Kind_words : PySem.W.isFn K (.ref a_Kind_words) = true)
    (hi_Kind_hint : PySem.W.isFn K (.ref a_Kind_hint) = true)
    (hi_Kind_text : PySem.W.isFn K (.ref a_Kind_text) = true)
    (hi_Kind___contains__ : PySem.W.isFn K (.ref a_Kind___contains__) = true)
    (hi_Kind___eq__ : PySem.W.isFn K (.ref a_Kind___eq__) = true)
    (hi_Kind___repr__ : PySem.W.isFn K (.ref a_Kind___repr__) = true)
    (hi_AnyWord_fits : PySem.W.isFn K (.ref a_AnyWord_fits) = true)
    (hi_AnyWord_hint : PySem.W.isFn K (.ref a_AnyWord_hint) = true)
    (hi_AnyWord_text : PySem.W.isFn K (.ref a_AnyWord_text) = true)
    (hi_OneOf___init__ : PySem.W.isFn K (.ref a_OneOf___init__) = true)
    (hi_OneOf_fits : PySem.W.isFn K (.ref a_OneOf_fits) = true)
    (hi_OneOf_words : PySem.W.isFn K (.ref a_OneOf_words) = true)
    (hi_OneOf_text : PySem.W.isFn K (.ref a_OneOf_text) = true)
    (hi_Number___init__ : PySem.W.isFn K (.ref a_Number___init__) = true)
    (hi_Number_fits : PySem.W.isFn K (.ref a_Number_fits) = true)
    (hi_Number_hint : PySem.W.isFn K (.ref a_Number_hint) = true)
    (hi_Number_text : PySem.W.isFn K (.ref a_Number_text) = true)
    {oc_Kind_fits dc_Kind_fits pm_Kind_fits cd_Kind_fits ct_Kind_fits : Value}
    {od_Kind_fits an_Kind_fits : Option Addr}
    {sl_Kind_fits : Array (Option Value)}
    {D_Kind_fits : Addr}
    (l_Kind_fits : K.lookup a_Kind_fits = some ⟨oc_Kind_fits, od_Kind_fits, .func (PySem.W.fnOf "fits" "Kind.fits" (defArgs s_Kind_fits) (defBody s_Kind_fits) (defScope s_Kind_fits) .none (.ref D_Kind_fits) dc_Kind_fits pm_Kind_fits an_Kind_fits cd_Kind_fits ct_Kind_fits), sl_Kind_fits⟩)
    (c_Kind_fits : PySem.W.codeIn K cd_Kind_fits "Kind.fits" = true)
    (k_Kind_fits : PySem.W.keepIn K (.ref a_Kind_fits) = true)
    (w0_Kind_fits : PySem.W.nsIn K D_Kind_fits "over" = some (some (.bool false)))
    {oc_Kind_words dc_Kind_words pm_Kind_words cd_Kind_words ct_Kind_words : Value}
    {od_Kind_words an_Kind_words : Option Addr}
    {sl_Kind_words : Array (Option Value)}
    {kV_Kind_words : Value}
    (l_Kind_words : K.lookup a_Kind_words = some ⟨oc_Kind_words, od_Kind_words, .func (PySem.W.fnOf "words" "Kind.words" (defArgs s_Kind_words) (defBody s_Kind_words) (defScope s_Kind_words) .none kV_Kind_words dc_Kind_words pm_Kind_words an_Kind_words cd_Kind_words ct_Kind_words), sl_Kind_words⟩)
    (c_Kind_words : PySem.W.codeIn K cd_Kind_words "Kind.words" = true)
    (k_Kind_words : PySem.W.keepIn K (.ref a_Kind_words) = true)
    {oc_Kind_hint dc_Kind_hint pm_Kind_hint cd_Kind_hint ct_Kind_hint : Value}
    {od_Kind_hint an_Kind_hint : Option Addr}
    {sl_Kind_hint : Array (Option Value)}
    {kV_Kind_hint : Value}
    (l_Kind_hint : K.lookup a_Kind_hint = some ⟨oc_Kind_hint, od_Kind_hint, .func (PySem.W.fnOf "hint" "Kind.hint" (defArgs s_Kind_hint) (defBody s_Kind_hint) (defScope s_Kind_hint) .none kV_Kind_hint dc_Kind_hint pm_Kind_hint an_Kind_hint cd_Kind_hint ct_Kind_hint), sl_Kind_hint⟩)
    (c_Kind_hint : PySem.W.codeIn K cd_Kind_hint "Kind.hint" = true)
    (k_Kind_hint : PySem.W.keepIn K (.ref a_Kind_hint) = true)
    {oc_Kind_text dc_Kind_text pm_Kind_text cd_Kind_text ct_Kind_text : Value}
    {od_Kind_text an_Kind_text : Option Addr}
    {sl_Kind_text : Array (Option Value)}
    {kV_Kind_text : Value}
    (l_Kind_text : K.lookup a_Kind_text = some ⟨oc_Kind_text, od_Kind_text, .func (PySem.W.fnOf "text" "Kind.text" (defArgs s_Kind_text) (defBody s_Kind_text) (defScope s_Kind_text) .none kV_Kind_text dc_Kind_text pm_Kind_text an_Kind_text cd_Kind_text ct_Kind_text), sl_Kind_text⟩)
    (c_Kind_text : PySem.W.codeIn K cd_Kind_text "Kind.text" = true)
    (k_Kind_text : PySem.W.keepIn K (.ref a_Kind_text) = true)
    {oc_Kind___contains__ dc_Kind___contains__ pm_Kind___contains__ cd_Kind___contains__ ct_Kind___contains__ : Value}
    {od_Kind___contains__ an_Kind___contains__ : Option Addr}
    {sl_Kind___contains__ : Array (Option Value)}
    {kV_Kind___contains__ : Value}
    (l_Kind___contains__ : K.lookup a_Kind___contains__ = some ⟨oc_Kind___contains__, od_Kind___contains__, .func (PySem.W.fnOf "__contains__" "Kind.__contains__" (defArgs s_Kind___contains__) (defBody s_Kind___contains__) (defScope s_Kind___contains__) .none kV_Kind___contains__ dc_Kind___contains__ pm_Kind___contains__ an_Kind___contains__ cd_Kind___contains__ ct_Kind___contains__), sl_Kind___contains__⟩)
    (c_Kind___contains__ : PySem.W.codeIn K cd_Kind___contains__ "Kind.__contains__" = true)
    (k_Kind___contains__ : PySem.W.keepIn K (.ref a_Kind___contains__) = true)
    {oc_Kind___eq__ dc_Kind___eq__ pm_Kind___eq__ cd_Kind___eq__ ct_Kind___eq__ : Value}
    {od_Kind___eq__ an_Kind___eq__ : Option Addr}
    {sl_Kind___eq__ : Array (Option Value)}
    {kV_Kind___eq__ : Value}
    (l_Kind___eq__ : K.lookup a_Kind___eq__ = some ⟨oc_Kind___eq__, od_Kind___eq__, .func (PySem.W.fnOf "__eq__" "Kind.__eq__" (defArgs s_Kind___eq__) (defBody s_Kind___eq__) (defScope s_Kind___eq__) .none kV_Kind___eq__ dc_Kind___eq__ pm_Kind___eq__ an_Kind___eq__ cd_Kind___eq__ ct_Kind___eq__), sl_Kind___eq__⟩)
    (c_Kind___eq__ : PySem.W.codeIn K cd_Kind___eq__ "Kind.__eq__" = true)
    (k_Kind___eq__ : PySem.W.keepIn K (.ref a_Kind___eq__) = true)
    {oc_Kind___repr__ dc_Kind___repr__ pm_Kind___repr__ cd_Kind___repr__ ct_Kind___repr__ : Value}
    {od_Kind___repr__ an_Kind___repr__ : Option Addr}
    {sl_Kind___repr__ : Array (Option Value)}
    {kV_Kind___repr__ : Value}
    (l_Kind___repr__ : K.lookup a_Kind___repr__ = some ⟨oc_Kind___repr__, od_Kind___repr__, .func (PySem.W.fnOf "__repr__" "Kind.__repr__" (defArgs s_Kind___repr__) (defBody s_Kind___repr__) (defScope s_Kind___repr__) .none kV_Kind___repr__ dc_Kind___repr__ pm_Kind___repr__ an_Kind___repr__ cd_Kind___repr__ ct_Kind___repr__), sl_Kind___repr__⟩)
    (c_Kind___repr__ : PySem.W.codeIn K cd_Kind___repr__ "Kind.__repr__" = true)
    (k_Kind___repr__ : PySem.W.keepIn K (.ref a_Kind___repr__) = true)
    {oc_AnyWord_fits dc_AnyWord_fits pm_AnyWord_fits cd_AnyWord_fits ct_AnyWord_fits : Value}
    {od_AnyWord_fits an_AnyWord_fits : Option Addr}
    {sl_AnyWord_fits : Array (Option Value)}
    {D_AnyWord_fits : Addr}
    (l_AnyWord_fits : K.lookup a_AnyWord_fits = some ⟨oc_AnyWord_fits, od_AnyWord_fits, .func (PySem.W.fnOf "fits" "AnyWord.fits" (defArgs s_AnyWord_fits) (defBody s_AnyWord_fits) (defScope s_AnyWord_fits) .none (.ref D_AnyWord_fits) dc_AnyWord_fits pm_AnyWord_fits an_AnyWord_fits cd_AnyWord_fits ct_AnyWord_fits), sl_AnyWord_fits⟩)
    (c_AnyWord_fits : PySem.W.codeIn K cd_AnyWord_fits "AnyWord.fits" = true)
    (k_AnyWord_fits : PySem.W.keepIn K (.ref a_AnyWord_fits) = true)
    (w0_AnyWord_fits : PySem.W.nsIn K D_AnyWord_fits "over" = some (some (.bool false)))
    {oc_AnyWord_hint dc_AnyWord_hint pm_AnyWord_hint cd_AnyWord_hint ct_AnyWord_hint : Value}
    {od_AnyWord_hint an_AnyWord_hint : Option Addr}
    {sl_AnyWord_hint : Array (Option Value)}
    {kV_AnyWord_hint : Value}
    (l_AnyWord_hint : K.lookup a_AnyWord_hint = some ⟨oc_AnyWord_hint, od_AnyWord_hint, .func (PySem.W.fnOf "hint" "AnyWord.hint" (defArgs s_AnyWord_hint) (defBody s_AnyWord_hint) (defScope s_AnyWord_hint) .none kV_AnyWord_hint dc_AnyWord_hint pm_AnyWord_hint an_AnyWord_hint cd_AnyWord_hint ct_AnyWord_hint), sl_AnyWord_hint⟩)
    (c_AnyWord_hint : PySem.W.codeIn K cd_AnyWord_hint "AnyWord.hint" = true)
    (k_AnyWord_hint : PySem.W.keepIn K (.ref a_AnyWord_hint) = true)
    {oc_AnyWord_text dc_AnyWord_text pm_AnyWord_text cd_AnyWord_text ct_AnyWord_text : Value}
    {od_AnyWord_text an_AnyWord_text : Option Addr}
    {sl_AnyWord_text : Array (Option Value)}
    {kV_AnyWord_text : Value}
    (l_AnyWord_text : K.lookup a_AnyWord_text = some ⟨oc_AnyWord_text, od_AnyWord_text, .func (PySem.W.fnOf "text" "AnyWord.text" (defArgs s_AnyWord_text) (defBody s_AnyWord_text) (defScope s_AnyWord_text) .none kV_AnyWord_text dc_AnyWord_text pm_AnyWord_text an_AnyWord_text cd_AnyWord_text ct_AnyWord_text), sl_AnyWord_text⟩)
    (c_AnyWord_text : PySem.W.codeIn K cd_AnyWord_text "AnyWord.text" = true)
    (k_AnyWord_text : PySem.W.keepIn K (.ref a_AnyWord_text) = true)
    {oc_OneOf___init__ dc_OneOf___init__ pm_OneOf___init__ cd_OneOf___init__ ct_OneOf___init__ : Value}
    {od_OneOf___init__ an_OneOf___init__ : Option Addr}
    {sl_OneOf___init__ : Array (Option Value)}
    {kV_OneOf___init__ : Value}
    (l_OneOf___init__ : K.lookup a_OneOf___init__ = some ⟨oc_OneOf___init__, od_OneOf___init__, .func (PySem.W.fnOf "__init__" "OneOf.__init__" (defArgs s_OneOf___init__) (defBody s_OneOf___init__) (defScope s_OneOf___init__) .none kV_OneOf___init__ dc_OneOf___init__ pm_OneOf___init__ an_OneOf___init__ cd_OneOf___init__ ct_OneOf___init__), sl_OneOf___init__⟩)
    (c_OneOf___init__ : PySem.W.codeIn K cd_OneOf___init__ "OneOf.__init__" = true)
    (k_OneOf___init__ : PySem.W.keepIn K (.ref a_OneOf___init__) = true)
    {oc_OneOf_fits dc_OneOf_fits pm_OneOf_fits cd_OneOf_fits ct_OneOf_fits : Value}
    {od_OneOf_fits an_OneOf_fits : Option Addr}
    {sl_OneOf_fits : Array (Option Value)}
    {D_OneOf_fits : Addr}
    (l_OneOf_fits : K.lookup a_OneOf_fits = some ⟨oc_OneOf_fits, od_OneOf_fits, .func (PySem.W.fnOf "fits" "OneOf.fits" (defArgs s_OneOf_fits) (defBody s_OneOf_fits) (defScope s_OneOf_fits) .none (.ref D_OneOf_fits) dc_OneOf_fits pm_OneOf_fits an_OneOf_fits cd_OneOf_fits ct_OneOf_fits), sl_OneOf_fits⟩)
    (c_OneOf_fits : PySem.W.codeIn K cd_OneOf_fits "OneOf.fits" = true)
    (k_OneOf_fits : PySem.W.keepIn K (.ref a_OneOf_fits) = true)
    (w0_OneOf_fits : PySem.W.nsIn K D_OneOf_fits "over" = some (some (.bool false)))
    {oc_OneOf_words dc_OneOf_words pm_OneOf_words cd_OneOf_words ct_OneOf_words : Value}
    {od_OneOf_words an_OneOf_words : Option Addr}
    {sl_OneOf_words : Array (Option Value)}
    {kV_OneOf_words : Value}
    (l_OneOf_words : K.lookup a_OneOf_words = some ⟨oc_OneOf_words, od_OneOf_words, .func (PySem.W.fnOf "words" "OneOf.words" (defArgs s_OneOf_words) (defBody s_OneOf_words) (defScope s_OneOf_words) .none kV_OneOf_words dc_OneOf_words pm_OneOf_words an_OneOf_words cd_OneOf_words ct_OneOf_words), sl_OneOf_words⟩)
    (c_OneOf_words : PySem.W.codeIn K cd_OneOf_words "OneOf.words" = true)
    (k_OneOf_words : PySem.W.keepIn K (.ref a_OneOf_words) = true)
    {oc_OneOf_text dc_OneOf_text pm_OneOf_text cd_OneOf_text ct_OneOf_text : Value}
    {od_OneOf_text an_OneOf_text : Option Addr}
    {sl_OneOf_text : Array (Option Value)}
    {kV_OneOf_text : Value}
    (l_OneOf_text : K.lookup a_OneOf_text = some ⟨oc_OneOf_text, od_OneOf_text, .func (PySem.W.fnOf "text" "OneOf.text" (defArgs s_OneOf_text) (defBody s_OneOf_text) (defScope s_OneOf_text) .none kV_OneOf_text dc_OneOf_text pm_OneOf_text an_OneOf_text cd_OneOf_text ct_OneOf_text), sl_OneOf_text⟩)
    (c_OneOf_text : PySem.W.codeIn K cd_OneOf_text "OneOf.text" = true)
    (k_OneOf_text : PySem.W.keepIn K (.ref a_OneOf_text) = true)
    {oc_Number___init__ dc_Number___init__ pm_Number___init__ cd_Number___init__ ct_Number___init__ : Value}
    {od_Number___init__ an_Number___init__ : Option Addr}
    {sl_Number___init__ : Array (Option Value)}
    {kV_Number___init__ : Value}
    (l_Number___init__ : K.lookup a_Number___init__ = some ⟨oc_Number___init__, od_Number___init__, .func (PySem.W.fnOf "__init__" "Number.__init__" (defArgs s_Number___init__) (defBody s_Number___init__) (defScope s_Number___init__) .none kV_Number___init__ dc_Number___init__ pm_Number___init__ an_Number___init__ cd_Number___init__ ct_Number___init__), sl_Number___init__⟩)
    (c_Number___init__ : PySem.W.codeIn K cd_Number___init__ "Number.__init__" = true)
    (k_Number___init__ : PySem.W.keepIn K (.ref a_Number___init__) = true)
    {oc_Number_fits dc_Number_fits pm_Number_fits cd_Number_fits ct_Number_fits : Value}
    {od_Number_fits an_Number_fits : Option Addr}
    {sl_Number_fits : Array (Option Value)}
    {D_Number_fits : Addr}
    (l_Number_fits : K.lookup a_Number_fits = some ⟨oc_Number_fits, od_Number_fits, .func (PySem.W.fnOf "fits" "Number.fits" (defArgs s_Number_fits) (defBody s_Number_fits) (defScope s_Number_fits) .none (.ref D_Number_fits) dc_Number_fits pm_Number_fits an_Number_fits cd_Number_fits ct_Number_fits), sl_Number_fits⟩)
    (c_Number_fits : PySem.W.codeIn K cd_Number_fits "Number.fits" = true)
    (k_Number_fits : PySem.W.keepIn K (.ref a_Number_fits) = true)
    (w0_Number_fits : PySem.W.nsIn K D_Number_fits "over" = some (some (.bool false)))
    {oc_Number_hint dc_Number_hint pm_Number_hint cd_Number_hint ct_Number_hint : Value}
    {od_Number_hint an_Number_hint : Option Addr}
    {sl_Number_hint : Array (Option Value)}
    {kV_Number_hint : Value}
    (l_Number_hint : K.lookup a_Number_hint = some ⟨oc_Number_hint, od_Number_hint, .func (PySem.W.fnOf "hint" "Number.hint" (defArgs s_Number_hint) (defBody s_Number_hint) (defScope s_Number_hint) .none kV_Number_hint dc_Number_hint pm_Number_hint an_Number_hint cd_Number_hint ct_Number_hint), sl_Number_hint⟩)
    (c_Number_hint : PySem.W.codeIn K cd_Number_hint "Number.hint" = true)
    (k_Number_hint : PySem.W.keepIn K (.ref a_Number_hint) = true)
    {oc_Number_text dc_Number_text pm_Number_text cd_Number_text ct_Number_text : Value}
    {od_Number_text an_Number_text : Option Addr}
    {sl_Number_text : Array (Option Value)}
    {kV_Number_text : Value}
    (l_Number_text : K.lookup a_Number_text = some ⟨oc_Number_text, od_Number_text, .func (PySem.W.fnOf "text" "Number.text" (defArgs s_Number_text) (defBody s_Number_text) (defScope s_Number_text) .none kV_Number_text dc_Number_text pm_Number_text an_Number_text cd_Number_text ct_Number_text), sl_Number_text⟩)
    (c_Number_text : PySem.W.codeIn K cd_Number_text "Number.text" = true)
    (k_Number_text : PySem.W.keepIn K (.ref a_Number_text) = true)
    (h0_Kind : PySem.W.findIn K (.ref a_Kind) "__init__" = some (some (.builtin "object.__init__")))
    (he_Kind : PySem.W.findIn K (.ref a_Kind) "__ne__" = some (some (.builtin "object.__ne__")))
    (h0_AnyWord : PySem.W.findIn K (.ref a_AnyWord) "__init__" = some (some (.builtin "object.__init__")))
    (he_AnyWord : PySem.W.findIn K (.ref a_AnyWord) "__ne__" = some (some (.builtin "object.__ne__")))
    (he_OneOf : PySem.W.findIn K (.ref a_OneOf) "__ne__" = some (some (.builtin "object.__ne__")))
    (hx_OneOf_own_words : PySem.W.findIn K (.ref a_OneOf) "own_words" = some none)
    (he_Number : PySem.W.findIn K (.ref a_Number) "__ne__" = some (some (.builtin "object.__ne__")))
    (hx_Number_low : PySem.W.findIn K (.ref a_Number) "low" = some none)
    (hx_Number_high : PySem.W.findIn K (.ref a_Number) "high" = some none)
    {tc_Number_MOST : Tok}
    (hr_Number_MOST : PySem.W.readsIn K a_Number (.type "type") = true)
    (hg_Number_MOST : PySem.W.specialIn K (.ref a_Number) "__getattribute__" = some (some (.builtin "type.__getattribute__")))
    (hv_Number_MOST : PySem.W.findCls K (.ref a_Number) (.type "type") "MOST" = some (.val (.int (99999) tc_Number_MOST)))
    (ic_Kind : PySem.W.isClsIn K a_Kind = true)
    (it_Kind : PySem.W.typeIn K (.ref a_Kind) = some (.type "type"))
    (is_Kind : PySem.W.subIn K (.ref a_Kind) (.ref a_Kind) = some true)
    (ib_NoneType_Kind : PySem.W.subIn K (.type "NoneType") (.ref a_Kind) = some false)
    (ib_bool_Kind : PySem.W.subIn K (.type "bool") (.ref a_Kind) = some false)
    (ib_int_Kind : PySem.W.subIn K (.type "int") (.ref a_Kind) = some false)
    (ib_str_Kind : PySem.W.subIn K (.type "str") (.ref a_Kind) = some false)
    (ib_list_Kind : PySem.W.subIn K (.type "list") (.ref a_Kind) = some false)
    (ib_tuple_Kind : PySem.W.subIn K (.type "tuple") (.ref a_Kind) = some false)
    (ib_dict_Kind : PySem.W.subIn K (.type "dict") (.ref a_Kind) = some false)
    (io_Kind_Kind : PySem.W.subIn K (.ref a_Kind) (.ref a_Kind) = some true)
    (io_AnyWord_Kind : PySem.W.subIn K (.ref a_AnyWord) (.ref a_Kind) = some true)
    (io_OneOf_Kind : PySem.W.subIn K (.ref a_OneOf) (.ref a_Kind) = some true)
    (io_Number_Kind : PySem.W.subIn K (.ref a_Number) (.ref a_Kind) = some true)
    (nb_Kind_NoneType : PySem.W.notFirst K a_Kind (.type "NoneType") = true)
    (nb_Kind_bool : PySem.W.notFirst K a_Kind (.type "bool") = true)
    (nb_Kind_int : PySem.W.notFirst K a_Kind (.type "int") = true)
    (nb_Kind_str : PySem.W.notFirst K a_Kind (.type "str") = true)
    (nb_Kind_list : PySem.W.notFirst K a_Kind (.type "list") = true)
    (nb_Kind_tuple : PySem.W.notFirst K a_Kind (.type "tuple") = true)
    (nb_Kind_dict : PySem.W.notFirst K a_Kind (.type "dict") = true)
    (no_Kind_Kind : PySem.W.notFirst K a_Kind (.ref a_Kind) = true)
    (nb_AnyWord_NoneType : PySem.W.notFirst K a_AnyWord (.type "NoneType") = true)
    (nb_AnyWord_bool : PySem.W.notFirst K a_AnyWord (.type "bool") = true)
    (nb_AnyWord_int : PySem.W.notFirst K a_AnyWord (.type "int") = true)
    (nb_AnyWord_str : PySem.W.notFirst K a_AnyWord (.type "str") = true)
    (nb_AnyWord_list : PySem.W.notFirst K a_AnyWord (.type "list") = true)
    (nb_AnyWord_tuple : PySem.W.notFirst K a_AnyWord (.type "tuple") = true)
    (nb_AnyWord_dict : PySem.W.notFirst K a_AnyWord (.type "dict") = true)
    (no_AnyWord_Kind : PySem.W.notFirst K a_AnyWord (.ref a_Kind) = true)
    (no_AnyWord_AnyWord : PySem.W.notFirst K a_AnyWord (.ref a_AnyWord) = true)
    (no_AnyWord_OneOf : PySem.W.notFirst K a_AnyWord (.ref a_OneOf) = true)
    (no_AnyWord_Number : PySem.W.notFirst K a_AnyWord (.ref a_Number) = true)
    (nb_OneOf_NoneType : PySem.W.notFirst K a_OneOf (.type "NoneType") = true)
    (nb_OneOf_bool : PySem.W.notFirst K a_OneOf (.type "bool") = true)
    (nb_OneOf_int : PySem.W.notFirst K a_OneOf (.type "int") = true)
    (nb_OneOf_str : PySem.W.notFirst K a_OneOf (.type "str") = true)
    (nb_OneOf_list : PySem.W.notFirst K a_OneOf (.type "list") = true)
    (nb_OneOf_tuple : PySem.W.notFirst K a_OneOf (.type "tuple") = true)
    (nb_OneOf_dict : PySem.W.notFirst K a_OneOf (.type "dict") = true)
    (no_OneOf_Kind : PySem.W.notFirst K a_OneOf (.ref a_Kind) = true)
    (no_OneOf_AnyWord : PySem.W.notFirst K a_OneOf (.ref a_AnyWord) = true)
    (no_OneOf_OneOf : PySem.W.notFirst K a_OneOf (.ref a_OneOf) = true)
    (no_OneOf_Number : PySem.W.notFirst K a_OneOf (.ref a_Number) = true)
    (nb_Number_NoneType : PySem.W.notFirst K a_Number (.type "NoneType") = true)
    (nb_Number_bool : PySem.W.notFirst K a_Number (.type "bool") = true)
    (nb_Number_int : PySem.W.notFirst K a_Number (.type "int") = true)
    (nb_Number_str : PySem.W.notFirst K a_Number (.type "str") = true)
    (nb_Number_list : PySem.W.notFirst K a_Number (.type "list") = true)
    (nb_Number_tuple : PySem.W.notFirst K a_Number (.type "tuple") = true)
    (nb_Number_dict : PySem.W.notFirst K a_Number (.type "dict") = true)
    (no_Number_Kind : PySem.W.notFirst K a_Number (.ref a_Kind) = true)
    (no_Number_AnyWord : PySem.W.notFirst K a_Number (.ref a_AnyWord) = true)
    (no_Number_OneOf : PySem.W.notFirst K a_Number (.ref a_OneOf) = true)
    (no_Number_Number : PySem.W.notFirst K a_Number (.ref a_Number) = true)
    {a_is_number : Addr}
    (hn_is_number : PySem.W.nsIn K mainGlobals "is_number" = some (some (.ref a_is_number)))
    {oc_is_number dc_is_number pm_is_number cd_is_number ct_is_number : Value}
    {od_is_number an_is_number : Option Addr}
    {sl_is_number : Array (Option Value)}
    {kV_is_number : Value}
    (l_is_number : K.lookup a_is_number = some ⟨oc_is_number, od_is_number, .func (PySem.W.fnOf "is_number" "is_number" (defArgs s_is_number) (defBody s_is_number) (defScope s_is_number) .none kV_is_number dc_is_number pm_is_number an_is_number cd_is_number ct_is_number), sl_is_number⟩)
    (c_is_number : PySem.W.codeIn K cd_is_number "is_number" = true)
    (k_is_number : PySem.W.keepIn K (.ref a_is_number) = true)
    {a_is_between : Addr}
    (hn_is_between : PySem.W.nsIn K mainGlobals "is_between" = some (some (.ref a_is_between)))
    {oc_is_between dc_is_between pm_is_between cd_is_between ct_is_between : Value}
    {od_is_between an_is_between : Option Addr}
    {sl_is_between : Array (Option Value)}
    {kV_is_between : Value}
    (l_is_between : K.lookup a_is_between = some ⟨oc_is_between, od_is_between, .func (PySem.W.fnOf "is_between" "is_between" (defArgs s_is_between) (defBody s_is_between) (defScope s_is_between) .none kV_is_between dc_is_between pm_is_between an_is_between cd_is_between ct_is_between), sl_is_between⟩)
    (c_is_between : PySem.W.codeIn K cd_is_between "is_between" = true)
    (k_is_between : PySem.W.keepIn K (.ref a_is_between) = true)
    {a_is_word : Addr}
    (hn_is_word : PySem.W.nsIn K mainGlobals "is_word" = some (some (.ref a_is_word)))
    {oc_is_word dc_is_word pm_is_word cd_is_word ct_is_word : Value}
    {od_is_word an_is_word : Option Addr}
    {sl_is_word : Array (Option Value)}
    {kV_is_word : Value}
    (l_is_word : K.lookup a_is_word = some ⟨oc_is_word, od_is_word, .func (PySem.W.fnOf "is_word" "is_word" (defArgs s_is_word) (defBody s_is_word) (defScope s_is_word) .none kV_is_word dc_is_word pm_is_word an_is_word cd_is_word ct_is_word), sl_is_word⟩)
    (c_is_word : PySem.W.codeIn K cd_is_word "is_word" = true)
    (k_is_word : PySem.W.keepIn K (.ref a_is_word) = true)
    {a_is_plain : Addr}
    (hn_is_plain : PySem.W.nsIn K mainGlobals "is_plain" = some (some (.ref a_is_plain)))
    {oc_is_plain dc_is_plain pm_is_plain cd_is_plain ct_is_plain : Value}
    {od_is_plain an_is_plain : Option Addr}
    {sl_is_plain : Array (Option Value)}
    {kV_is_plain : Value}
    (l_is_plain : K.lookup a_is_plain = some ⟨oc_is_plain, od_is_plain, .func (PySem.W.fnOf "is_plain" "is_plain" (defArgs s_is_plain) (defBody s_is_plain) (defScope s_is_plain) .none kV_is_plain dc_is_plain pm_is_plain an_is_plain cd_is_plain ct_is_plain), sl_is_plain⟩)
    (c_is_plain : PySem.W.codeIn K cd_is_plain "is_plain" = true)
    (k_is_plain : PySem.W.keepIn K (.ref a_is_plain) = true)
    {a_is_number_word : Addr}
    (hn_is_number_word : PySem.W.nsIn K mainGlobals "is_number_word" = some (some (.ref a_is_number_word)))
    {oc_is_number_word dc_is_number_word pm_is_number_word cd_is_number_word ct_is_number_word : Value}
    {od_is_number_word an_is_number_word : Option Addr}
    {sl_is_number_word : Array (Option Value)}
    {kV_is_number_word : Value}
    (l_is_number_word : K.lookup a_is_number_word = some ⟨oc_is_number_word, od_is_number_word, .func (PySem.W.fnOf "is_number_word" "is_number_word" (defArgs s_is_number_word) (defBody s_is_number_word) (defScope s_is_number_word) .none kV_is_number_word dc_is_number_word pm_is_number_word an_is_number_word cd_is_number_word ct_is_number_word), sl_is_number_word⟩)
    (c_is_number_word : PySem.W.codeIn K cd_is_number_word "is_number_word" = true)
    (k_is_number_word : PySem.W.keepIn K (.ref a_is_number_word) = true)
    {a__law_feed : Addr}
    (hn__law_feed : PySem.W.nsIn K mainGlobals "_law_feed" = some (some (.ref a__law_feed)))
    {oc__law_feed dc__law_feed pm__law_feed cd__law_feed ct__law_feed : Value}
    {od__law_feed an__law_feed : Option Addr}
    {sl__law_feed : Array (Option Value)}
    {kV__law_feed : Value}
    (l__law_feed : K.lookup a__law_feed = some ⟨oc__law_feed, od__law_feed, .func (PySem.W.fnOf "_law_feed" "_law_feed" (defArgs s__law_feed) (defBody s__law_feed) (defScope s__law_feed) .none kV__law_feed dc__law_feed pm__law_feed an__law_feed cd__law_feed ct__law_feed), sl__law_feed⟩)
    (c__law_feed : PySem.W.codeIn K cd__law_feed "_law_feed" = true)
    (k__law_feed : PySem.W.keepIn K (.ref a__law_feed) = true)
    {a__law_take : Addr}
    (hn__law_take : PySem.W.nsIn K mainGlobals "_law_take" = some (some (.ref a__law_take)))
    {oc__law_take dc__law_take pm__law_take cd__law_take ct__law_take : Value}
    {od__law_take an__law_take : Option Addr}
    {sl__law_take : Array (Option Value)}
    {kV__law_take : Value}
    (l__law_take : K.lookup a__law_take = some ⟨oc__law_take, od__law_take, .func (PySem.W.fnOf "_law_take" "_law_take" (defArgs s__law_take) (defBody s__law_take) (defScope s__law_take) .none kV__law_take dc__law_take pm__law_take an__law_take cd__law_take ct__law_take), sl__law_take⟩)
    (c__law_take : PySem.W.codeIn K cd__law_take "_law_take" = true)
    (k__law_take : PySem.W.keepIn K (.ref a__law_take) = true)
    {a__law_of : Addr}
    (hn__law_of : PySem.W.nsIn K mainGlobals "_law_of" = some (some (.ref a__law_of)))
    {oc__law_of dc__law_of pm__law_of cd__law_of ct__law_of : Value}
    {od__law_of an__law_of : Option Addr}
    {sl__law_of : Array (Option Value)}
    {kV__law_of : Value}
    (l__law_of : K.lookup a__law_of = some ⟨oc__law_of, od__law_of, .func (PySem.W.fnOf "_law_of" "_law_of" (defArgs s__law_of) (defBody s__law_of) (defScope s__law_of) .none kV__law_of dc__law_of pm__law_of an__law_of cd__law_of ct__law_of), sl__law_of⟩)
    (c__law_of : PySem.W.codeIn K cd__law_of "_law_of" = true)
    (k__law_of : PySem.W.keepIn K (.ref a__law_of) = true)
    {a__law_mixed : Addr}
    (hn__law_mixed : PySem.W.nsIn K mainGlobals "_law_mixed" = some (some (.ref a__law_mixed)))
    {oc__law_mixed dc__law_mixed pm__law_mixed cd__law_mixed ct__law_mixed : Value}
    {od__law_mixed an__law_mixed : Option Addr}
    {sl__law_mixed : Array (Option Value)}
    {kV__law_mixed : Value}
    (l__law_mixed : K.lookup a__law_mixed = some ⟨oc__law_mixed, od__law_mixed, .func (PySem.W.fnOf "_law_mixed" "_law_mixed" (defArgs s__law_mixed) (defBody s__law_mixed) (defScope s__law_mixed) .none kV__law_mixed dc__law_mixed pm__law_mixed an__law_mixed cd__law_mixed ct__law_mixed), sl__law_mixed⟩)
    (c__law_mixed : PySem.W.codeIn K cd__law_mixed "_law_mixed" = true)
    (k__law_mixed : PySem.W.keepIn K (.ref a__law_mixed) = true)
    {a__law_same : Addr}
    (hn__law_same : PySem.W.nsIn K mainGlobals "_law_same" = some (some (.ref a__law_same)))
    {oc__law_same dc__law_same pm__law_same cd__law_same ct__law_same : Value}
    {od__law_same an__law_same : Option Addr}
    {sl__law_same : Array (Option Value)}
    {kV__law_same : Value}
    (l__law_same : K.lookup a__law_same = some ⟨oc__law_same, od__law_same, .func (PySem.W.fnOf "_law_same" "_law_same" (defArgs s__law_same) (defBody s__law_same) (defScope s__law_same) .none kV__law_same dc__law_same pm__law_same an__law_same cd__law_same ct__law_same), sl__law_same⟩)
    (c__law_same : PySem.W.codeIn K cd__law_same "_law_same" = true)
    (k__law_same : PySem.W.keepIn K (.ref a__law_same) = true)
    {a__law_plain_words : Addr}
    (hn__law_plain_words : PySem.W.nsIn K mainGlobals "_law_plain_words" = some (some (.ref a__law_plain_words)))
    {oc__law_plain_words dc__law_plain_words pm__law_plain_words cd__law_plain_words ct__law_plain_words : Value}
    {od__law_plain_words an__law_plain_words : Option Addr}
    {sl__law_plain_words : Array (Option Value)}
    {kV__law_plain_words : Value}
    (l__law_plain_words : K.lookup a__law_plain_words = some ⟨oc__law_plain_words, od__law_plain_words, .func (PySem.W.fnOf "_law_plain_words" "_law_plain_words" (defArgs s__law_plain_words) (defBody s__law_plain_words) (defScope s__law_plain_words) .none kV__law_plain_words dc__law_plain_words pm__law_plain_words an__law_plain_words cd__law_plain_words ct__law_plain_words), sl__law_plain_words⟩)
    (c__law_plain_words : PySem.W.codeIn K cd__law_plain_words "_law_plain_words" = true)
    (k__law_plain_words : PySem.W.keepIn K (.ref a__law_plain_words) = true)
    {a__law_kind : Addr}
    (hn__law_kind : PySem.W.nsIn K mainGlobals "_law_kind" = some (some (.ref a__law_kind)))
    {oc__law_kind dc__law_kind pm__law_kind cd__law_kind ct__law_kind : Value}
    {od__law_kind an__law_kind : Option Addr}
    {sl__law_kind : Array (Option Value)}
    {kV__law_kind : Value}
    (l__law_kind : K.lookup a__law_kind = some ⟨oc__law_kind, od__law_kind, .func (PySem.W.fnOf "_law_kind" "_law_kind" (defArgs s__law_kind) (defBody s__law_kind) (defScope s__law_kind) .none kV__law_kind dc__law_kind pm__law_kind an__law_kind cd__law_kind ct__law_kind), sl__law_kind⟩)
    (c__law_kind : PySem.W.codeIn K cd__law_kind "_law_kind" = true)
    (k__law_kind : PySem.W.keepIn K (.ref a__law_kind) = true)
    {a__law_ready_kind : Addr}
    (hn__law_ready_kind : PySem.W.nsIn K mainGlobals "_law_ready_kind" = some (some (.ref a__law_ready_kind)))
    {oc__law_ready_kind dc__law_ready_kind pm__law_ready_kind cd__law_ready_kind ct__law_ready_kind : Value}
    {od__law_ready_kind an__law_ready_kind : Option Addr}
    {sl__law_ready_kind : Array (Option Value)}
    {kV__law_ready_kind : Value}
    (l__law_ready_kind : K.lookup a__law_ready_kind = some ⟨oc__law_ready_kind, od__law_ready_kind, .func (PySem.W.fnOf "_law_ready_kind" "_law_ready_kind" (defArgs s__law_ready_kind) (defBody s__law_ready_kind) (defScope s__law_ready_kind) .none kV__law_ready_kind dc__law_ready_kind pm__law_ready_kind an__law_ready_kind cd__law_ready_kind ct__law_ready_kind), sl__law_ready_kind⟩)
    (c__law_ready_kind : PySem.W.codeIn K cd__law_ready_kind "_law_ready_kind" = true)
    (k__law_ready_kind : PySem.W.keepIn K (.ref a__law_ready_kind) = true)
    {a__law_fits : Addr}
    (hn__law_fits : PySem.W.nsIn K mainGlobals "_law_fits" = some (some (.ref a__law_fits)))
    {oc__law_fits dc__law_fits pm__law_fits cd__law_fits ct__law_fits : Value}
    {od__law_fits an__law_fits : Option Addr}
    {sl__law_fits : Array (Option Value)}
    {kV__law_fits : Value}
    (l__law_fits : K.lookup a__law_fits = some ⟨oc__law_fits, od__law_fits, .func (PySem.W.fnOf "_law_fits" "_law_fits" (defArgs s__law_fits) (defBody s__law_fits) (defScope s__law_fits) .none kV__law_fits dc__law_fits pm__law_fits an__law_fits cd__law_fits ct__law_fits), sl__law_fits⟩)
    (c__law_fits : PySem.W.codeIn K cd__law_fits "_law_fits" = true)
    (k__law_fits : PySem.W.keepIn K (.ref a__law_fits) = true)
    {a__law_is_num : Addr}
    (hn__law_is_num : PySem.W.nsIn K mainGlobals "_law_is_num" = some (some (.ref a__law_is_num)))
    {oc__law_is_num dc__law_is_num pm__law_is_num cd__law_is_num ct__law_is_num : Value}
    {od__law_is_num an__law_is_num : Option Addr}
    {sl__law_is_num : Array (Option Value)}
    {kV__law_is_num : Value}
    (l__law_is_num : K.lookup a__law_is_num = some ⟨oc__law_is_num, od__law_is_num, .func (PySem.W.fnOf "_law_is_num" "_law_is_num" (defArgs s__law_is_num) (defBody s__law_is_num) (defScope s__law_is_num) .none kV__law_is_num dc__law_is_num pm__law_is_num an__law_is_num cd__law_is_num ct__law_is_num), sl__law_is_num⟩)
    (c__law_is_num : PySem.W.codeIn K cd__law_is_num "_law_is_num" = true)
    (k__law_is_num : PySem.W.keepIn K (.ref a__law_is_num) = true)
    {a_law : Addr}
    (hn_law : PySem.W.nsIn K mainGlobals "law" = some (some (.ref a_law)))
    {oc_law dc_law pm_law cd_law ct_law : Value}
    {od_law an_law : Option Addr}
    {sl_law : Array (Option Value)}
    {kV_law : Value}
    (l_law : K.lookup a_law = some ⟨oc_law, od_law, .func (PySem.W.fnOf "law" "law" (defArgs s_law) (defBody s_law) (defScope s_law) .none kV_law dc_law pm_law an_law cd_law ct_law), sl_law⟩)
    (c_law : PySem.W.codeIn K cd_law "law" = true)
    (k_law : PySem.W.keepIn K (.ref a_law) = true)
    (z0 : PySem.W.nsIn K mainGlobals "len" = some none)
    (z1 : PySem.W.nsIn K mainGlobals "int" = some none)
    (z2 : PySem.W.nsIn K mainGlobals "str" = some none)
    (z3 : PySem.W.nsIn K mainGlobals "bool" = some none)
    (z4 : PySem.W.nsIn K mainGlobals "list" = some none)
    (z5 : PySem.W.nsIn K mainGlobals "tuple" = some none)
    (z6 : PySem.W.nsIn K mainGlobals "range" = some none)
    (z7 : PySem.W.nsIn K mainGlobals "isinstance" = some none)
    (z8 : PySem.W.nsIn K mainGlobals "all" = some none)
    (z9 : PySem.W.nsIn K mainGlobals "any" = some none)
    (z10 : PySem.W.nsIn K mainGlobals "sum" = some none)
    (z11 : PySem.W.nsIn K mainGlobals "max" = some none)
    (z12 : PySem.W.nsIn K mainGlobals "min" = some none)
    (z13 : PySem.W.nsIn K mainGlobals "sorted" = some none)
    (z14 : PySem.W.nsIn K mainGlobals "enumerate" = some none)
    (z15 : PySem.W.nsIn K mainGlobals "zip" = some none)
    (z16 : PySem.W.nsIn K mainGlobals "dict" = some none)
    (z17 : PySem.W.nsIn K mainGlobals "set" = some none)
    (z18 : PySem.W.nsIn K mainGlobals "repr" = some none)
    (z19 : PySem.W.nsIn K mainGlobals "super" = some none)
    {t0 : Tok}
    (cst0 : PySem.W.nsIn K mainGlobals "FIGURES" = some (some (.str "0123456789" t0)))
    {t1 : Tok}
    (cst1 : PySem.W.nsIn K mainGlobals "SIGNS" = some (some (.str "abcdefghijklmnopqrstuvwxyz0123456789-" t1)))
    {t2 : Tok}
    (cst2 : PySem.W.nsIn K mainGlobals "MOST_SIGNS" = some (some (.int (8) t2)))
    {t3 : Tok}
    (cst3 : PySem.W.nsIn K mainGlobals "MOST_WORDS" = some (some (.int (6) t3)))
    : ∃ c : Cs, Alls K mg c :=
  ⟨⟨a_Kind, a_AnyWord, a_OneOf, a_Number, a_Kind_fits, a_Kind_words, a_Kind_hint, a_Kind_text, a_Kind___contains__, a_Kind___eq__, a_Kind___repr__, a_AnyWord_fits, a_AnyWord_hint, a_AnyWord_text, a_OneOf___init__, a_OneOf_fits, a_OneOf_words, a_OneOf_text, a_Number___init__, a_Number_fits, a_Number_hint, a_Number_text⟩, {
    n_Kind := PySem.W.mg_of X G hn_Kind,
    cl_Kind := ⟨hp_Kind, hh_Kind, ho_Kind, hs_Kind⟩,
    ty_Kind := fun e => .ins e ⟨hp_Kind, hh_Kind, ho_Kind, hs_Kind⟩ hc_Kind hgc htc hb_Kind,
    n_AnyWord := PySem.W.mg_of X G hn_AnyWord,
    cl_AnyWord := ⟨hp_AnyWord, hh_AnyWord, ho_AnyWord, hs_AnyWord⟩,
    ty_AnyWord := fun e => .ins e ⟨hp_AnyWord, hh_AnyWord, ho_AnyWord, hs_AnyWord⟩ hc_AnyWord hgc htc hb_AnyWord,
    n_OneOf := PySem.W.mg_of X G hn_OneOf,
    cl_OneOf := ⟨hp_OneOf, hh_OneOf, ho_OneOf, hs_OneOf⟩,
    ty_OneOf := fun e => .ins e ⟨hp_OneOf, hh_OneOf, ho_OneOf, hs_OneOf⟩ hc_OneOf hgc htc hb_OneOf,
    n_Number := PySem.W.mg_of X G hn_Number,
    cl_Number := ⟨hp_Number, hh_Number, ho_Number, hs_Number⟩,
    ty_Number := fun e => .ins e ⟨hp_Number, hh_Number, ho_Number, hs_Number⟩ hc_Number hgc htc hb_Number,
    f_Kind_fits := fd_mk l_Kind_fits c_Kind_fits k_Kind_fits dfl_none (kwd_of fun p hp => by
      simp only [List.mem_cons, List.not_mem_nil, or_false] at hp
      rcases hp with rfl
      · exact ⟨_, w0_Kind_fits, rfl⟩),
    f_Kind_words := fd_mk l_Kind_words c_Kind_words k_Kind_words dfl_none kwd_none,
    f_Kind_hint := fd_mk l_Kind_hint c_Kind_hint k_Kind_hint dfl_none kwd_none,
    f_Kind_text := fd_mk l_Kind_text c_Kind_text k_Kind_text dfl_none kwd_none,
    f_Kind___contains__ := fd_mk l_Kind___contains__ c_Kind___contains__ k_Kind___contains__ dfl_none kwd_none,
    f_Kind___eq__ := fd_mk l_Kind___eq__ c_Kind___eq__ k_Kind___eq__ dfl_none kwd_none,
    f_Kind___repr__ := fd_mk l_Kind___repr__ c_Kind___repr__ k_Kind___repr__ dfl_none kwd_none,
    f_AnyWord_fits := fd_mk l_AnyWord_fits c_AnyWord_fits k_AnyWord_fits dfl_none (kwd_of fun p hp => by
      simp only [List.mem_cons, List.not_mem_nil, or_false] at hp
      rcases hp with rfl
      · exact ⟨_, w0_AnyWord_fits, rfl⟩),
    f_AnyWord_hint := fd_mk l_AnyWord_hint c_AnyWord_hint k_AnyWord_hint dfl_none kwd_none,
    f_AnyWord_text := fd_mk l_AnyWord_text c_AnyWord_text k_AnyWord_text dfl_none kwd_none,
    f_OneOf___init__ := fd_mk l_OneOf___init__ c_OneOf___init__ k_OneOf___init__ dfl_none kwd_none,
    f_OneOf_fits := fd_mk l_OneOf_fits c_OneOf_fits k_OneOf_fits dfl_none (kwd_of fun p hp => by
      simp only [List.mem_cons, List.not_mem_nil, or_false] at hp
      rcases hp with rfl
      · exact ⟨_, w0_OneOf_fits, rfl⟩),
    f_OneOf_words := fd_mk l_OneOf_words c_OneOf_words k_OneOf_words dfl_none kwd_none,
    f_OneOf_text := fd_mk l_OneOf_text c_OneOf_text k_OneOf_text dfl_none kwd_none,
    f_Number___init__ := fd_mk l_Number___init__ c_Number___init__ k_Number___init__ dfl_none kwd_none,
    f_Number_fits := fd_mk l_Number_fits c_Number_fits k_Number_fits dfl_none (kwd_of fun p hp => by
      simp only [List.mem_cons, List.not_mem_nil, or_false] at hp
      rcases hp with rfl
      · exact ⟨_, w0_Number_fits, rfl⟩),
    f_Number_hint := fd_mk l_Number_hint c_Number_hint k_Number_hint dfl_none kwd_none,
    f_Number_text := fd_mk l_Number_text c_Number_text k_Number_text dfl_none kwd_none,
    m_Kind := ⟨hm_Kind, h0_Kind, hk_Kind, PySem.W.mg_of X G hn_Kind⟩,
    me_Kind_fits := ⟨hf_Kind_fits, hi_Kind_fits, k_Kind_fits⟩,
    me_Kind_words := ⟨hf_Kind_words, hi_Kind_words, k_Kind_words⟩,
    me_Kind_hint := ⟨hf_Kind_hint, hi_Kind_hint, k_Kind_hint⟩,
    me_Kind_text := ⟨hf_Kind_text, hi_Kind_text, k_Kind_text⟩,
    me_Kind___contains__ := ⟨hf_Kind___contains__, hi_Kind___contains__, k_Kind___contains__⟩,
    me_Kind___eq__ := ⟨hf_Kind___eq__, hi_Kind___eq__, k_Kind___eq__⟩,
    me_Kind___repr__ := ⟨hf_Kind___repr__, hi_Kind___repr__, k_Kind___repr__⟩,
    ne_Kind := ⟨he_Kind, hb_Kind⟩,
    m_AnyWord := ⟨hm_AnyWord, h0_AnyWord, hk_AnyWord, PySem.W.mg_of X G hn_AnyWord⟩,
    me_AnyWord_fits := ⟨hf_AnyWord_fits, hi_AnyWord_fits, k_AnyWord_fits⟩,
    me_AnyWord_words := ⟨hf_AnyWord_words, hi_Kind_words, k_Kind_words⟩,
    me_AnyWord_hint := ⟨hf_AnyWord_hint, hi_AnyWord_hint, k_AnyWord_hint⟩,
    me_AnyWord_text := ⟨hf_AnyWord_text, hi_AnyWord_text, k_AnyWord_text⟩,
    me_AnyWord___contains__ := ⟨hf_AnyWord___contains__, hi_Kind___contains__, k_Kind___contains__⟩,
    me_AnyWord___eq__ := ⟨hf_AnyWord___eq__, hi_Kind___eq__, k_Kind___eq__⟩,
    me_AnyWord___repr__ := ⟨hf_AnyWord___repr__, hi_Kind___repr__, k_Kind___repr__⟩,
    ne_AnyWord := ⟨he_AnyWord, hb_AnyWord⟩,
    mk_OneOf := ⟨hm_OneOf, hf_OneOf___init__, hi_OneOf___init__, hk_OneOf⟩,
    me_OneOf_fits := ⟨hf_OneOf_fits, hi_OneOf_fits, k_OneOf_fits⟩,
    me_OneOf_words := ⟨hf_OneOf_words, hi_OneOf_words, k_OneOf_words⟩,
    me_OneOf_hint := ⟨hf_OneOf_hint, hi_Kind_hint, k_Kind_hint⟩,
    me_OneOf_text := ⟨hf_OneOf_text, hi_OneOf_text, k_OneOf_text⟩,
    me_OneOf___contains__ := ⟨hf_OneOf___contains__, hi_Kind___contains__, k_Kind___contains__⟩,
    me_OneOf___eq__ := ⟨hf_OneOf___eq__, hi_Kind___eq__, k_Kind___eq__⟩,
    me_OneOf___repr__ := ⟨hf_OneOf___repr__, hi_Kind___repr__, k_Kind___repr__⟩,
    ne_OneOf := ⟨he_OneOf, hb_OneOf⟩,
    na_OneOf_own_words := hx_OneOf_own_words,
    mk_Number := ⟨hm_Number, hf_Number___init__, hi_Number___init__, hk_Number⟩,
    me_Number_fits := ⟨hf_Number_fits, hi_Number_fits, k_Number_fits⟩,
    me_Number_words := ⟨hf_Number_words, hi_Kind_words, k_Kind_words⟩,
    me_Number_hint := ⟨hf_Number_hint, hi_Number_hint, k_Number_hint⟩,
    me_Number_text := ⟨hf_Number_text, hi_Number_text, k_Number_text⟩,
    me_Number___contains__ := ⟨hf_Number___contains__, hi_Kind___contains__, k_Kind___contains__⟩,
    me_Number___eq__ := ⟨hf_Number___eq__, hi_Kind___eq__, k_Kind___eq__⟩,
    me_Number___repr__ := ⟨hf_Number___repr__, hi_Kind___repr__, k_Kind___repr__⟩,
    ne_Number := ⟨he_Number, hb_Number⟩,
    na_Number_low := hx_Number_low,
    na_Number_high := hx_Number_high,
    cv_Number_MOST := ⟨_, _, ⟨hr_Number_MOST, hg_Number_MOST⟩, ⟨hv_Number_MOST, ⟨_, rfl⟩⟩⟩,
    isa_NoneType_Kind := kit_own ic_Kind it_Kind is_Kind ib_NoneType_Kind,
    isa_bool_Kind := kit_own ic_Kind it_Kind is_Kind ib_bool_Kind,
    isa_int_Kind := kit_own ic_Kind it_Kind is_Kind ib_int_Kind,
    isa_str_Kind := kit_own ic_Kind it_Kind is_Kind ib_str_Kind,
    isa_list_Kind := kit_own ic_Kind it_Kind is_Kind ib_list_Kind,
    isa_tuple_Kind := kit_own ic_Kind it_Kind is_Kind ib_tuple_Kind,
    isa_dict_Kind := kit_own ic_Kind it_Kind is_Kind ib_dict_Kind,
    isa_Kind_Kind := kit_own ic_Kind it_Kind is_Kind io_Kind_Kind,
    isa_AnyWord_Kind := kit_own ic_Kind it_Kind is_Kind io_AnyWord_Kind,
    isa_OneOf_Kind := kit_own ic_Kind it_Kind is_Kind io_OneOf_Kind,
    isa_Number_Kind := kit_own ic_Kind it_Kind is_Kind io_Number_Kind,
    nf_Kind_NoneType := nb_Kind_NoneType,
    nf_Kind_bool := nb_Kind_bool,
    nf_Kind_int := nb_Kind_int,
    nf_Kind_str := nb_Kind_str,
    nf_Kind_list := nb_Kind_list,
    nf_Kind_tuple := nb_Kind_tuple,
    nf_Kind_dict := nb_Kind_dict,
    nf_Kind_Kind := no_Kind_Kind,
    nf_AnyWord_NoneType := nb_AnyWord_NoneType,
    nf_AnyWord_bool := nb_AnyWord_bool,
    nf_AnyWord_int := nb_AnyWord_int,
    nf_AnyWord_str := nb_AnyWord_str,
    nf_AnyWord_list := nb_AnyWord_list,
    nf_AnyWord_tuple := nb_AnyWord_tuple,
    nf_AnyWord_dict := nb_AnyWord_dict,
    nf_AnyWord_Kind := no_AnyWord_Kind,
    nf_AnyWord_AnyWord := no_AnyWord_AnyWord,
    nf_AnyWord_OneOf := no_AnyWord_OneOf,
    nf_AnyWord_Number := no_AnyWord_Number,
    nf_OneOf_NoneType := nb_OneOf_NoneType,
    nf_OneOf_bool := nb_OneOf_bool,
    nf_OneOf_int := nb_OneOf_int,
    nf_OneOf_str := nb_OneOf_str,
    nf_OneOf_list := nb_OneOf_list,
    nf_OneOf_tuple := nb_OneOf_tuple,
    nf_OneOf_dict := nb_OneOf_dict,
    nf_OneOf_Kind := no_OneOf_Kind,
    nf_OneOf_AnyWord := no_OneOf_AnyWord,
    nf_OneOf_OneOf := no_OneOf_OneOf,
    nf_OneOf_Number := no_OneOf_Number,
    nf_Number_NoneType := nb_Number_NoneType,
    nf_Number_bool := nb_Number_bool,
    nf_Number_int := nb_Number_int,
    nf_Number_str := nb_Number_str,
    nf_Number_list := nb_Number_list,
    nf_Number_tuple := nb_Number_tuple,
    nf_Number_dict := nb_Number_dict,
    nf_Number_Kind := no_Number_Kind,
    nf_Number_AnyWord := no_Number_AnyWord,
    nf_Number_OneOf := no_Number_OneOf,
    nf_Number_Number := no_Number_Number,
    d_is_number := df_mk X G hn_is_number l_is_number c_is_number k_is_number,
    d_is_between := df_mk X G hn_is_between l_is_between c_is_between k_is_between,
    d_is_word := df_mk X G hn_is_word l_is_word c_is_word k_is_word,
    d_is_plain := df_mk X G hn_is_plain l_is_plain c_is_plain k_is_plain,
    d_is_number_word := df_mk X G hn_is_number_word l_is_number_word c_is_number_word k_is_number_word,
    d__law_feed := df_mk X G hn__law_feed l__law_feed c__law_feed k__law_feed,
    d__law_take := df_mk X G hn__law_take l__law_take c__law_take k__law_take,
    d__law_of := df_mk X G hn__law_of l__law_of c__law_of k__law_of,
    d__law_mixed := df_mk X G hn__law_mixed l__law_mixed c__law_mixed k__law_mixed,
    d__law_same := df_mk X G hn__law_same l__law_same c__law_same k__law_same,
    d__law_plain_words := df_mk X G hn__law_plain_words l__law_plain_words c__law_plain_words k__law_plain_words,
    d__law_kind := df_mk X G hn__law_kind l__law_kind c__law_kind k__law_kind,
    d__law_ready_kind := df_mk X G hn__law_ready_kind l__law_ready_kind c__law_ready_kind k__law_ready_kind,
    d__law_fits := df_mk X G hn__law_fits l__law_fits c__law_fits k__law_fits,
    d__law_is_num := df_mk X G hn__law_is_num l__law_is_num c__law_is_num k__law_is_num,
    d_law := df_mk X G hn_law l_law c_law k_law,
    T := ⟨PySem.W.mg_none_of X G z0, PySem.W.mg_none_of X G z1, PySem.W.mg_none_of X G z2, PySem.W.mg_none_of X G z3, PySem.W.mg_none_of X G z4, PySem.W.mg_none_of X G z5, PySem.W.mg_none_of X G z6, PySem.W.mg_none_of X G z7, PySem.W.mg_none_of X G z8, PySem.W.mg_none_of X G z9, PySem.W.mg_none_of X G z10, PySem.W.mg_none_of X G z11, PySem.W.mg_none_of X G z12, PySem.W.mg_none_of X G z13, PySem.W.mg_none_of X G z14, PySem.W.mg_none_of X G z15, PySem.W.mg_none_of X G z16, PySem.W.mg_none_of X G z17, PySem.W.mg_none_of X G z18, PySem.W.mg_none_of X G z19⟩,
    GC := ⟨⟨_, PySem.W.mg_of X G cst0, ⟨_, rfl⟩⟩, ⟨_, PySem.W.mg_of X G cst1, ⟨_, rfl⟩⟩, ⟨_, PySem.W.mg_of X G cst2, ⟨_, rfl⟩⟩, ⟨_, PySem.W.mg_of X G cst3, ⟨_, rfl⟩⟩⟩ }⟩
section
variable {P : Program} {w : World} {K : PySem.W.Frag} {mg : Str → Option Value} {base : Heap}
theorem sc_is_word : FnScope ["value", "sign"] ["value"] (defScope s_is_word) := ⟨rfl, rfl, rfl, by decide +kernel, rfl, by decide +kernel, by decide +kernel⟩
theorem o_is_word (D : Df K mg "is_word" s_is_word) (T : Txt mg) (GC : Gct mg) : Okd P w K mg base CX0 1 "is_word" s_is_word ["value"] (spPred K wordD) := by
  refine ok_mk D sc_is_word (fun vs H Q E h => ?_) (fun f cdv A outer s H vs Q E hr h => ?_)
  · obtain ⟨v, d, n, rfl, _⟩ := h; rfl
  · obtain ⟨v, d, n, rfl, hv, hd, k⟩ := h
    refine ⟨_, (pss_cons (ps_if (PW.pt (pw_or (pt_not (pt_val (pe_callB call_isi (by rfl) T.b_isinstance (by decide +kernel) (pa_cons (pv 0) (pa_cons (pe_bltn (v := .ty "str") (by rfl) T.b_str (by decide +kernel) rfl) pa_nil))))) (pw_or1 (pt_not (pt_chain op_le op_le pe_int (pe_callB call_len_str (by rfl) T.b_len (by decide +kernel) (pa_cons (pv 0) pa_nil)) (C8.pe_gc (by rfl) GC.g_MOST_SIGNS)))))) (pss_one (ps_ret pe_bl)) pss_nil)
  (pss_one (ps_ret (pe_callB (cr_all rfl) (by rfl) T.b_all (by decide +kernel) (pa_cons (pe_lc (own := [("sign", 1)]) (g := gName 1) (tt := tYes) (by rfl) sc_is_word.nd (pi_str (pv 0)) (blkOk_by (N := ["value", "sign"]) (sc := defScope s_is_word) (by decide +kernel)) (fun _ _ _ _ _ => (pg_name (i := 1) sc_is_word.nd rfl (Or.inl rfl))) (fun _ _ _ _ _ => pts_nil) (fun _ _ _ _ _ => (pe_cmpR op_in_sign (pv 1) (C8.pe_gc (by rfl) GC.g_SIGNS) (by rfl)))) pa_nil))))), ?_⟩
    refine ⟨_, rfl, ?_⟩
    refine ⟨_, _, _, _, _, rfl, .ty _, hv.tyT, kit_ty (kit_str d), ?_⟩
    refine ⟨_, rfl, ?_⟩
    cases hs : isStr d with
    | false =>
      have e : wordD d = false := by cases d <;> first | rfl | cases hs
      rw [e] at k
      exact iteT (iteT (k _ (Same.refl _)))
    | true =>
      obtain ⟨z, rfl⟩ := str_of hs
      cases hv
      have hz := dok_str hd
      have kk : ∀ b H', wordS z = b → Same H H' → Q (.bl b) H' := fun b H' e S => e ▸ k _ S
      refine iteF ?_
      refine ⟨_, rfl, _, rfl, Nat.le_trans hz (by decide), _, _, rfl, rfl, _, rfl, ?_⟩
      cases h1 : decide ((1 : Int) ≤ ((z.length : Nat) : Int)) with
      | false => exact iteF ⟨_, rfl, iteT (kk _ _ (by unfold wordS; rw [h1]; rfl) (Same.refl _))⟩
      | true =>
        refine iteT ⟨_, _, rfl, rfl, _, rfl, ?_⟩
        cases h2 : decide (((z.length : Nat) : Int) ≤ 8) with
        | false => exact iteT (kk _ _ (by unfold wordS; rw [h1, h2]; rfl) (Same.refl _))
        | true =>
          refine iteF ⟨_, rfl, _, rfl, ?_⟩
          intro D hD
          refine lc_allIn _ hD hz (fun _ => rfl) (fun c H Q q => ⟨_, rfl, _, _, rfl, rfl, q⟩) (fun H' S hl => ?_)
          refine ⟨D, _, rfl, SqL.of hl, ?_⟩
          rw [all_id]
          exact kk _ _ (by unfold wordS; rw [h1, h2]; rfl) S
theorem sc_is_plain : FnScope ["value"] ["value"] (defScope s_is_plain) := ⟨rfl, rfl, rfl, by decide +kernel, rfl, by decide +kernel, by decide +kernel⟩
theorem o_is_plain (D : Df K mg "is_plain" s_is_plain) (T : Txt mg) (c_is_word : Cl P w K mg base CX0 1 "is_word" (spPred K wordD) []) : Okd P w K mg base CX0 2 "is_plain" s_is_plain ["value"] (spPred K plainD) := by
  refine ok_mk D sc_is_plain (fun vs H Q E h => ?_) (fun f cdv A outer s H vs Q E hr h => ?_)
  · obtain ⟨v, d, n, rfl, _⟩ := h; rfl
  · obtain ⟨v, d, n, rfl, hv, hd, k⟩ := h
    refine ⟨_, (pss_one (ps_ret (pe_and (pe_c c_is_word hr (by decide) (by rfl) (pa_cons (pv 0) pa_nil)) (pe_one (pe_cmpR op_ne (pe_ix ix_str (pv 0) pe_int (fun _ _ => rfl)) pe_str (nomark _)))))), ?_⟩
    refine ⟨_, rfl, v, d, n, rfl, hv, hd, fun H1 S1 => ⟨_, rfl, ?_⟩⟩
    cases hw : wordD d with
    | false =>
      refine iteF ?_
      have e : plainD d = false := by
        cases d <;> first | rfl | exact (by show (wordS _ && _) = false; rw [show wordS _ = false from hw]; rfl)
      rw [e] at k
      exact k _ S1
    | true =>
      obtain ⟨z, rfl⟩ : ∃ z, d = .str z := by cases d <;> first | exact ⟨_, rfl⟩ | cases hw
      cases hv
      obtain ⟨c, hc1, hc2⟩ := head_at (wordS_pos hw)
      refine iteT ⟨_, rfl, _, _, _, rfl, rfl, Nat.le_trans (dok_str hd) (by decide), hc1, rfl, ?_⟩
      have kk : ∀ b, plainS z = b → Q (.bl b) H1 := fun b e => e ▸ k _ S1
      refine kk _ ?_
      unfold plainS
      rw [show wordS z = true from hw, hc2, dstr]
      rfl
theorem sc_is_number_word : FnScope ["value", "sign"] ["value"] (defScope s_is_number_word) := ⟨rfl, rfl, rfl, by decide +kernel, rfl, by decide +kernel, by decide +kernel⟩
theorem o_is_number_word (D : Df K mg "is_number_word" s_is_number_word) (T : Txt mg) (GC : Gct mg) (c_is_word : Cl P w K mg base CX0 1 "is_word" (spPred K wordD) []) : Okd P w K mg base CX0 2 "is_number_word" s_is_number_word ["value"] (spPred K numD) := by
  refine ok_mk D sc_is_number_word (fun vs H Q E h => ?_) (fun f cdv A outer s H vs Q E hr h => ?_)
  · obtain ⟨v, d, n, rfl, _⟩ := h; rfl
  · obtain ⟨v, d, n, rfl, hv, hd, k⟩ := h
    refine ⟨_, (pss_one (ps_ret (pe_and (pe_c c_is_word hr (by decide) (by rfl) (pa_cons (pv 0) pa_nil)) (pe_and (pe_callB (cr_all rfl) (by rfl) T.b_all (by decide +kernel) (pa_cons (pe_lc (own := [("sign", 1)]) (g := gName 1) (tt := tYes) (by rfl) sc_is_number_word.nd (pi_str (pv 0)) (blkOk_by (N := ["value", "sign"]) (sc := defScope s_is_number_word) (by decide +kernel)) (fun _ _ _ _ _ => (pg_name (i := 1) sc_is_number_word.nd rfl (Or.inl rfl))) (fun _ _ _ _ _ => pts_nil) (fun _ _ _ _ _ => (pe_cmpR op_in_sign (pv 1) (C8.pe_gc (by rfl) GC.g_FIGURES) (by rfl)))) pa_nil)) (pe_one (pe_or (pe_cmpR op_eq (pv 0) pe_str (nomark _)) (pe_one (pe_cmpR op_ne (pe_ix ix_str (pv 0) pe_int (fun _ _ => rfl)) pe_str (nomark _))))))))), ?_⟩
    refine ⟨_, rfl, v, d, n, rfl, hv, hd, fun H1 S1 => ⟨_, rfl, ?_⟩⟩
    cases hw : wordD d with
    | false =>
      refine iteF ?_
      have e : numD d = false := by
        cases d <;> first | rfl | exact (by show (wordS _ && _) = false; rw [show wordS _ = false from hw]; rfl)
      rw [e] at k
      exact k _ S1
    | true =>
      obtain ⟨z, rfl⟩ : ∃ z, d = .str z := by cases d <;> first | exact ⟨_, rfl⟩ | cases hw
      cases hv
      have hz := dok_str hd
      have hw' : wordS z = true := hw
      have kk : ∀ b H', numS z = b → Same H H' → Q (.bl b) H' := fun b H' e S => e ▸ k _ S
      refine iteT ⟨_, rfl, _, rfl, ?_⟩
      intro D hD
      refine lc_allIn _ hD hz (fun _ => rfl) (fun c H Q q => ⟨_, rfl, _, _, rfl, rfl, q⟩) (fun H2 S2 hl => ?_)
      refine ⟨D, _, rfl, SqL.of hl, ?_⟩
      rw [all_id]
      refine ⟨_, rfl, ?_⟩
      have S12 := S1.trans S2
      cases h1 : allIn z "0123456789" with
      | false => exact iteF (kk _ _ (by unfold numS; rw [hw', show allIn z fig_ = false from h1]; rfl) S12)
      | true =>
        refine iteT ⟨_, rfl, rfl, _, rfl, ?_⟩
        cases h2 : decide (V.str z = V.str "0") with
        | true => exact iteT (kk _ _ (by unfold numS; rw [hw', show allIn z fig_ = true from h1, ← dstr, h2]; rfl) S12)
        | false =>
          obtain ⟨c, hc1, hc2⟩ := head_at (wordS_pos hw)
          refine iteF ⟨_, rfl, _, _, _, rfl, rfl, Nat.le_trans hz (by decide), hc1, rfl, ?_⟩
          refine kk _ _ ?_ S12
          unfold numS
          rw [hw', show allIn z fig_ = true from h1, ← dstr, h2, hc2, dstr]
          rfl
end
/-! ### the law's drawing -/
section
variable {P : Program} {w : World} {K : PySem.W.Frag} {mg : Str → Option Value} {base : Heap}
theorem sc__law_feed : FnScope ["_law_script"] ["_law_script"] (defScope s__law_feed) := ⟨rfl, rfl, rfl, by decide +kernel, rfl, by decide +kernel, by decide +kernel⟩
theorem c__law_feed_ok (D : Df K mg "_law_feed" s__law_feed) (T : Txt mg) : Cl P w K mg base CX0 1 "_law_feed" (spFeed K) [] := by
  refine cal_mk D sc__law_feed (fun _ _ _ _ _ _ us hl => match us, hl with | [_], _ => rfl) (fun vs H Q E h => ?_) (fun f cdv A outer s H vs Q E hr h => ?_)
  · obtain ⟨a, ns, rfl, _⟩ := h; rfl
  · obtain ⟨a, ns, rfl, hS, hn, k⟩ := h
    refine ⟨_, (pss_one (ps_ret (pe_lst (pa_cons (pe_callTy call_list_of (by rfl) T.b_list (by decide +kernel) (pa_cons (pe_slice sl_list (pv 0) po_none (po_some pe_int)) pa_nil)) (pa_cons pe_int (pa_cons pe_int (pa_cons (pe_op op_add pe_int (pe_op op_mul pe_int (pe_callB call_len_seq (by rfl) T.b_len (by decide +kernel) (pa_cons (pv 0) pa_nil)))) pa_nil))))))), ?_⟩
    refine ⟨_, rfl, 60, rfl, a, _, rfl, hS, fun p1 h1 => ?_⟩
    refine ⟨p1, _, rfl, .inl (SqL.of upd_same), fun p2 h2 => ?_⟩
    have e1 : Same H (upd H p1 (.lst (cutV (ns.map V.int) none (some 60)))) := Same.newT h1
    have e2 := e1.trans (Same.newT (o := .lst (cutV (ns.map V.int) none (some 60))) h2)
    refine ⟨_, rfl, a, _, rfl, .inl (Same.seq e2 hS), _, _, rfl, rfl, .inl (by decide), ?_⟩
    refine ⟨_, _, rfl, rfl, ?_⟩
    refine ⟨by show 4 ≤ sizeLine; decide, fun p3 h3 => ?_⟩
    have hc : cutV (ns.map V.int) none (some 60) = (ns.take (HT.sIx ns.length ns.length (some 60))).map V.int := by
      unfold cutV
      rw [List.length_map]
      show List.take (_ - 0) (List.drop 0 _) = _
      rw [Nat.sub_zero, List.drop_zero, List.map_take]
    refine k _ p2 _ (e2.trans (Same.newT h3)) ⟨ns.take (HT.sIx ns.length ns.length (some 60)), 0, 0, _, upd_same, ?_, ?_, by omega, by omega, ?_, ?_, ?_⟩ ?_ ?_
    · rw [upd_ne (ne_of_none upd_same h3), upd_same, hc]
    · exact ne_of_none upd_same h3
    · rw [List.length_map]; omega
    · rw [List.length_map]; omega
    · rw [List.length_take]; omega
    · exact e2.free h3
    · exact e1.free h2
theorem sc__law_take : FnScope ["_law_feed_here", "_law_many", "_law_cell", "_law_got", "_law_seed"] ["_law_feed_here", "_law_many"] (defScope s__law_take) := ⟨rfl, rfl, rfl, by decide +kernel, rfl, by decide +kernel, by decide +kernel⟩
theorem c__law_take_ok (D : Df K mg "_law_take" s__law_take) (T : Txt mg) : Cl P w K mg base CX0 1 "_law_take" spTake [] := by
  refine cal_mk D sc__law_take (fun _ _ _ _ _ _ us hl => match us, hl with | [_, _], _ => rfl) (fun vs H Q E h => ?_) (fun f cdv A outer s H vs Q E hr h => ?_)
  · obtain ⟨a, l, m, rfl, _⟩ := h; rfl
  · obtain ⟨p, l, m, rfl, hF, m0, m1, k⟩ := h
    refine ⟨_, (Evl.pss_cut (ps_if (PW.pt (pw_and (pt_cmpR op_eq (pe_ix ix_list (pv 0) pe_int (fun _ _ => rfl)) pe_int (nomark _)) (pw_and1 (pt_cmpR op_lt (pe_ix ix_list (pv 0) pe_int (fun _ _ => rfl)) (pe_callB call_len (by rfl) T.b_len (by decide +kernel) (pa_cons (pe_ix ix_list (pv 0) pe_int (fun _ _ => rfl)) pa_nil)) (nomark _))))) (pss_cons (ps_set (i := 2) sc__law_take.nd rfl (by first | exact Or.inl rfl | exact Or.inr rfl) (pe_ix ix_seq (pe_ix ix_list (pv 0) pe_int (fun _ _ => rfl)) (pe_ix ix_list (pv 0) pe_int (fun _ _ => rfl)) (fun _ _ => rfl)))
  (pss_cons (ps_asg (pe_op op_add (pe_ix ix_list (pv 0) pe_int (fun _ _ => rfl)) pe_int) (pg_sub (pv 0) pe_int set_list))
  (pss_one (ps_if (pt_cmpR op_ge (pv 2) (pe_op op_pow pe_int pe_int) (nomark _)) (pss_one (ps_asg (pv 2) (pg_sub (pv 0) pe_int set_list))) (pss_one (ps_asg (pe_op op_modN (pe_callTy call_int1 (by rfl) T.b_int (by decide +kernel) (pa_cons (pe_op op_add (pe_op op_add (pe_op op_mul (pe_ix ix_list (pv 0) pe_int (fun _ _ => rfl)) pe_int) (pe_op op_mul (pe_op op_modN (pe_callTy call_int1 (by rfl) T.b_int (by decide +kernel) (pa_cons (pv 2) pa_nil)) pe_int) pe_int)) pe_int) pa_nil)) pe_int) (pg_sub (pv 0) pe_int set_list))))))) pss_nil)
  (pss_cons (ps_if (pt_cmpR op_gt (pe_ix ix_list (pv 0) pe_int (fun _ _ => rfl)) pe_int (nomark _)) (pss_cons (ps_set (i := 3) sc__law_take.nd rfl (by first | exact Or.inl rfl | exact Or.inr rfl) (pe_op op_modN (pe_callTy call_int1 (by rfl) T.b_int (by decide +kernel) (pa_cons (pe_ix ix_list (pv 0) pe_int (fun _ _ => rfl)) pa_nil)) (pv 1)))
  (pss_cons (ps_asg (pe_op op_fdivN (pe_ix ix_list (pv 0) pe_int (fun _ _ => rfl)) (pv 1)) (pg_sub (pv 0) pe_int set_list))
  (pss_one (ps_ret (pv 3))))) pss_nil)
  (pss_cons (ps_set (i := 4) sc__law_take.nd rfl (by first | exact Or.inl rfl | exact Or.inr rfl) (pe_ix ix_list (pv 0) pe_int (fun _ _ => rfl)))
  (pss_cons (ps_asg (pe_op op_modN (pe_callTy call_int1 (by rfl) T.b_int (by decide +kernel) (pa_cons (pe_op op_add (pe_op op_add (pe_op op_mul (pv 4) (pv 4)) (pe_op op_mul (pv 4) pe_int)) pe_int) pa_nil)) pe_int) (pg_sub (pv 0) pe_int set_list))
  (pss_one (ps_ret (pe_op op_modN (pe_callTy call_int1 (by rfl) T.b_int (by decide +kernel) (pa_cons (pe_op op_add (pe_op op_fdivN (pe_ix ix_list (pv 0) pe_int (fun _ _ => rfl)) pe_int) (pe_op op_mul (pe_op op_modN (pe_callTy call_int1 (by rfl) T.b_int (by decide +kernel) (pa_cons (pe_ix ix_list (pv 0) pe_int (fun _ _ => rfl)) pa_nil)) pe_int) pe_int)) pa_nil)) (pv 1)))))))), ?_⟩
    obtain ⟨ns, i, c, s, hp, hl, hlp, hi, hc, hs, hs2, hn⟩ := id hF
    refine ⟨fun σ' H' => (∃ x, σ' = [some (.ref p), some (.int m), x, none, none]) ∧ Mv p l H H', ?_, ?_⟩
    · have skip : ∀ x, (∃ y, [some (V.ref p), some (V.int m), x, none, none] = [some (V.ref p), some (V.int m), y, none, none]) ∧ Mv p l H H := fun x => ⟨⟨x, rfl⟩, Mv.refl hF⟩
      refine ⟨_, rfl, _, _, _, _, rfl, rfl, SqL.of hp, rfl, rfl, _, rfl, ?_⟩
      refine ite2 (fun hc0 => ?_) (fun _ => iteF (skip none))
      refine ⟨_, rfl, _, _, _, _, rfl, rfl, SqL.of hp, rfl, ⟨_, rfl, _, _, _, _, rfl, rfl, SqL.of hp, rfl, .ref l, _, rfl, .inl ⟨_, SqL.of hl, rfl⟩, ?_⟩⟩
      refine ⟨_, _, rfl, rfl, _, rfl, ?_⟩
      refine ite2 (fun hlt => ?_) (fun _ => skip none)
      have hlt2 : i < ((ns.map V.int).length : Int) := of_decide_eq_true hlt
      rw [List.length_map] at hlt2
      obtain ⟨z, hz⟩ : ∃ z, ns[i.toNat]? = some z := ⟨ns[i.toNat]'(by omega), List.getElem?_eq_getElem (by omega)⟩
      have hat : atI (ns.map V.int) i = some (.int z) := by
        have e : i = (i.toNat : Int) := by omega
        rw [e]
        exact atI_nat (by rw [List.getElem?_map, hz]; rfl)
      refine ⟨_, rfl, _, _, _, _, rfl, rfl, SqL.of hp, rfl, _, rfl, _, _, _, _, rfl, rfl, SqL.of hp, rfl, .inl ⟨l, _, _, _, rfl, rfl, SqL.of hl, hat, ?_⟩⟩
      -- feed[1] = feed[1] + 1
      refine ⟨_, rfl, _, _, _, _, rfl, rfl, SqL.of hp, rfl, _, _, rfl, rfl, _, rfl, p, _, 1, 1, rfl, rfl, hp, rfl, ?_⟩
      have hm1 : Mv p l H (upd H p (.lst [.ref l, .int (i + 1), .int c, .int s])) := Mv.put hl hlp (by omega) hc hs hs2 hn
      refine ⟨_, rfl, _, _, rfl, rfl, ⟨by decide, by decide, by decide⟩, _, _, rfl, rfl, _, rfl, ?_⟩
      refine ite2 (fun hz1 => ?_) (fun _ => ?_)
      · have hz2 : (10 : Int) ^ 18 ≤ z := of_decide_eq_true hz1
        refine ⟨_, rfl, _, rfl, p, _, 2, 2, rfl, rfl, upd_same, rfl, ⟨_, rfl⟩, ?_⟩
        have hz3 : (0 : Int) ≤ z := Int.le_trans (by decide) hz2
        rw [upd_upd]
        exact Mv.put hl hlp (by omega) hz3 hs hs2 hn
      · refine ⟨_, rfl, _, _, _, _, rfl, rfl, SqL.of upd_same, rfl, _, _, rfl, rfl, .inl ⟨by omega, by omega⟩, ?_⟩
        refine ⟨_, rfl, .inl ⟨_, rfl, ?_⟩⟩
        refine ⟨_, _, rfl, rfl, (show (2147483399 : Int) ≠ 0 by decide), _, _, rfl, rfl, .inr ⟨by decide, by decide⟩, _, _, rfl, rfl, _, _, rfl, rfl, .inl ⟨_, rfl, ?_⟩⟩
        refine ⟨_, _, rfl, rfl, (show (2147483647 : Int) ≠ 0 by decide), _, rfl, p, _, 3, 3, rfl, rfl, upd_same, rfl, ⟨_, rfl⟩, ?_⟩
        rw [upd_upd]
        exact Mv.put hl hlp (by omega) hc (mod_lt (by decide)).1 (mod_lt (by decide)).2 hn
    · rintro σ' H' ⟨⟨x, rfl⟩, hm⟩
      obtain ⟨ns, i, c, s, hp, hl, hlp, hi, hc, hs, hs2, hn⟩ := id hm.2
      refine ⟨_, rfl, _, _, _, _, rfl, rfl, SqL.of hp, rfl, _, _, rfl, rfl, _, rfl, ?_⟩
      refine ite2 (fun hc1 => ?_) (fun _ => ?_)
      · have hc2 : (0 : Int) < c := of_decide_eq_true hc1
        refine ⟨_, rfl, _, _, _, _, rfl, rfl, SqL.of hp, rfl, .inl ⟨_, rfl, _, rfl, _, _, rfl, rfl, by omega, ?_⟩⟩
        refine ⟨_, rfl, _, _, _, _, rfl, rfl, SqL.of hp, rfl, _, rfl, _, _, rfl, rfl, ⟨by omega, by omega⟩, _, rfl, p, _, 2, 2, rfl, rfl, hp, rfl, ?_⟩
        refine ⟨_, rfl, ?_⟩
        refine k _ _ (mod_lt m0).1 (mod_lt m0).2 (hm.trans (Mv.put hl hlp hi ?_ hs hs2 hn))
        exact Int.fdiv_nonneg hc (by omega)
      · refine ⟨_, rfl, _, _, _, _, rfl, rfl, SqL.of hp, rfl, ?_⟩
        refine ⟨_, rfl, _, rfl, _, _, rfl, rfl, .inl ⟨by omega, by omega⟩, _, rfl, _, _, rfl, rfl, .inl ⟨by omega, by omega⟩, _, _, rfl, rfl, _, _, rfl, rfl, .inl ⟨_, rfl, ?_⟩⟩
        refine ⟨_, _, rfl, rfl, (show (2147483647 : Int) ≠ 0 by decide), _, rfl, p, _, 3, 3, rfl, rfl, hp, rfl, ?_⟩
        have hm2 := hm.trans (Mv.put hl hlp hi hc (mod_lt (a := s * s + s * 16807 + 1299709) (b := 2147483647) (by decide)).1 (mod_lt (by decide)).2 hn)
        refine ⟨_, rfl, _, _, _, _, rfl, rfl, SqL.of upd_same, rfl, _, _, rfl, rfl, ⟨by decide, by decide⟩, ?_⟩
        refine ⟨_, rfl, _, _, _, _, rfl, rfl, SqL.of upd_same, rfl, .inl ⟨_, rfl, _, _, rfl, rfl, (show (6469 : Int) ≠ 0 by decide), _, _, rfl, rfl, .inr ⟨by decide, by decide⟩, _, _, rfl, rfl, .inl ⟨_, rfl, _, rfl, _, _, rfl, rfl, by omega, ?_⟩⟩⟩
        exact k _ _ (mod_lt m0).1 (mod_lt m0).2 hm2
theorem sc__law_of : FnScope ["_law_feed_here", "_law_some"] ["_law_feed_here", "_law_some"] (defScope s__law_of) := ⟨rfl, rfl, rfl, by decide +kernel, rfl, by decide +kernel, by decide +kernel⟩
theorem c__law_of_ok (D : Df K mg "_law_of" s__law_of) (T : Txt mg) (c__law_take : Cl P w K mg base CX0 1 "_law_take" spTake []) : Cl P w K mg base CX0 2 "_law_of" (spOf K) [] := by
  refine cal_mk D sc__law_of (fun _ _ _ _ _ _ us hl => match us, hl with | [_, _], _ => rfl) (fun vs H Q E h => ?_) (fun f cdv A outer s H vs Q E hr h => ?_)
  · obtain ⟨a, l, m, rfl, _⟩ := h; rfl
  · obtain ⟨p, l, v, rfl, hF, h⟩ := h
    refine ⟨_, (pss_one (ps_ret (pe_ix ix_seq (pv 1) (pe_c c__law_take hr (by decide) (by rfl) (pa_cons (pv 0) (pa_cons (pe_callB call_len (by rfl) T.b_len (by decide +kernel) (pa_cons (pv 1) pa_nil)) pa_nil))) (fun _ _ => rfl)))), ?_⟩
    rcases h with ⟨a, xs, rfl, hS, h0, h1, k⟩ | ⟨z, rfl, h0, h1, k⟩
    · have hl : xs.length ≤ sizeLine := Nat.le_trans (Nat.le_of_lt h1) (by decide)
      have hS' : SqL K H a xs ∨ SqT K H a xs := hS.elim (fun h => .inl (Same.seq (off_same H [p]) h)) (fun h => .inr (Same.seqTT (off_same H [p]) h))
      refine ⟨_, rfl, _, rfl, _, rfl, .ref a, xs.length, rfl, ?_, ?_⟩
      · exact hS'.elim (fun h => .inl ⟨_, h, rfl⟩) (fun h => .inr ⟨_, h, rfl⟩)
      · refine ⟨p, l, _, rfl, hF, by omega, by omega, fun r H' r0 r1 hm => ?_⟩
        obtain ⟨x, hx⟩ : ∃ x, xs[r.toNat]? = some x := ⟨xs[r.toNat]'(by omega), List.getElem?_eq_getElem (by omega)⟩
        have hat : atI xs r = some x := by
          have e : r = (r.toNat : Int) := by omega
          rw [e]
          exact atI_nat hx
        have kk := k x H' (List.mem_of_getElem? hx) hm
        rcases hS with h | h
        · exact .inl ⟨a, xs, r, x, rfl, rfl, Same.seq (off_same H' [p]) (Same.seq (hm.off (List.mem_singleton.mpr rfl)) h), hat, kk⟩
        · exact .inr (.inl ⟨a, xs, r, x, rfl, rfl, Same.seqTT (off_same H' [p]) (Same.seqTT (hm.off (List.mem_singleton.mpr rfl)) h), hat, kk⟩)
    · have hl : z.length ≤ sizeLine := Nat.le_trans (Nat.le_of_lt h1) (by decide)
      refine ⟨_, rfl, _, rfl, _, rfl, .str z, z.length, rfl, ⟨hl, rfl⟩, ?_⟩
      refine ⟨p, l, _, rfl, hF, by omega, by omega, fun r H' r0 r1 hm => ?_⟩
      have hz : z.cps.toList.length = z.length := by simp [Str.length]
      obtain ⟨x, hx⟩ : ∃ x, z.cps.toList[r.toNat]? = some x := ⟨z.cps.toList[r.toNat]'(by omega), List.getElem?_eq_getElem (by omega)⟩
      have hat : atI z.cps.toList r = some x := by
        have e : r = (r.toNat : Int) := by omega
        rw [e]
        exact atI_nat hx
      exact .inr (.inr ⟨z, r, x, rfl, rfl, hl, hat, k x H' (List.mem_of_getElem? hx) hm⟩)
theorem cal_false {x : Str} {st : Stmt} {ps : List Str} (D : Df K mg x st)
    (hb : ∀ (kV doc pm : Value) (an : Option Addr) (cdv ct : Value) (us : List Value), us.length = ps.length → bindArgs (PySem.W.fnOf x x (defArgs st) (defBody st) (defScope st) .none kV doc pm an cdv ct) ⟨us, []⟩ = pure (ps.zip us)) :
    Cl P w K mg base CX0 0 x (fun _ _ _ _ => False) [] := by
  obtain ⟨f, fd, F, hm⟩ := D.ex
  exact ⟨f, fd, ps, [], ⟨fun _ _ _ _ h => h.elim, fun _ _ _ _ _ _ _ _ _ _ _ _ _ h => h.elim⟩, hm, F.kp, F.binds hb, .nil⟩
theorem sc__law_same : FnScope ["_law_found", "_law_due", "_law_k"] ["_law_found", "_law_due"] (defScope s__law_same) := ⟨rfl, rfl, rfl, by decide +kernel, rfl, by decide +kernel, by decide +kernel⟩
theorem c__law_same_ok (D : Df K mg "_law_same" s__law_same) (T : Txt mg) : ∀ n, Cl P w K mg base CX0 n "_law_same" (spSame K n) [] := by
  intro n
  induction n with
  | zero => exact cal_false (ps := ["_law_found", "_law_due"]) D fun _ _ _ _ _ _ us hl => match us, hl with | [_, _], _ => rfl
  | succ n c__law_same =>
  refine cal_mk D sc__law_same (fun _ _ _ _ _ _ us hl => match us, hl with | [_, _], _ => rfl) (fun vs H Q E h => ?_) (fun f cdv A outer s H vs Q E hr h => ?_)
  · obtain ⟨a, b, d, rfl, _⟩ := h; rfl
  · obtain ⟨a, b, d, rfl, ha, hb, hd, k⟩ := h
    refine ⟨_, (pss_cons (ps_if (PW.pt (pw_or (pt_cmpR op_isN (pv 1) pe_non (nomark _)) (pw_or1 (pt_cmpR op_isN (pv 0) pe_non (nomark _))))) (pss_one (ps_ret (pe_and (pe_cmpR op_isN (pv 0) pe_non (nomark _)) (pe_one (pe_cmpR op_isN (pv 1) pe_non (nomark _)))))) pss_nil)
  (pss_cons (ps_if (pt_val (pe_callB call_isiT (by rfl) T.b_isinstance (by decide +kernel) (pa_cons (pv 1) (pa_cons (pe_tup (pa_cons (pe_bltn (v := .ty "list") (by rfl) T.b_list (by decide +kernel) rfl) (pa_cons (pe_bltn (v := .ty "tuple") (by rfl) T.b_tuple (by decide +kernel) rfl) pa_nil))) pa_nil)))) (pss_cons (ps_if (pt_cmpR op_ne (pe_callB call_isi (by rfl) T.b_isinstance (by decide +kernel) (pa_cons (pv 1) (pa_cons (pe_bltn (v := .ty "list") (by rfl) T.b_list (by decide +kernel) rfl) pa_nil))) (pe_callB call_isi (by rfl) T.b_isinstance (by decide +kernel) (pa_cons (pv 0) (pa_cons (pe_bltn (v := .ty "list") (by rfl) T.b_list (by decide +kernel) rfl) pa_nil))) (nomark _)) (pss_one (ps_ret pe_bl)) pss_nil)
  (pss_cons (ps_if (pt_cmpR op_ne (pe_callB call_isi (by rfl) T.b_isinstance (by decide +kernel) (pa_cons (pv 1) (pa_cons (pe_bltn (v := .ty "tuple") (by rfl) T.b_tuple (by decide +kernel) rfl) pa_nil))) (pe_callB call_isi (by rfl) T.b_isinstance (by decide +kernel) (pa_cons (pv 0) (pa_cons (pe_bltn (v := .ty "tuple") (by rfl) T.b_tuple (by decide +kernel) rfl) pa_nil))) (nomark _)) (pss_one (ps_ret pe_bl)) pss_nil)
  (pss_cons (ps_if (pt_cmpR op_ne (pe_callB call_len (by rfl) T.b_len (by decide +kernel) (pa_cons (pv 0) pa_nil)) (pe_callB call_len (by rfl) T.b_len (by decide +kernel) (pa_cons (pv 1) pa_nil)) (nomark _)) (pss_one (ps_ret pe_bl)) pss_nil)
  (pss_one (ps_ret (pe_callB (cr_all rfl) (by rfl) T.b_all (by decide +kernel) (pa_cons (pe_lc (own := [("_law_k", 2)]) (g := gName 2) (tt := tYes) (by rfl) sc__law_same.nd (pi_range1 (by rfl) T.b_range (pa_cons (pe_callB call_len (by rfl) T.b_len (by decide +kernel) (pa_cons (pv 1) pa_nil)) pa_nil)) (blkOk_by (N := ["_law_found", "_law_due", "_law_k"]) (sc := defScope s__law_same) (by decide +kernel)) (fun _ _ _ _ _ => (pg_name (i := 2) sc__law_same.nd rfl (Or.inl rfl))) (fun _ _ _ _ _ => pts_nil) (fun _ _ _ _ _ => (pe_c c__law_same hr (Nat.le_refl _) (by rfl) (pa_cons (pe_ix (r := rIx K) ix_seq (pv 0) (pv 2) (fun _ _ => rfl)) (pa_cons (pe_ix (r := rIx K) ix_seq (pv 1) (pv 2) (fun _ _ => rfl)) pa_nil))))) pa_nil))))))) pss_nil)
  (pss_cons (ps_if (pt_val (pe_callB call_isiT (by rfl) T.b_isinstance (by decide +kernel) (pa_cons (pv 0) (pa_cons (pe_tup (pa_cons (pe_bltn (v := .ty "list") (by rfl) T.b_list (by decide +kernel) rfl) (pa_cons (pe_bltn (v := .ty "tuple") (by rfl) T.b_tuple (by decide +kernel) rfl) pa_nil))) pa_nil)))) (pss_one (ps_ret pe_bl)) pss_nil)
  (pss_cons (ps_if (pt_cmpR op_ne (pe_callB call_isi (by rfl) T.b_isinstance (by decide +kernel) (pa_cons (pv 0) (pa_cons (pe_bltn (v := .ty "bool") (by rfl) T.b_bool (by decide +kernel) rfl) pa_nil))) (pe_callB call_isi (by rfl) T.b_isinstance (by decide +kernel) (pa_cons (pv 1) (pa_cons (pe_bltn (v := .ty "bool") (by rfl) T.b_bool (by decide +kernel) rfl) pa_nil))) (nomark _)) (pss_one (ps_ret pe_bl)) pss_nil)
  (pss_one (ps_ret (pe_and (pe_cmpR op_eq (pe_callB call_isi (by rfl) T.b_isinstance (by decide +kernel) (pa_cons (pv 0) (pa_cons (pe_bltn (v := .ty "str") (by rfl) T.b_str (by decide +kernel) rfl) pa_nil))) (pe_callB call_isi (by rfl) T.b_isinstance (by decide +kernel) (pa_cons (pv 1) (pa_cons (pe_bltn (v := .ty "str") (by rfl) T.b_str (by decide +kernel) rfl) pa_nil))) (nomark _)) (pe_one (pe_cmpR op_eq (pv 0) (pv 1) (nomark _)))))))))), ?_⟩
    have na := ha.isNonT
    have nb := hb.isNonT
    cases hz : isNonD d with
    | true =>
      have ea : a = .non := of_decide_eq_true (na.trans hz)
      have eb : b = .non := of_decide_eq_true (nb.trans hz)
      subst ea eb
      exact ⟨_, rfl, rfl, _, rfl, iteT (iteT ⟨_, rfl, rfl, _, rfl, iteT ⟨_, rfl, rfl, k _ (Same.refl _)⟩⟩)⟩
    | false =>
      rw [hz] at na nb
      refine ⟨_, rfl, rfl, _, rfl, ?_⟩
      rw [nb]
      refine iteF ⟨_, rfl, rfl, _, rfl, ?_⟩
      rw [na]
      refine iteF ?_
      refine ⟨_, rfl, (by show 2 ≤ sizeLine; decide), fun t1 h1 => ?_⟩
      refine ⟨_, _, _, _, _, _, rfl, upd_same, clsLT, (hb.monoT (Same.newT h1) d).tyT, kit_lt d, ?_⟩
      refine ⟨_, rfl, ?_⟩
      have S1 : Same H (upd H t1 (.tup [.ty "list", .ty "tuple"])) := Same.newT h1
      have ha1 := ha.monoT S1 d
      have hb1 := hb.monoT S1 d
      cases hq : (isLst d || isTup d) with
      | true =>
        refine iteT ?_
        refine ⟨_, rfl, ?_⟩
        refine ⟨_, _, _, _, _, rfl, .ty _, hb1.tyT, kit_ty (kit_list d), ?_⟩
        refine ⟨_, rfl, ?_⟩
        refine ⟨_, _, _, _, _, rfl, .ty _, ha1.tyT, kit_ty (kit_list d), ?_⟩
        refine ⟨rfl, _, rfl, ?_⟩
        refine ite2 (fun h => absurd h (by simp)) (fun _ => ?_)
        refine ⟨_, rfl, ?_⟩
        refine ⟨_, _, _, _, _, rfl, .ty _, hb1.tyT, kit_ty (kit_tuple d), ?_⟩
        refine ⟨_, rfl, ?_⟩
        refine ⟨_, _, _, _, _, rfl, .ty _, ha1.tyT, kit_ty (kit_tuple d), ?_⟩
        refine ⟨rfl, _, rfl, ?_⟩
        refine ite2 (fun h => absurd h (by simp)) (fun _ => ?_)
        obtain ⟨p, q, xs, ys, ds, m, rfl, rfl, rfl, hp, hq2, hx, hy, hl, hdm⟩ := same_seqs ha1 hb1 hd hq
        have lx := hx.lengthT
        have ly := hy.lengthT
        refine ⟨_, rfl, .ref p, xs.length, rfl, len_any hp, _, rfl, .ref q, ys.length, rfl, len_any hq2, rfl, _, rfl, ?_⟩
        rw [lx, ly]
        refine ite2 (fun h => absurd h (by simp)) (fun _ => ?_)
        refine ⟨_, rfl, .ref q, ys.length, rfl, len_any hq2, _, rfl, by omega, by omega, ?_⟩
        rw [ly]
        intro D hD
        refine lc_range (lo := 0) (n := ds.length) (fun i H' => Same (upd H t1 (.tup [.ty "list", .ty "tuple"])) H' ∧ H' D = some (.lst (List.replicate i (.bl true)))) ⟨Same.newT hD, upd_same⟩ (fun i H' hi hP => ?_) (fun H' hP => ?_)
        · obtain ⟨hP1, hP2⟩ := hP
          obtain ⟨d1, hd1⟩ : ∃ d1, ds[i]? = some d1 := ⟨ds[i]'hi, List.getElem?_eq_getElem hi⟩
          obtain ⟨x, hx1, hx2⟩ := hx.getDT hd1
          obtain ⟨y, hy1, hy2⟩ := hy.getDT hd1
          refine ⟨rfl, ?_⟩
          refine ⟨_, rfl, _, rfl, ?_⟩
          refine ix_any (Same.seqs hP1 hp) hx1 (Int.zero_add _) ?_
          refine ⟨_, rfl, _, rfl, ?_⟩
          refine ix_any (Same.seqs hP1 hq2) hy1 (Int.zero_add _) ?_
          refine ⟨x, y, d1, rfl, hx2.monoT hP1 d1, hy2.monoT hP1 d1, hdm _ (List.mem_of_getElem? hd1), fun H2 S2 => ?_⟩
          refine ⟨_, S2 _ _ hP2, ?_, ?_⟩
          · rw [List.length_replicate]; exact Nat.lt_of_lt_of_le (Nat.lt_of_lt_of_le hi hl) (by decide)
          · exact ⟨Same.mutT (hP1.trans S2) hD, by rw [upd_same, List.replicate_succ']⟩
        · obtain ⟨hP1, hP2⟩ := hP
          refine ⟨D, List.replicate ds.length true, rfl, SqL.of (by rw [hP2, List.map_replicate]), ?_⟩
          have e : (List.replicate ds.length true).all id = true := by simp
          rw [e]
          exact k _ (S1.trans hP1)
      | false =>
        refine iteF ?_
        refine ⟨_, rfl, (by show 2 ≤ sizeLine; decide), fun t2 h2 => ?_⟩
        refine ⟨_, _, _, _, _, _, rfl, upd_same, clsLT, (ha1.monoT (Same.newT h2) d).tyT, kit_lt d, ?_⟩
        refine ⟨_, rfl, ?_⟩
        have S2 := S1.trans (Same.newT (o := .tup [.ty "list", .ty "tuple"]) h2)
        have ha2 := ha.monoT S2 d
        have hb2 := hb.monoT S2 d
        rw [hq]
        refine iteF ?_
        refine ⟨_, rfl, ?_⟩
        refine ⟨_, _, _, _, _, rfl, .ty _, ha2.tyT, kit_ty (kit_bool d), ?_⟩
        refine ⟨_, rfl, ?_⟩
        refine ⟨_, _, _, _, _, rfl, .ty _, hb2.tyT, kit_ty (kit_bool d), ?_⟩
        refine ⟨rfl, _, rfl, ?_⟩
        refine ite2 (fun h => absurd h (by simp)) (fun _ => ?_)
        refine ⟨_, rfl, ?_⟩
        refine ⟨_, _, _, _, _, rfl, .ty _, ha2.tyT, kit_ty (kit_str d), ?_⟩
        refine ⟨_, rfl, ?_⟩
        refine ⟨_, _, _, _, _, rfl, .ty _, hb2.tyT, kit_ty (kit_str d), ?_⟩
        refine ⟨rfl, _, rfl, ?_⟩
        refine ite2 (fun _ => ?_) (fun h => absurd (decide_eq_true rfl) h)
        have e : a = b ∧ scal a b = true := by
          cases d with
          | none => cases ha; cases hb; exact ⟨rfl, rfl⟩
          | bool _ => cases ha; cases hb; exact ⟨rfl, rfl⟩
          | int _ => cases ha; cases hb; exact ⟨rfl, rfl⟩
          | str _ => cases ha; cases hb; exact ⟨rfl, rfl⟩
          | list _ => cases hq
          | tuple _ => cases hq
          | dict _ => cases ha
        refine ⟨_, rfl, _, rfl, e.2, ?_⟩
        rw [decide_eq_true e.1]
        exact k _ S2
end
/-! ### kinds -/
inductive KindD where
  | any | of (ws : List Str) | num (lo hi : Int)
def numT (lo hi : Int) : Str := (((Str.empty ++ "num ") ++ Str.ofString (toString lo)) ++ " ") ++ Str.ofString (toString hi)
def textK : KindD → Str
  | .any => "any"
  | .of ws => Txt.join " " ("of" :: ws)
  | .num lo hi => numT lo hi
def hintK : KindD → Str
  | .any => "<any>"
  | .of _ => ""
  | .num _ _ => "<num>"
def wordsK : KindD → List Str
  | .of ws => ws
  | _ => []
def numV (z : Str) : Int := ((NumText.digitsVal z.cps.toList : Nat) : Int)
def fitsK : KindD → PyData → Bool → Bool
  | .any, d, over => plainD d || (over && wordD d)
  | .of ws, .str z, _ => inV (.str z) (ws.map V.str)
  | .num lo hi, .str z, _ => numS z && (decide (lo ≤ numV z) && decide (numV z ≤ hi))
  | _, _, _ => false
/-- a kind's values are in their bounds -/
def KindD.ok : KindD → Prop
  | .any => True
  | .of ws => 1 ≤ ws.length ∧ ws.length ≤ 6 ∧ ∀ w ∈ ws, wordS w = true
  | .num lo hi => 0 ≤ lo ∧ lo ≤ hi ∧ hi ≤ 99999
def clsK (c : Cs) : KindD → Addr
  | .any => c.AnyWord
  | .of _ => c.OneOf
  | .num _ _ => c.Number
/-- a is a kind -/
def IsKind (K : PySem.W.Frag) (c : Cs) (H : Hp) (a : Addr) : KindD → Prop
  | .any => ∃ dx, H a = some (.ins c.AnyWord dx [])
  | .of ws => ∃ dx t, H a = some (.ins c.OneOf dx [("own_words", .ref t)]) ∧ SqT K H t (ws.map V.str)
  | .num lo hi => ∃ dx, H a = some (.ins c.Number dx [("low", .int lo), ("high", .int hi)])
theorem IsKind.same {K : PySem.W.Frag} {c : Cs} {H H' : Hp} {a : Addr} {k : KindD} (h : IsKind K c H a k) (e : Same H H') : IsKind K c H' a k := by
  cases k with
  | any => obtain ⟨dx, h⟩ := h; exact ⟨dx, e _ _ h⟩
  | of ws => obtain ⟨dx, t, h, h2⟩ := h; exact ⟨dx, t, e _ _ h, Same.seqTT e h2⟩
  | num lo hi => obtain ⟨dx, h⟩ := h; exact ⟨dx, e _ _ h⟩
theorem IsKind.ins {K : PySem.W.Frag} {c : Cs} {H : Hp} {a : Addr} {k : KindD} (h : IsKind K c H a k) : ∃ dx fs, H a = some (.ins (clsK c k) dx fs) ∧ fs.lookup ("text" : Str) = none ∧ fs.lookup ("fits" : Str) = none ∧ fs.lookup ("words" : Str) = none ∧ fs.lookup ("hint" : Str) = none := by
  cases k with
  | any => obtain ⟨dx, h⟩ := h; exact ⟨dx, _, h, rfl, rfl, rfl, rfl⟩
  | of ws => obtain ⟨dx, t, h, h2⟩ := h; exact ⟨dx, _, h, rfl, rfl, rfl, rfl⟩
  | num lo hi => obtain ⟨dx, h⟩ := h; exact ⟨dx, _, h, rfl, rfl, rfl, rfl⟩
theorem wordS_len {z : Str} (h : wordS z = true) : z.length ≤ 8 := by
  unfold wordS at h
  rw [Bool.and_eq_true, Bool.and_eq_true] at h
  have := of_decide_eq_true h.1.2
  omega
theorem numS_val {z : Str} (h : numS z = true) : PySem.intText? z = some (numV z) := by
  unfold numS at h
  rw [Bool.and_eq_true, Bool.and_eq_true] at h
  have hp := wordS_pos h.1
  have hl := wordS_len h.1
  have ht := tl_len z
  have q : z.cps.toList.all (fun c => decide (48 ≤ c) && decide (c ≤ 57)) = true := by
    rw [List.all_eq_true]
    intro c hc
    have e := of_decide_eq_true (List.all_eq_true.mp h.2.1 c hc)
    have e2 : c ∈ [48, 49, 50, 51, 52, 53, 54, 55, 56, 57] := e
    simp only [List.mem_cons, List.not_mem_nil, or_false] at e2
    rcases e2 with rfl | rfl | rfl | rfl | rfl | rfl | rfl | rfl | rfl | rfl <;> rfl
  have := SX.int_S q (by intro e; rw [e] at ht; simp at ht; omega) (by omega)
  rwa [SX.S_tl] at this
theorem small_log {i : Int} (h0 : 0 ≤ i) (h1 : i ≤ 99999) : i.natAbs.log2 < 1920 := by
  by_cases e : i.natAbs = 0
  · rw [e]; decide
  · refine Nat.lt_trans (m := 17) ((Nat.log2_lt e).mpr ?_) (by decide)
    have : i.natAbs ≤ 99999 := by omega
    exact Nat.lt_of_le_of_lt this (by decide)
theorem small_txt {i : Int} (h : i.natAbs.log2 < 1920) : (Str.ofString (toString i)).length ≤ 1921 := PyProof.Rows.int_text_len_1921 h
theorem len_app (a b : Str) : (a ++ b).length = a.length + b.length := by
  have := congrArg List.length (TL.tl_append a b)
  rw [List.length_append] at this
  have e : ∀ z : Str, (TL.tl z).length = z.length := fun z => tl_len z
  rw [e, e, e] at this
  exact this
/-! #### what the methods promise -/
def spText (K : PySem.W.Frag) (c : Cs) (k : KindD) : Sp := fun vs H Q _ => ∃ a, vs = [.ref a] ∧ IsKind K c H a k ∧ k.ok ∧ ∀ H', Same H H' → Q (.str (textK k)) H'
def spHint (K : PySem.W.Frag) (c : Cs) (k : KindD) : Sp := fun vs H Q _ => ∃ a, vs = [.ref a] ∧ IsKind K c H a k ∧ ∀ H', Same H H' → Q (.str (hintK k)) H'
def spWords (K : PySem.W.Frag) (c : Cs) (k : KindD) : Sp := fun vs H Q _ => ∃ a, vs = [.ref a] ∧ IsKind K c H a k ∧ ∀ p, H p = none → Q (.ref p) (upd H p (.lst ((wordsK k).map V.str)))
def spFits (K : PySem.W.Frag) (c : Cs) (k : KindD) : Sp := fun vs H Q _ => ∃ a v o d n, vs = [.ref a, v, .bl o] ∧ IsKind K c H a k ∧ k.ok ∧ Dp K H v d ∧ dok n d = true ∧ ∀ H', Same H H' → Q (.bl (fitsK k d o)) H'
def spHas (K : PySem.W.Frag) (c : Cs) (k : KindD) : Sp := fun vs H Q _ => ∃ a v d n, vs = [.ref a, v] ∧ IsKind K c H a k ∧ k.ok ∧ Dp K H v d ∧ dok n d = true ∧ ∀ H', Same H H' → Q (.bl (fitsK k d false)) H'
def spRepr (K : PySem.W.Frag) (c : Cs) (k : KindD) : Sp := fun vs H Q _ => ∃ a, vs = [.ref a] ∧ IsKind K c H a k ∧ k.ok ∧ ∀ H', Same H H' → Q (.str ((Str.empty ++ "Kind(" ++ textK k) ++ ")")) H'
/-- what stands on the other side: a kind, or plain data -/
def Oth (K : PySem.W.Frag) (c : Cs) (H : Hp) (y : V) : Option KindD → Prop
  | some k => k.ok ∧ ∃ b, y = .ref b ∧ IsKind K c H b k
  | none => ∃ d, Dp K H y d ∧ isLst d = false ∧ isTup d = false
def eqK (k : KindD) : Option KindD → Bool
  | some k' => decide (V.str (textK k) = V.str (textK k'))
  | none => false
def spEq (K : PySem.W.Frag) (c : Cs) (k : KindD) : Sp := fun vs H Q _ => ∃ a y o, vs = [.ref a, y] ∧ IsKind K c H a k ∧ k.ok ∧ Oth K c H y o ∧ ∀ H', Same H H' → Q (.bl (eqK k o)) H'
structure KindM (P : Program) (w : World) (K : PySem.W.Frag) (mg : Str → Option Value) (base : Heap) (c : Cs) : Prop where
  text : ∀ k, MtC P w K mg base CX0 1 (clsK c k) "text" [] (fun vs _ => spText K c k vs)
  hint : ∀ k, MtC P w K mg base CX0 1 (clsK c k) "hint" [] (fun vs _ => spHint K c k vs)
  words : ∀ k, MtC P w K mg base CX0 1 (clsK c k) "words" [] (fun vs _ => spWords K c k vs)
  fits : ∀ k, MtC P w K mg base CX0 3 (clsK c k) "fits" [] (fun vs _ => spFits K c k (vs ++ [.bl false]))
  fitsO : ∀ k, MtC P w K mg base CX0 3 (clsK c k) "fits" ["over"] (fun vs zs H Q E => vs.length = 2 ∧ spFits K c k (vs ++ zs) H Q E)
  fitsWO : ∀ k, MtC P w K mg base CX0 3 (clsK c k) "fits" ["word", "over"] (fun vs zs H Q E => vs.length = 1 ∧ spFits K c k (vs ++ zs) H Q E)
  has : ∀ k, MtC P w K mg base CX0 4 (clsK c k) "__contains__" [] (fun vs _ => spHas K c k vs)
  eq : ∀ k, MtC P w K mg base CX0 2 (clsK c k) "__eq__" [] (fun vs _ => spEq K c k vs)
  repr : ∀ k, (textK k).length ≤ 10000 → MtC P w K mg base CX0 2 (clsK c k) "__repr__" [] (fun vs _ => spRepr K c k vs)
section
variable {P : Program} {w : World} {K : PySem.W.Frag} {mg : Str → Option Value} {base : Heap} {c : Cs}
/-! #### text -/
theorem sc_AnyWord_text : FnScope ["self"] ["self"] (defScope s_AnyWord_text) := ⟨rfl, rfl, rfl, by decide +kernel, rfl, by decide +kernel, by decide +kernel⟩
theorem f_AnyWord_text (A : Alls K mg c) : FnA P w K mg base CX0 1 c.AnyWord_text [] (fun vs _ => spText K c .any vs) := by
  have T := A.T
  refine (fo_mk A.f_AnyWord_text sc_AnyWord_text (fun vs H Q E h => ?_) fun cdv A' outer s H vs Q E hr h => ?_).pos fun _ _ _ _ _ _ us hl => match us, hl with | [_], _ => rfl
  · obtain ⟨a, rfl, _⟩ := h; rfl
  · obtain ⟨a, rfl, hk, hok, k⟩ := h
    refine ⟨_, (pss_one (ps_ret pe_str)), ?_⟩
    exact k _ (Same.refl _)
theorem sc_OneOf_text : FnScope ["self"] ["self"] (defScope s_OneOf_text) := ⟨rfl, rfl, rfl, by decide +kernel, rfl, by decide +kernel, by decide +kernel⟩
theorem f_OneOf_text (A : Alls K mg c) (ws : List Str) : FnA P w K mg base CX0 1 c.OneOf_text [] (fun vs _ => spText K c (.of ws) vs) := by
  have T := A.T
  refine (fo_mk A.f_OneOf_text sc_OneOf_text (fun vs H Q E h => ?_) fun cdv A' outer s H vs Q E hr h => ?_).pos fun _ _ _ _ _ _ us hl => match us, hl with | [_], _ => rfl
  · obtain ⟨a, rfl, _⟩ := h; rfl
  · obtain ⟨a, rfl, hk, hok, k⟩ := h
    obtain ⟨dx, t, ha, ht⟩ := hk
    refine ⟨_, (pss_one (ps_ret (pe_join pe_str (pe_lst (pa_cons pe_str (StX.pa_star (pe_fld (pv 0) rfl) pa_nil)))))), ?_⟩
    refine ⟨⟨_, rfl⟩, _, rfl, a, c.OneOf, dx, _, _, rfl, ha, A.cl_OneOf, A.na_OneOf_own_words, rfl, t, _, rfl, .inl ht, ?_⟩
    refine ⟨?_, fun p hp => ?_⟩
    · have : sizeLine = 16777216 := sizeLine_eq
      have := hok.2.1
      simp only [List.length_cons, List.length_append, List.length_map, List.length_nil]
      omega
    · refine ⟨_, p, "of" :: ws, rfl, rfl, .inl (SqL.of (by rw [upd_same]; simp)), ?_, ?_⟩
      · have h1 : (ws.map (·.length)).sum ≤ 8 * ws.length := by
          have h2 := hok.2.2
          clear hok ht ha k
          induction ws with
          | nil => simp
          | cons w ws ih =>
            have e1 := wordS_len (h2 w (List.mem_cons_self ..))
            have e2 := ih fun x hx => h2 x (List.mem_cons_of_mem _ hx)
            simp only [List.map_cons, List.sum_cons, List.length_cons]
            omega
        have h3 := hok.2.1
        simp only [List.map_cons, List.sum_cons, List.length_cons]
        have h4 : ("of" : Str).length = 2 := by decide
        have h5 : (" " : Str).length = 1 := by decide
        rw [h4, h5]
        omega
      · exact k _ (Same.newT hp)
theorem sc_Number_text : FnScope ["self"] ["self"] (defScope s_Number_text) := ⟨rfl, rfl, rfl, by decide +kernel, rfl, by decide +kernel, by decide +kernel⟩
theorem f_Number_text (A : Alls K mg c) (lo hi : Int) : FnA P w K mg base CX0 1 c.Number_text [] (fun vs _ => spText K c (.num lo hi) vs) := by
  have T := A.T
  refine (fo_mk A.f_Number_text sc_Number_text (fun vs H Q E h => ?_) fun cdv A' outer s H vs Q E hr h => ?_).pos fun _ _ _ _ _ _ us hl => match us, hl with | [_], _ => rfl
  · obtain ⟨a, rfl, _⟩ := h; rfl
  · obtain ⟨a, rfl, hk, hok, k⟩ := h
    obtain ⟨dx, ha⟩ := hk
    obtain ⟨h0, h1, h2⟩ := hok
    have l1 := small_log h0 (Int.le_trans h1 h2)
    have l2 := small_log (Int.le_trans h0 h1) h2
    have t1 := small_txt l1
    have t2 := small_txt l2
    have sz : sizeLine = 16777216 := sizeLine_eq
    have e1 : (Str.empty ++ "num ").length = 4 := by decide
    have e2 : (" " : Str).length = 1 := by decide
    refine ⟨_, (pss_one (ps_ret (pe_joined (.cons pe_str (.cons (pe_fmt (pe_fld (pv 0) rfl)) (.cons pe_str (.cons (pe_fmt (pe_fld (pv 0) rfl)) .nil))))))), ?_⟩
    refine ⟨_, rfl, by rw [e1, sz]; decide, ?_⟩
    refine ⟨_, rfl, a, c.Number, dx, _, _, rfl, ha, A.cl_Number, A.na_Number_low, rfl, .inr ⟨lo, rfl, l1, _, rfl, ?_, ?_⟩⟩
    · rw [len_app, e1, sz]; omega
    refine ⟨_, rfl, ?_, ?_⟩
    · rw [len_app, len_app, e1, e2, sz]; omega
    refine ⟨_, rfl, a, c.Number, dx, _, _, rfl, ha, A.cl_Number, A.na_Number_high, rfl, .inr ⟨hi, rfl, l2, _, rfl, ?_, ?_⟩⟩
    · rw [len_app, len_app, len_app, e1, e2, sz]; omega
    exact k _ (Same.refl _)
/-! #### hint, words -/
theorem sc_AnyWord_hint : FnScope ["self"] ["self"] (defScope s_AnyWord_hint) := ⟨rfl, rfl, rfl, by decide +kernel, rfl, by decide +kernel, by decide +kernel⟩
theorem f_AnyWord_hint (A : Alls K mg c) : FnA P w K mg base CX0 1 c.AnyWord_hint [] (fun vs _ => spHint K c .any vs) := by
  have T := A.T
  refine (fo_mk A.f_AnyWord_hint sc_AnyWord_hint (fun vs H Q E h => ?_) fun cdv A' outer s H vs Q E hr h => ?_).pos fun _ _ _ _ _ _ us hl => match us, hl with | [_], _ => rfl
  · obtain ⟨a, rfl, _⟩ := h; rfl
  · obtain ⟨a, rfl, hk, k⟩ := h
    exact ⟨_, (pss_one (ps_ret pe_str)), k _ (Same.refl _)⟩
theorem sc_Number_hint : FnScope ["self"] ["self"] (defScope s_Number_hint) := ⟨rfl, rfl, rfl, by decide +kernel, rfl, by decide +kernel, by decide +kernel⟩
theorem f_Number_hint (A : Alls K mg c) (lo hi : Int) : FnA P w K mg base CX0 1 c.Number_hint [] (fun vs _ => spHint K c (.num lo hi) vs) := by
  have T := A.T
  refine (fo_mk A.f_Number_hint sc_Number_hint (fun vs H Q E h => ?_) fun cdv A' outer s H vs Q E hr h => ?_).pos fun _ _ _ _ _ _ us hl => match us, hl with | [_], _ => rfl
  · obtain ⟨a, rfl, _⟩ := h; rfl
  · obtain ⟨a, rfl, hk, k⟩ := h
    exact ⟨_, (pss_one (ps_ret pe_str)), k _ (Same.refl _)⟩
theorem sc_Kind_hint : FnScope ["self"] ["self"] (defScope s_Kind_hint) := ⟨rfl, rfl, rfl, by decide +kernel, rfl, by decide +kernel, by decide +kernel⟩
theorem f_Kind_hint (A : Alls K mg c) (ws : List Str) : FnA P w K mg base CX0 1 c.Kind_hint [] (fun vs _ => spHint K c (.of ws) vs) := by
  have T := A.T
  refine (fo_mk A.f_Kind_hint sc_Kind_hint (fun vs H Q E h => ?_) fun cdv A' outer s H vs Q E hr h => ?_).pos fun _ _ _ _ _ _ us hl => match us, hl with | [_], _ => rfl
  · obtain ⟨a, rfl, _⟩ := h; rfl
  · obtain ⟨a, rfl, hk, k⟩ := h
    exact ⟨_, (pss_one (ps_ret pe_str)), k _ (Same.refl _)⟩
theorem sc_Kind_words : FnScope ["self"] ["self"] (defScope s_Kind_words) := ⟨rfl, rfl, rfl, by decide +kernel, rfl, by decide +kernel, by decide +kernel⟩
theorem f_Kind_words (A : Alls K mg c) (k : KindD) (hk0 : wordsK k = []) : FnA P w K mg base CX0 1 c.Kind_words [] (fun vs _ => spWords K c k vs) := by
  have T := A.T
  refine (fo_mk A.f_Kind_words sc_Kind_words (fun vs H Q E h => ?_) fun cdv A' outer s H vs Q E hr h => ?_).pos fun _ _ _ _ _ _ us hl => match us, hl with | [_], _ => rfl
  · obtain ⟨a, rfl, _⟩ := h; rfl
  · obtain ⟨a, rfl, hk, k⟩ := h
    rw [hk0] at k
    exact ⟨_, (pss_one (ps_ret (pe_lst pa_nil))), by show 0 ≤ sizeLine; decide, fun p hp => k p hp⟩
theorem sc_OneOf_words : FnScope ["self"] ["self"] (defScope s_OneOf_words) := ⟨rfl, rfl, rfl, by decide +kernel, rfl, by decide +kernel, by decide +kernel⟩
theorem f_OneOf_words (A : Alls K mg c) (ws : List Str) : FnA P w K mg base CX0 1 c.OneOf_words [] (fun vs _ => spWords K c (.of ws) vs) := by
  have T := A.T
  refine (fo_mk A.f_OneOf_words sc_OneOf_words (fun vs H Q E h => ?_) fun cdv A' outer s H vs Q E hr h => ?_).pos fun _ _ _ _ _ _ us hl => match us, hl with | [_], _ => rfl
  · obtain ⟨a, rfl, _⟩ := h; rfl
  · obtain ⟨a, rfl, hk, k⟩ := h
    obtain ⟨dx, t, ha, ht⟩ := hk
    refine ⟨_, (pss_one (ps_ret (pe_callTy call_list_of (by rfl) T.b_list (by decide +kernel) (pa_cons (pe_fld (pv 0) rfl) pa_nil)))), ?_⟩
    exact ⟨_, rfl, a, c.OneOf, dx, _, _, rfl, ha, A.cl_OneOf, A.na_OneOf_own_words, rfl, t, _, rfl, .inr ht, fun p hp => k p hp⟩
end
section
variable {P : Program} {w : World} {K : PySem.W.Frag} {mg : Str → Option Value} {base : Heap} {c : Cs}
/-! #### fits -/
abbrev psF : List Str := ["self", "word", "over"]
theorem len_fits {k : KindD} : ∀ vs H Q E, spFits K c k vs H Q E → vs.length = psF.length := fun vs H Q E h => by
  obtain ⟨a, v, o, d, n, rfl, _⟩ := h; rfl
theorem sc_AnyWord_fits : FnScope ["self", "word", "over"] ["self", "word", "over"] (defScope s_AnyWord_fits) := ⟨rfl, rfl, rfl, by decide +kernel, rfl, by decide +kernel, by decide +kernel⟩
theorem o_AnyWord_fits (A : Alls K mg c) (c_is_word : Cl P w K mg base CX0 1 "is_word" (spPred K wordD) []) (c_is_plain : Cl P w K mg base CX0 2 "is_plain" (spPred K plainD) []) :
    Fo P w K mg base CX0 3 "fits" "AnyWord.fits" s_AnyWord_fits [] [("over", .bl false)] c.AnyWord_fits psF (spFits K c .any) := by
  have T := A.T
  refine fo_mk A.f_AnyWord_fits sc_AnyWord_fits len_fits fun cdv A' outer s H vs Q E hr h => ?_
  obtain ⟨a, v, o, d, n, rfl, hk, hok, hv, hd, k⟩ := h
  refine ⟨_, (pss_one (ps_ret (pe_or (pe_c c_is_plain hr (by decide) (by rfl) (pa_cons (pv 1) pa_nil)) (pe_one (pe_and (pe_cmpR op_isBl (pv 2) pe_bl (nomark _)) (pe_one (pe_c c_is_word hr (by decide) (by rfl) (pa_cons (pv 1) pa_nil)))))))), ?_⟩
  refine ⟨_, rfl, v, d, n, rfl, hv, hd, fun H1 S1 => ⟨_, rfl, ?_⟩⟩
  cases hp : plainD d with
  | true =>
    have e : fitsK .any d o = true := by show (plainD d || (o && wordD d)) = true; rw [hp]; rfl
    rw [e] at k
    exact iteT (k _ S1)
  | false =>
    have e : fitsK .any d o = (o && wordD d) := by show (plainD d || (o && wordD d)) = _; rw [hp]; rfl
    rw [e] at k
    refine iteF ⟨_, rfl, _, _, rfl, rfl, _, rfl, ?_⟩
    cases o with
    | false => exact iteF (k _ S1)
    | true => exact iteT ⟨_, rfl, v, d, n, rfl, hv.monoT S1 d, hd, fun H2 S2 => k _ (S1.trans S2)⟩
theorem sc_OneOf_fits : FnScope ["self", "word", "over"] ["self", "word", "over"] (defScope s_OneOf_fits) := ⟨rfl, rfl, rfl, by decide +kernel, rfl, by decide +kernel, by decide +kernel⟩
theorem o_OneOf_fits (A : Alls K mg c) (ws : List Str) : Fo P w K mg base CX0 1 "fits" "OneOf.fits" s_OneOf_fits [] [("over", .bl false)] c.OneOf_fits psF (spFits K c (.of ws)) := by
  have T := A.T
  refine fo_mk A.f_OneOf_fits sc_OneOf_fits len_fits fun cdv A' outer s H vs Q E hr h => ?_
  obtain ⟨a, v, o, d, n, rfl, hk, hok, hv, hd, k⟩ := h
  obtain ⟨dx, t, ha, ht⟩ := hk
  refine ⟨_, (pss_one (ps_ret (pe_and (pe_callB call_isi (by rfl) T.b_isinstance (by decide +kernel) (pa_cons (pv 1) (pa_cons (pe_bltn (v := .ty "str") (by rfl) T.b_str (by decide +kernel) rfl) pa_nil))) (pe_one (pe_cmpR op_in_seq (pv 1) (pe_fld (pv 0) rfl) (by rfl)))))), ?_⟩
  refine ⟨_, rfl, ?_⟩
  refine ⟨_, _, _, _, _, rfl, .ty _, hv.tyT, kit_ty (kit_str d), ?_⟩
  refine ⟨_, rfl, ?_⟩
  cases hs : isStr d with
  | false =>
    have e : fitsK (.of ws) d o = false := by cases d <;> first | rfl | cases hs
    rw [e] at k
    exact iteF (k _ (Same.refl _))
  | true =>
    obtain ⟨z, rfl⟩ := str_of hs
    cases hv
    refine iteT ?_
    refine ⟨_, rfl, _, rfl, a, c.OneOf, dx, _, _, rfl, ha, A.cl_OneOf, A.na_OneOf_own_words, rfl, t, _, rfl, .inr ht, rfl, ?_, ?_⟩
    · rw [List.all_map]; exact List.all_eq_true.mpr fun x _ => rfl
    · exact k _ (Same.refl _)
theorem sc_Number_fits : FnScope ["self", "word", "over"] ["self", "word", "over"] (defScope s_Number_fits) := ⟨rfl, rfl, rfl, by decide +kernel, rfl, by decide +kernel, by decide +kernel⟩
theorem o_Number_fits (A : Alls K mg c) (lo hi : Int) (c_is_number_word : Cl P w K mg base CX0 2 "is_number_word" (spPred K numD) []) :
    Fo P w K mg base CX0 3 "fits" "Number.fits" s_Number_fits [] [("over", .bl false)] c.Number_fits psF (spFits K c (.num lo hi)) := by
  have T := A.T
  refine fo_mk A.f_Number_fits sc_Number_fits len_fits fun cdv A' outer s H vs Q E hr h => ?_
  obtain ⟨a, v, o, d, n, rfl, hk, hok, hv, hd, k⟩ := h
  obtain ⟨dx, ha⟩ := hk
  refine ⟨_, (pss_one (ps_ret (pe_and (pe_c c_is_number_word hr (by decide) (by rfl) (pa_cons (pv 1) pa_nil)) (pe_one (pe_chain op_le op_le (pe_fld (pv 0) rfl) (pe_callTy call_int_str (by rfl) T.b_int (by decide +kernel) (pa_cons (pv 1) pa_nil)) (pe_fld (pv 0) rfl)))))), ?_⟩
  refine ⟨_, rfl, v, d, n, rfl, hv, hd, fun H1 S1 => ⟨_, rfl, ?_⟩⟩
  cases hw : numD d with
  | false =>
    have e : fitsK (.num lo hi) d o = false := by
      cases d <;> first | rfl | exact (by show (numS _ && _) = false; rw [show numS _ = false from hw]; rfl)
    rw [e] at k
    exact iteF (k _ S1)
  | true =>
    obtain ⟨z, rfl⟩ : ∃ z, d = .str z := by cases d <;> first | exact ⟨_, rfl⟩ | cases hw
    cases hv
    have hn : numS z = true := hw
    have e : fitsK (.num lo hi) (.str z) o = (decide (lo ≤ numV z) && decide (numV z ≤ hi)) := by
      show (numS z && _) = _
      rw [hn]; rfl
    rw [e] at k
    have hl : z.length ≤ 640 := by
      have h1 : numS z = true := hw
      unfold numS at h1
      rw [Bool.and_eq_true] at h1
      have := wordS_len h1.1
      omega
    refine iteT ⟨_, rfl, a, c.Number, dx, _, _, rfl, S1 _ _ ha, A.cl_Number, A.na_Number_low, rfl, _, rfl, z, numV z, rfl, numS_val hn, hl, ?_⟩
    refine ⟨_, _, rfl, rfl, _, rfl, ?_⟩
    cases h1 : decide (lo ≤ numV z) with
    | false =>
      rw [h1] at k
      exact iteF (k _ S1)
    | true =>
      rw [h1] at k
      refine iteT ⟨_, rfl, a, c.Number, dx, _, _, rfl, S1 _ _ ha, A.cl_Number, A.na_Number_high, rfl, _, _, rfl, rfl, ?_⟩
      exact k _ S1
theorem fits_AnyWord {sp : Sp} {k : Nat} (o : Fo P w K mg base CX0 k "fits" "AnyWord.fits" s_AnyWord_fits [] [("over", .bl false)] c.AnyWord_fits psF sp) :
    FnA P w K mg base CX0 k c.AnyWord_fits [] (fun vs _ => sp (vs ++ [.bl false])) ∧ FnA P w K mg base CX0 k c.AnyWord_fits ["over"] (fun vs zs H Q E => vs.length = 2 ∧ sp (vs ++ zs) H Q E) ∧ FnA P w K mg base CX0 k c.AnyWord_fits ["word", "over"] (fun vs zs H Q E => vs.length = 1 ∧ sp (vs ++ zs) H Q E) :=
  ⟨o.pos0 2 (by simp) rfl fun D doc pm an cdv ct us ks h1 h2 => match us, ks, h1, h2 with | [_, _], [_], _, _ => ⟨_, _, _, _, _, _, rfl, rfl, rfl⟩,
    o.key 2 ["over"] (fun a b => a ++ b) (fun r1 r2 => r1.append r2) fun kV doc pm an cdv ct us ws h1 h2 => match us, ws, h1, h2 with | [_, _], [_], _, _ => rfl,
    o.key 1 ["word", "over"] (fun a b => a ++ b) (fun r1 r2 => r1.append r2) fun kV doc pm an cdv ct us ws h1 h2 => match us, ws, h1, h2 with | [_], [_, _], _, _ => rfl⟩
theorem fits_OneOf {sp : Sp} {k : Nat} (o : Fo P w K mg base CX0 k "fits" "OneOf.fits" s_OneOf_fits [] [("over", .bl false)] c.OneOf_fits psF sp) :
    FnA P w K mg base CX0 k c.OneOf_fits [] (fun vs _ => sp (vs ++ [.bl false])) ∧ FnA P w K mg base CX0 k c.OneOf_fits ["over"] (fun vs zs H Q E => vs.length = 2 ∧ sp (vs ++ zs) H Q E) ∧ FnA P w K mg base CX0 k c.OneOf_fits ["word", "over"] (fun vs zs H Q E => vs.length = 1 ∧ sp (vs ++ zs) H Q E) :=
  ⟨o.pos0 2 (by simp) rfl fun D doc pm an cdv ct us ks h1 h2 => match us, ks, h1, h2 with | [_, _], [_], _, _ => ⟨_, _, _, _, _, _, rfl, rfl, rfl⟩,
    o.key 2 ["over"] (fun a b => a ++ b) (fun r1 r2 => r1.append r2) fun kV doc pm an cdv ct us ws h1 h2 => match us, ws, h1, h2 with | [_, _], [_], _, _ => rfl,
    o.key 1 ["word", "over"] (fun a b => a ++ b) (fun r1 r2 => r1.append r2) fun kV doc pm an cdv ct us ws h1 h2 => match us, ws, h1, h2 with | [_], [_, _], _, _ => rfl⟩
theorem fits_Number {sp : Sp} {k : Nat} (o : Fo P w K mg base CX0 k "fits" "Number.fits" s_Number_fits [] [("over", .bl false)] c.Number_fits psF sp) :
    FnA P w K mg base CX0 k c.Number_fits [] (fun vs _ => sp (vs ++ [.bl false])) ∧ FnA P w K mg base CX0 k c.Number_fits ["over"] (fun vs zs H Q E => vs.length = 2 ∧ sp (vs ++ zs) H Q E) ∧ FnA P w K mg base CX0 k c.Number_fits ["word", "over"] (fun vs zs H Q E => vs.length = 1 ∧ sp (vs ++ zs) H Q E) :=
  ⟨o.pos0 2 (by simp) rfl fun D doc pm an cdv ct us ks h1 h2 => match us, ks, h1, h2 with | [_, _], [_], _, _ => ⟨_, _, _, _, _, _, rfl, rfl, rfl⟩,
    o.key 2 ["over"] (fun a b => a ++ b) (fun r1 r2 => r1.append r2) fun kV doc pm an cdv ct us ws h1 h2 => match us, ws, h1, h2 with | [_, _], [_], _, _ => rfl,
    o.key 1 ["word", "over"] (fun a b => a ++ b) (fun r1 r2 => r1.append r2) fun kV doc pm an cdv ct us ws h1 h2 => match us, ws, h1, h2 with | [_], [_, _], _, _ => rfl⟩
/-! #### in, repr, == -/
theorem mt_text (A : Alls K mg c) (k : KindD) : MtC P w K mg base CX0 1 (clsK c k) "text" [] (fun vs _ => spText K c k vs) := by
  cases k with
  | any => exact ⟨⟨_, A.me_AnyWord_text, f_AnyWord_text A⟩, A.cl_AnyWord⟩
  | of ws => exact ⟨⟨_, A.me_OneOf_text, f_OneOf_text A ws⟩, A.cl_OneOf⟩
  | num lo hi => exact ⟨⟨_, A.me_Number_text, f_Number_text A lo hi⟩, A.cl_Number⟩
theorem mt_hint (A : Alls K mg c) (k : KindD) : MtC P w K mg base CX0 1 (clsK c k) "hint" [] (fun vs _ => spHint K c k vs) := by
  cases k with
  | any => exact ⟨⟨_, A.me_AnyWord_hint, f_AnyWord_hint A⟩, A.cl_AnyWord⟩
  | of ws => exact ⟨⟨_, A.me_OneOf_hint, f_Kind_hint A ws⟩, A.cl_OneOf⟩
  | num lo hi => exact ⟨⟨_, A.me_Number_hint, f_Number_hint A lo hi⟩, A.cl_Number⟩
theorem mt_words (A : Alls K mg c) (k : KindD) : MtC P w K mg base CX0 1 (clsK c k) "words" [] (fun vs _ => spWords K c k vs) := by
  cases k with
  | any => exact ⟨⟨_, A.me_AnyWord_words, f_Kind_words A _ rfl⟩, A.cl_AnyWord⟩
  | of ws => exact ⟨⟨_, A.me_OneOf_words, f_OneOf_words A ws⟩, A.cl_OneOf⟩
  | num lo hi => exact ⟨⟨_, A.me_Number_words, f_Kind_words A _ rfl⟩, A.cl_Number⟩
structure FitsM (P : Program) (w : World) (K : PySem.W.Frag) (mg : Str → Option Value) (base : Heap) (c : Cs) : Prop where
  fits : ∀ k, MtC P w K mg base CX0 3 (clsK c k) "fits" [] (fun vs _ => spFits K c k (vs ++ [.bl false]))
  fitsO : ∀ k, MtC P w K mg base CX0 3 (clsK c k) "fits" ["over"] (fun vs zs H Q E => vs.length = 2 ∧ spFits K c k (vs ++ zs) H Q E)
  fitsWO : ∀ k, MtC P w K mg base CX0 3 (clsK c k) "fits" ["word", "over"] (fun vs zs H Q E => vs.length = 1 ∧ spFits K c k (vs ++ zs) H Q E)
theorem mt_fits (A : Alls K mg c) (c1 : Cl P w K mg base CX0 1 "is_word" (spPred K wordD) []) (c2 : Cl P w K mg base CX0 2 "is_plain" (spPred K plainD) []) (c3 : Cl P w K mg base CX0 2 "is_number_word" (spPred K numD) []) : FitsM P w K mg base c := by
  have a1 := fits_AnyWord (o_AnyWord_fits A c1 c2)
  have a2 := fun ws => fits_OneOf (o_OneOf_fits (P := P) (w := w) (base := base) A ws)
  have a3 := fun lo hi => fits_Number (o_Number_fits A lo hi c3)
  refine ⟨fun k => ?_, fun k => ?_, fun k => ?_⟩
  · cases k with
    | any => exact ⟨⟨_, A.me_AnyWord_fits, a1.1⟩, A.cl_AnyWord⟩
    | of ws => exact ⟨⟨_, A.me_OneOf_fits, (a2 ws).1.mono (by decide)⟩, A.cl_OneOf⟩
    | num lo hi => exact ⟨⟨_, A.me_Number_fits, (a3 lo hi).1⟩, A.cl_Number⟩
  · cases k with
    | any => exact ⟨⟨_, A.me_AnyWord_fits, a1.2.1⟩, A.cl_AnyWord⟩
    | of ws => exact ⟨⟨_, A.me_OneOf_fits, (a2 ws).2.1.mono (by decide)⟩, A.cl_OneOf⟩
    | num lo hi => exact ⟨⟨_, A.me_Number_fits, (a3 lo hi).2.1⟩, A.cl_Number⟩
  · cases k with
    | any => exact ⟨⟨_, A.me_AnyWord_fits, a1.2.2⟩, A.cl_AnyWord⟩
    | of ws => exact ⟨⟨_, A.me_OneOf_fits, (a2 ws).2.2.mono (by decide)⟩, A.cl_OneOf⟩
    | num lo hi => exact ⟨⟨_, A.me_Number_fits, (a3 lo hi).2.2⟩, A.cl_Number⟩
theorem sc_Kind___contains__ : FnScope ["self", "value"] ["self", "value"] (defScope s_Kind___contains__) := ⟨rfl, rfl, rfl, by decide +kernel, rfl, by decide +kernel, by decide +kernel⟩
theorem f_Kind_has (A : Alls K mg c) (F : FitsM P w K mg base c) (k : KindD) : FnA P w K mg base CX0 4 c.Kind___contains__ [] (fun vs _ => spHas K c k vs) := by
  have T := A.T
  refine (fo_mk A.f_Kind___contains__ sc_Kind___contains__ (fun vs H Q E h => ?_) fun cdv A' outer s H vs Q E hr h => ?_).pos fun _ _ _ _ _ _ us hl => match us, hl with | [_, _], _ => rfl
  · obtain ⟨a, v, d, n, rfl, _⟩ := h; rfl
  · obtain ⟨a, v, d, n, rfl, hk, hok, hv, hd, q⟩ := h
    refine ⟨_, (pss_one (ps_ret (pe_methA (CX := CX0) (E := E0)  hr pass0 (pv 0) (pa_cons (pv 1) pa_nil) pk_nil))), ?_⟩
    obtain ⟨dx, fs, ha, l1, l2, l3, l4⟩ := hk.ins
    refine ⟨_, rfl, a, _, dx, fs, _, rfl, ha, l2, F.fits k, _, rfl, rfl, ?_⟩
    exact ⟨a, v, false, d, n, rfl, hk, hok, hv, hd, fun H' S => q _ S⟩
theorem sc_Kind___repr__ : FnScope ["self"] ["self"] (defScope s_Kind___repr__) := ⟨rfl, rfl, rfl, by decide +kernel, rfl, by decide +kernel, by decide +kernel⟩
theorem f_Kind_repr (A : Alls K mg c) (k : KindD) (hz : (textK k).length ≤ 10000) : FnA P w K mg base CX0 2 c.Kind___repr__ [] (fun vs _ => spRepr K c k vs) := by
  have T := A.T
  refine (fo_mk A.f_Kind___repr__ sc_Kind___repr__ (fun vs H Q E h => ?_) fun cdv A' outer s H vs Q E hr h => ?_).pos fun _ _ _ _ _ _ us hl => match us, hl with | [_], _ => rfl
  · obtain ⟨a, rfl, _⟩ := h; rfl
  · obtain ⟨a, rfl, hk, hok, q⟩ := h
    refine ⟨_, (pss_one (ps_ret (pe_joined (.cons pe_str (.cons (pe_fmt (pe_methA0 (CX := CX0) (E := E0)  hr pass0 (pv 0) pk_nil)) (.cons pe_str .nil)))))), ?_⟩
    obtain ⟨dx, fs, ha, l1, l2, l3, l4⟩ := hk.ins
    have sz : sizeLine = 16777216 := sizeLine_eq
    have e1 : (Str.empty ++ "Kind(").length = 5 := by decide
    have e2 : (")" : Str).length = 1 := by decide
    refine ⟨_, rfl, by rw [e1, sz]; decide, ?_⟩
    refine ⟨_, rfl, a, _, dx, fs, _, rfl, ha, l1, mt_text A k, rfl, a, rfl, hk, hok, fun H1 S1 => ?_⟩
    refine .inl ⟨_, rfl, by rw [sz]; omega, _, rfl, ?_, ?_⟩
    · rw [len_app, e1, sz]; omega
    refine ⟨_, rfl, ?_, ?_⟩
    · rw [len_app, len_app, e1, e2, sz]; omega
    exact q _ S1
theorem sc_Kind___eq__ : FnScope ["self", "other"] ["self", "other"] (defScope s_Kind___eq__) := ⟨rfl, rfl, rfl, by decide +kernel, rfl, by decide +kernel, by decide +kernel⟩
theorem f_Kind_eq (A : Alls K mg c) (k : KindD) : FnA P w K mg base CX0 2 c.Kind___eq__ [] (fun vs _ => spEq K c k vs) := by
  have T := A.T
  have n_Kind := A.n_Kind
  refine (fo_mk A.f_Kind___eq__ sc_Kind___eq__ (fun vs H Q E h => ?_) fun cdv A' outer s H vs Q E hr h => ?_).pos fun _ _ _ _ _ _ us hl => match us, hl with | [_, _], _ => rfl
  · obtain ⟨a, y, o, rfl, _⟩ := h; rfl
  · obtain ⟨a, y, o, rfl, hk, hok, ho, q⟩ := h
    refine ⟨_, (pss_one (ps_ret (pe_and (pe_callB call_isi (by rfl) T.b_isinstance (by decide +kernel) (pa_cons (pv 1) (pa_cons (pe_glob (v := .ref c.Kind) (by rfl) n_Kind rfl) pa_nil))) (pe_one (pe_cmpR op_eq (pe_methA0 (CX := CX0) (E := E0)  hr pass0 (pv 0) pk_nil) (pe_methA0 (CX := CX0) (E := E0)  hr pass0 (pv 1) pk_nil) (nomark _)))))), ?_⟩
    cases o with
    | none =>
      obtain ⟨d, hd, hl, ht⟩ := ho
      refine ⟨_, rfl, ?_⟩
      refine ⟨_, _, _, _, false, rfl, .own _, hd.tyT, ?_, ?_⟩
      · cases d with
        | none => exact A.isa_NoneType_Kind
        | bool _ => exact A.isa_bool_Kind
        | int _ => exact A.isa_int_Kind
        | str _ => exact A.isa_str_Kind
        | list _ => cases hl
        | tuple _ => cases ht
        | dict _ => cases hd
      · exact ⟨_, rfl, iteF (q _ (Same.refl _))⟩
    | some k' =>
      obtain ⟨hok', b, rfl, hb⟩ := ho
      obtain ⟨dx, fs, ha, l1, _⟩ := hk.ins
      obtain ⟨dy, gs, hb', m1, _⟩ := hb.ins
      refine ⟨_, rfl, ?_⟩
      refine ⟨_, _, .ref (clsK c k'), _, true, rfl, .own _, ?_, ?_, ?_⟩
      · cases k' with
        | any => exact .base (A.ty_AnyWord hb')
        | of ws => exact .base (A.ty_OneOf hb')
        | num lo hi => exact .base (A.ty_Number hb')
      · cases k' with
        | any => exact A.isa_AnyWord_Kind
        | of ws => exact A.isa_OneOf_Kind
        | num lo hi => exact A.isa_Number_Kind
      · refine ⟨_, rfl, iteT ?_⟩
        refine ⟨_, rfl, a, _, dx, fs, _, rfl, ha, l1, mt_text A k, rfl, a, rfl, hk, hok, fun H1 S1 => ?_⟩
        refine ⟨_, rfl, b, _, dy, gs, _, rfl, S1 _ _ hb', m1, mt_text A k', rfl, b, rfl, hb.same S1, hok', fun H2 S2 => ?_⟩
        refine ⟨rfl, ?_⟩
        exact q _ (S1.trans S2)
end
section
variable {P : Program} {w : World} {K : PySem.W.Frag} {mg : Str → Option Value} {base : Heap} {c : Cs}
/-! #### numbers within bounds -/
def numbD : PyData → Bool | .int _ => true | _ => false
theorem numb_eq : ∀ d, numbD d = (isInt d && !isBool d) | .none => rfl | .bool _ => rfl | .int _ => rfl | .str _ => rfl | .list _ => rfl | .tuple _ => rfl | .dict _ => rfl
theorem sc_is_number : FnScope ["value"] ["value"] (defScope s_is_number) := ⟨rfl, rfl, rfl, by decide +kernel, rfl, by decide +kernel, by decide +kernel⟩
theorem o_is_number (D : Df K mg "is_number" s_is_number) (T : Txt mg) : Okd P w K mg base CX0 1 "is_number" s_is_number ["value"] (spPred K numbD) := by
  refine ok_mk D sc_is_number (fun vs H Q E h => ?_) (fun f cdv A outer s H vs Q E hr h => ?_)
  · obtain ⟨v, d, n, rfl, _⟩ := h; rfl
  · obtain ⟨v, d, n, rfl, hv, hd, k⟩ := h
    rw [numb_eq] at k
    refine ⟨_, (pss_one (ps_ret (pe_and (pe_callB call_isi (by rfl) T.b_isinstance (by decide +kernel) (pa_cons (pv 0) (pa_cons (pe_bltn (v := .ty "int") (by rfl) T.b_int (by decide +kernel) rfl) pa_nil))) (pe_one (pe_not (pe_callB call_isi (by rfl) T.b_isinstance (by decide +kernel) (pa_cons (pv 0) (pa_cons (pe_bltn (v := .ty "bool") (by rfl) T.b_bool (by decide +kernel) rfl) pa_nil)))))))), ?_⟩
    refine ⟨_, rfl, ?_⟩
    refine ⟨_, _, _, _, _, rfl, .ty _, hv.tyT, kit_ty (kit_int d), ?_⟩
    refine ⟨_, rfl, ?_⟩
    cases hi : isInt d with
    | false =>
      rw [hi] at k
      exact iteF (k _ (Same.refl _))
    | true =>
      rw [hi] at k
      refine iteT ⟨_, rfl, _, _, _, _, _, rfl, .ty _, hv.tyT, kit_ty (kit_bool d), _, rfl, ?_⟩
      exact k _ (Same.refl _)
def betD (d : PyData) (lo hi : Int) : Bool := match d with | .int i => decide (lo ≤ i) && decide (i ≤ hi) | _ => false
def spBet (K : PySem.W.Frag) : Sp := fun vs H Q _ => ∃ v d n lo hi, vs = [v, .int lo, .int hi] ∧ Dp K H v d ∧ dok n d = true ∧ ∀ H', Same H H' → Q (.bl (betD d lo hi)) H'
theorem sc_is_between : FnScope ["value", "least", "most"] ["value", "least", "most"] (defScope s_is_between) := ⟨rfl, rfl, rfl, by decide +kernel, rfl, by decide +kernel, by decide +kernel⟩
theorem o_is_between (D : Df K mg "is_between" s_is_between) (T : Txt mg) (c_is_number : Cl P w K mg base CX0 1 "is_number" (spPred K numbD) []) : Okd P w K mg base CX0 2 "is_between" s_is_between ["value", "least", "most"] (spBet K) := by
  refine ok_mk D sc_is_between (fun vs H Q E h => ?_) (fun f cdv A outer s H vs Q E hr h => ?_)
  · obtain ⟨v, d, n, lo, hi, rfl, _⟩ := h; rfl
  · obtain ⟨v, d, n, lo, hi, rfl, hv, hd, k⟩ := h
    refine ⟨_, (pss_one (ps_ret (pe_and (pe_c c_is_number hr (by decide) (by rfl) (pa_cons (pv 0) pa_nil)) (pe_one (pe_chain op_le op_le (pv 1) (pv 0) (pv 2)))))), ?_⟩
    refine ⟨_, rfl, v, d, n, rfl, hv, hd, fun H1 S1 => ⟨_, rfl, ?_⟩⟩
    cases hn : numbD d with
    | false =>
      have e : betD d lo hi = false := by cases d <;> first | rfl | cases hn
      rw [e] at k
      exact iteF (k _ S1)
    | true =>
      obtain ⟨i, rfl⟩ : ∃ i, d = .int i := by cases d <;> first | exact ⟨_, rfl⟩ | cases hn
      cases hv
      have k' : ∀ b, (decide (lo ≤ i) && decide (i ≤ hi)) = b → Q (.bl b) H1 := fun b e => e ▸ k _ S1
      refine iteT ⟨_, rfl, _, rfl, _, _, rfl, rfl, _, rfl, ?_⟩
      cases h1 : decide (lo ≤ i) with
      | false => exact iteF (k' _ (by rw [h1]; rfl))
      | true => exact iteT ⟨_, rfl, _, _, rfl, rfl, k' _ (by rw [h1]; rfl)⟩
/-! #### Number(low, high) -/
/-- all but a stays -/
def Oo (a : Addr) (H H' : Hp) : Prop := ∀ b o, b ≠ a → H b = some o → H' b = some o
theorem Oo.refl {a : Addr} {H : Hp} : Oo a H H := fun _ _ _ e => e
theorem Oo.same {a : Addr} {H H1 H2 : Hp} (h : Oo a H H1) (e : Same H1 H2) : Oo a H H2 := fun b o n q => e _ _ (h b o n q)
theorem Oo.put {a : Addr} {H H1 : Hp} {o : HO} (h : Oo a H H1) : Oo a H (upd H1 a o) := fun b u n q => by rw [upd_ne n]; exact h b u n q
def spNumI (K : PySem.W.Frag) (c : Cs) : Sp := fun vs H Q _ => ∃ (a dx : Addr) (lo hi : Int), vs = [.ref a, .int lo, .int hi] ∧ H a = some (.ins c.Number dx []) ∧ 0 ≤ lo ∧ lo ≤ hi ∧ hi ≤ 99999 ∧
  ∀ H', Oo a H H' → H' a = some (.ins c.Number dx [("low", .int lo), ("high", .int hi)]) → Q .non H'
theorem sc_Number___init__ : FnScope ["self", "low", "high"] ["self", "low", "high"] (defScope s_Number___init__) := ⟨rfl, rfl, rfl, by decide +kernel, rfl, by decide +kernel, by decide +kernel⟩
theorem f_Number_init (A : Alls K mg c) (c_is_between : Cl P w K mg base CX0 2 "is_between" (spBet K) []) : FnA P w K mg base CX0 3 c.Number___init__ [] (fun vs _ => spNumI K c vs) := by
  have T := A.T
  have n_Number := A.n_Number
  refine (fo_mk A.f_Number___init__ sc_Number___init__ (fun vs H Q E h => ?_) fun cdv A' outer s H vs Q E hr h => ?_).pos fun _ _ _ _ _ _ us hl => match us, hl with | [_, _, _], _ => rfl
  · obtain ⟨a, dx, lo, hi, rfl, _⟩ := h; rfl
  · obtain ⟨a, dx, lo, hi, rfl, ha, h0, h1, h2, q⟩ := h
    obtain ⟨mc, u, cr, cv⟩ := A.cv_Number_MOST
    refine ⟨_, (pss_cons (ps_if (pt_not (pt_val (pe_c c_is_between hr (by decide) (by rfl) (pa_cons (pv 1) (pa_cons pe_int (pa_cons (ClX.pe_cval (pe_glob (v := .ref c.Number) (by rfl) n_Number rfl)) pa_nil)))))) (pss_one ps_never) pss_nil)
  (pss_cons (ps_if (pt_not (pt_val (pe_c c_is_between hr (by decide) (by rfl) (pa_cons (pv 2) (pa_cons (pv 1) (pa_cons (ClX.pe_cval (pe_glob (v := .ref c.Number) (by rfl) n_Number rfl)) pa_nil)))))) (pss_one ps_never) pss_nil)
  (pss_cons (ps_fld (pv 0) (pv 1) rfl)
  (pss_one (ps_fld (pv 0) (pv 2) rfl))))), ?_⟩
    have b1 : betD (.int lo) 0 99999 = true := by
      show (decide ((0 : Int) ≤ lo) && decide (lo ≤ 99999)) = true
      rw [decide_eq_true h0, decide_eq_true (Int.le_trans h1 h2)]; rfl
    have b2 : betD (.int hi) lo 99999 = true := by
      show (decide (lo ≤ hi) && decide (hi ≤ 99999)) = true
      rw [decide_eq_true h1, decide_eq_true h2]; rfl
    refine ⟨_, rfl, c.Number, mc, .int 99999, u, rfl, cr, cv, ?_⟩
    refine ⟨.int lo, .int lo, 0, 0, 99999, rfl, .int lo, rfl, fun H1 S1 => ?_⟩
    rw [b1]
    refine ⟨_, rfl, iteF ?_⟩
    refine ⟨_, rfl, _, rfl, c.Number, mc, .int 99999, u, rfl, cr, cv, ?_⟩
    refine ⟨.int hi, .int hi, 0, lo, 99999, rfl, .int hi, rfl, fun H2 S2 => ?_⟩
    rw [b2]
    refine ⟨_, rfl, iteF ?_⟩
    refine ⟨_, rfl, _, rfl, a, c.Number, dx, [], rfl, S2 _ _ (S1 _ _ ha), A.cl_Number, A.na_Number_low, by show 0 < 1000; decide, ?_⟩
    refine ⟨_, rfl, _, rfl, a, c.Number, dx, _, rfl, upd_same, A.cl_Number, A.na_Number_high, by show 1 < 1000; decide, ?_⟩
    rw [upd_upd]
    refine q _ ?_ ?_
    · exact ((Oo.refl.same S1).same S2).put
    · rw [upd_same]; rfl
theorem mk_Number (A : Alls K mg c) (c_is_between : Cl P w K mg base CX0 2 "is_between" (spBet K) []) : MkA P w K mg base CX0 3 "Number" c.Number [] (fun vs _ => spNumI K c vs) :=
  ⟨⟨_, A.mk_Number, f_Number_init A c_is_between⟩, A.n_Number⟩
/-! #### OneOf(*words) -/
def spOneB (K : PySem.W.Frag) (c : Cs) : Sp := fun vs H Q _ => ∃ (a dx t : Addr) (ws : List Str), vs = [.ref a, .ref t] ∧ H a = some (.ins c.OneOf dx []) ∧ SqT K H t (ws.map V.str) ∧ a ≠ t ∧ 1 ≤ ws.length ∧ ws.length ≤ 6 ∧ ws.Nodup ∧ (∀ w ∈ ws, plainS w = true) ∧
  ∀ (ys : List Str) (u : Addr) (H' : Hp), ys.Perm ws → PyProof.Rows.sortedS ys = true → Oo a H H' → H' a = some (.ins c.OneOf dx [("own_words", .ref u)]) → SqT K H' u (ys.map V.str) → Q .non H'
theorem plain_word {z : Str} (h : plainS z = true) : wordS z = true := by
  unfold plainS at h
  rw [Bool.and_eq_true] at h
  exact h.1
theorem notIn_take {ws : List Str} (hn : ws.Nodup) {i : Nat} {z : Str} (hz : ws[i]? = some z) : inV (.str z) ((ws.take i).map V.str) = false := by
  cases e : inV (.str z) ((ws.take i).map V.str) with
  | false => rfl
  | true =>
    exfalso
    unfold inV at e
    rw [List.any_map, List.any_eq_true] at e
    obtain ⟨y, hy, ey⟩ := e
    have ey' : y = z := by
      have : eqV (.str y) (.str z) = true := ey
      simpa [eqV] using this
    subst ey'
    obtain ⟨j, hj⟩ := List.mem_iff_getElem?.mp hy
    rw [List.getElem?_take] at hj
    split at hj
    · rename_i hlt
      have h1 := (List.getElem?_eq_some_iff.mp hj)
      have h2 := (List.getElem?_eq_some_iff.mp hz)
      exact (List.pairwise_iff_getElem.mp hn) j i h1.1 h2.1 hlt (by rw [h1.2, h2.2])
    · cases hj
theorem sc_OneOf___init__ : FnScope ["self", "words", "at", "word"] ["self", "words"] (defScope s_OneOf___init__) := ⟨rfl, rfl, rfl, by decide +kernel, rfl, by decide +kernel, by decide +kernel⟩
theorem f_OneOf_init (A : Alls K mg c) (c_is_plain : Cl P w K mg base CX0 2 "is_plain" (spPred K plainD) []) :
    FnA P w K mg base CX0 3 c.OneOf___init__ [] (fun vs _ H Q E => ∃ ws rest, vs = ws ++ rest ∧ ws.length = 1 ∧ rest.length ≤ sizeLine ∧ ∀ p, H p = Option.none → spOneB K c (ws ++ [V.ref p]) (upd H p (.tup rest)) Q E) := by
  have T := A.T
  have GC := A.GC
  refine fo_star0 (ps := ["self"]) (pv := "words") (sp := spOneB K c) A.f_OneOf___init__ sc_OneOf___init__ (fun kV doc pm an cdv ct us rest hl => match us, hl, rest with | [_], _, [] => rfl | [_], _, _ :: _ => rfl) fun cdv A' outer s H vs Q E hr h => ?_
  obtain ⟨a, dx, t, ws, rfl, ha, ht, hat, hl1, hl2, hnd, hpl, q⟩ := h
  refine ⟨_, ((pss_cons (ps_if (pt_not (pt_chain op_le op_le pe_int (pe_callB call_len_seq (by rfl) T.b_len (by decide +kernel) (pa_cons (pv 1) pa_nil)) (C8.pe_gc (by rfl) GC.g_MOST_WORDS))) (pss_one ps_never) pss_nil)
  (Evl.pss_cut (ps_for PassesOwn.never rfl (pi_enumT (by rfl) T.b_enumerate (pa_cons (pv 1) pa_nil)) (pg_tup rfl (pgs_cons (pg_name (i := 2) sc_OneOf___init__.nd rfl (by first | exact Or.inl rfl | exact Or.inr rfl)) (pgs_cons (pg_name (i := 3) sc_OneOf___init__.nd rfl (by first | exact Or.inl rfl | exact Or.inr rfl)) pgs_nil)))
  (pss_one (ps_if (PW.pt (pw_or (pt_not (pt_val (pe_c c_is_plain hr (by decide) (by rfl) (pa_cons (pv 3) pa_nil)))) (pw_or1 (pt_cmpR op_in_seq (pv 3) (pe_slice sl_tup (pv 1) po_none (po_some (pv 2))) (by rfl))))) (pss_one ps_never) pss_nil)))
  (pss_one (ps_fld (pv 0) (pe_callTy call_tuple_of (by rfl) T.b_tuple (by decide +kernel) (pa_cons (pe_callB cr_sortedS (by rfl) T.b_sorted (by decide +kernel) (pa_cons (pe_callTy call_list_of (by rfl) T.b_list (by decide +kernel) (pa_cons (pv 1) pa_nil)) pa_nil)) pa_nil)) rfl))))), ?_⟩
  have hlen : (ws.map V.str).length = ws.length := List.length_map ..
  have c1 : decide ((1 : Int) ≤ ((ws.map V.str).length : Int)) = true := decide_eq_true (by rw [hlen]; omega)
  have c2 : decide (((ws.map V.str).length : Int) ≤ 6) = true := decide_eq_true (by rw [hlen]; omega)
  refine ⟨_, rfl, t, _, rfl, .inr ht, _, _, rfl, rfl, _, rfl, ?_⟩
  rw [c1]
  refine iteT ⟨_, _, rfl, rfl, _, rfl, ?_⟩
  rw [c2]
  refine iteF ?_
  refine ⟨fun σ' H' => (∃ x y, σ' = [some (.ref a), some (.ref t), x, y]) ∧ Same H H', ?_, ?_⟩
  · refine ⟨_, rfl, t, _, rfl, ht, for_enumT (xs := ws.map V.str) (fun i σ' H' => (∃ x y, σ' = [some (.ref a), some (.ref t), x, y]) ∧ Same H H') ⟨⟨none, none, rfl⟩, Same.refl _⟩ (fun i σ' H' h => Same.seqTT h.2 ht) ?_ fun σ' H' h => h⟩
    rintro i x T1 σ' H' hx ⟨⟨y1, y2, rfl⟩, S⟩ hT1
    obtain ⟨z, hz, rfl⟩ : ∃ z, ws[i]? = some z ∧ x = .str z := by
      rw [List.getElem?_map] at hx
      cases e : ws[i]? with
      | none => rw [e] at hx; cases hx
      | some z => rw [e] at hx; injection hx with hx; exact ⟨z, rfl, hx.symm⟩
    have hzm := List.mem_of_getElem? hz
    have hzp := hpl z hzm
    have hzl := wordS_len (plain_word hzp)
    have S1 : Same H (upd H' T1 (.tup [.int (i : Nat), .str z])) := S.trans (Same.newT hT1)
    refine ⟨T1, _, rfl, SqT.of upd_same, rfl, _, _, rfl, _, _, rfl, rfl, ?_⟩
    refine ⟨_, rfl, .str z, .str z, 0, rfl, .str z, decide_eq_true (Nat.le_trans hzl (by decide)), fun H2 S2 => ?_⟩
    have e1 : plainD (.str z) = true := hzp
    rw [e1]
    refine ⟨_, rfl, iteF ?_⟩
    have hi : i < ws.length := (List.getElem?_eq_some_iff.mp hz).1
    have ix : HT.sIx (ws.map V.str).length (ws.map V.str).length (some (i : Int)) = i := by
      rw [hlen]
      show (if (i : Int) < 0 then ((i : Int) + (ws.length : Int)).toNat else min ((i : Int).toNat) ws.length) = i
      rw [if_neg (by omega), Int.toNat_natCast]
      omega
    refine ⟨_, rfl, _, rfl, _, rfl, _, rfl, t, _, rfl, Same.seqTT (S1.trans S2) ht, ?_, fun p hp => ?_⟩
    · rintro ⟨_, e⟩
      rw [ix, hlen] at e
      omega
    have ev : cutV (ws.map V.str) none (some (i : Int)) = (ws.take i).map V.str := by
      unfold cutV
      rw [ix]
      show List.take (i - 0) (List.drop 0 _) = _
      rw [Nat.sub_zero, List.drop_zero, List.map_take]
    rw [ev]
    refine ⟨p, _, rfl, .inr (SqT.of upd_same), rfl, ?_, ?_⟩
    · rw [List.all_map]; exact List.all_eq_true.mpr fun x _ => rfl
    rw [notIn_take hnd hz]
    refine ⟨_, rfl, iteF ?_⟩
    exact ⟨⟨_, _, rfl⟩, (S1.trans S2).trans (Same.newT hp)⟩
  · rintro σ' H' ⟨⟨y1, y2, rfl⟩, S⟩
    refine ⟨_, rfl, t, _, rfl, .inr (Same.seqTT S ht), fun l hl => ?_⟩
    refine ⟨l, ws, rfl, SqL.of upd_same, by omega, fun ys p hperm hsort hp => ?_⟩
    refine ⟨p, _, rfl, .inl ⟨SqL.of upd_same, fun u hu => ?_⟩⟩
    have S1 := ((S.trans (Same.newT (o := .lst (ws.map V.str)) hl)).trans (Same.newT (o := .lst (ys.map V.str)) hp)).trans (Same.newT (o := .tup (ys.map V.str)) hu)
    refine ⟨_, rfl, a, c.OneOf, dx, [], rfl, S1 _ _ ha, A.cl_OneOf, A.na_OneOf_own_words, by show 0 < 1000; decide, ?_⟩
    have hau : a ≠ u := ne_of_none (((S.trans (Same.newT (o := .lst (ws.map V.str)) hl)).trans (Same.newT (o := .lst (ys.map V.str)) hp)) _ _ ha) hu
    refine q ys u _ hperm hsort ?_ ?_ ?_
    · exact (Oo.refl.same S1).put
    · rw [upd_same]; rfl
    · exact SqT.of (by rw [upd_ne hau.symm, upd_same])
/-- OneOf of plain words that differ -/
def spOne (K : PySem.W.Frag) (c : Cs) : Sp2 := fun vs _ H Q _ => ∃ (a dx : Addr) (ws : List Str), vs = .ref a :: ws.map V.str ∧ H a = some (.ins c.OneOf dx []) ∧ 1 ≤ ws.length ∧ ws.length ≤ 6 ∧ ws.Nodup ∧ (∀ w ∈ ws, plainS w = true) ∧
  ∀ (ys : List Str) (u : Addr) (H' : Hp), ys.Perm ws → PyProof.Rows.sortedS ys = true → Oo a H H' → H' a = some (.ins c.OneOf dx [("own_words", .ref u)]) → SqT K H' u (ys.map V.str) → Q .non H'
theorem mk_OneOf (A : Alls K mg c) (c_is_plain : Cl P w K mg base CX0 2 "is_plain" (spPred K plainD) []) : MkA P w K mg base CX0 3 "OneOf" c.OneOf [] (spOne K c) := by
  refine ⟨⟨_, A.mk_OneOf, (f_OneOf_init A c_is_plain).imp fun vs zs H Q E h => ?_⟩, A.n_OneOf⟩
  obtain ⟨a, dx, ws, rfl, ha, h1, h2, h3, h4, q⟩ := h
  refine ⟨[.ref a], ws.map V.str, rfl, rfl, ?_, fun p hp => ?_⟩
  · rw [List.length_map, sizeLine_eq]; omega
  · have hap : a ≠ p := ne_of_none ha hp
    exact ⟨a, dx, p, ws, rfl, by rw [upd_ne hap]; exact ha, SqT.of upd_same, hap, h1, h2, h3, h4, fun ys u H' e1 e2 e3 e4 e5 => q ys u H' e1 e2 (fun b o n e => e3 b o n (by rw [upd_ne (ne_of_none e hp)]; exact e)) e4 e5⟩
end
/-! ### _law_mixed: the items in some order -/
def spMixed (K : PySem.W.Frag) : Sp := fun vs H Q _ => ∃ (p l q : Addr) (ss : List Str), vs = [.ref p, .ref q] ∧ Feed H p l ∧ (SqL K (off H [p]) q (ss.map V.str) ∨ SqT K (off H [p]) q (ss.map V.str)) ∧ ss.length < 1000 ∧ (∀ z ∈ ss, PyData.strOk z = true) ∧
  ∀ (ys : List Str) (r : Addr) (H' : Hp), ys.Perm ss → Mv p l H H' → H r = none → H' r = some (.lst (ys.map V.str)) → Q (.ref r) H'
theorem canLay_strs : ∀ ss : List Str, (∀ z ∈ ss, PyData.strOk z = true) → PyData.canLayAll0 (ss.map PyData.str) = true
  | [], _ => by simp [PyData.canLayAll0]
  | n :: r, h => by simp [PyData.canLayAll0, PyData.canLay0, canLay_strs r fun z hz => h z (List.mem_cons_of_mem _ hz), h n (List.mem_cons_self ..)]
theorem depth_strs : ∀ ss : List Str, PyData.depthAll (ss.map PyData.str) ≤ 1
  | [] => by simp [PyData.depthAll]
  | n :: r => by
    have := depth_strs r
    simp only [List.map_cons, PyData.depthAll, PyData.depth]
    omega
theorem shaped_strs {ss : List Str} (h : ∀ z ∈ ss, PyData.strOk z = true) : SeqAt.shaped (.list (ss.map PyData.str)) = true := by
  have h1 := depth_strs ss
  have h2 : PyData.depth (.list (ss.map PyData.str)) ≤ 64 := by simp only [PyData.depth]; omega
  show (PyData.canLay0 (.list (ss.map PyData.str)) && decide (PyData.depth (.list (ss.map PyData.str)) ≤ 64)) = true
  rw [Bool.and_eq_true]
  exact ⟨by simp only [PyData.canLay0]; exact canLay_strs ss h, decide_eq_true h2⟩
theorem seqIx {r : Int} {n : Nat} (h0 : 0 ≤ r) (h1 : r < n) : seqIndex? r n = some r.toNat := by
  simp [seqIndex?, show ¬ r < 0 from by omega, h0, h1]
theorem eraseIdxM {α β : Type} (f : α → β) : ∀ (l : List α) (i : Nat), (l.map f).eraseIdx i = (l.eraseIdx i).map f
  | [], _ => rfl
  | _ :: _, 0 => rfl
  | x :: l, i + 1 => congrArg (f x :: ·) (eraseIdxM f l i)
theorem permErase {α : Type} : ∀ (l : List α) (i : Nat) (h : i < l.length), (l[i] :: l.eraseIdx i).Perm l
  | x :: l, 0, _ => List.Perm.refl _
  | x :: l, i + 1, h => (List.Perm.swap _ _ _).trans ((permErase l i (Nat.lt_of_succ_lt_succ h)).cons x)
section
variable {P : Program} {w : World} {K : PySem.W.Frag} {mg : Str → Option Value} {base : Heap}
theorem sc__law_mixed : FnScope ["_law_feed_here", "_law_some", "_law_row", "_law_found"] ["_law_feed_here", "_law_some"] (defScope s__law_mixed) := ⟨rfl, rfl, rfl, by decide +kernel, rfl, by decide +kernel, by decide +kernel⟩
theorem o__law_mixed (D : Df K mg "_law_mixed" s__law_mixed) (T : Txt mg) (c__law_take : Cl P w K mg base CX0 1 "_law_take" spTake []) : Cl P w K mg base CX0 2 "_law_mixed" (spMixed K) [] := by
  refine cal_mk D sc__law_mixed (fun _ _ _ _ _ _ us hl => match us, hl with | [_, _], _ => rfl) (fun vs H Q E h => ?_) (fun f cdv A outer s H vs Q E hr h => ?_)
  · obtain ⟨p, l, q, ss, rfl, _⟩ := h; rfl
  · obtain ⟨p, l, q, ss, rfl, hF, hq, hlen, hsok, k⟩ := h
    refine ⟨_, (pss_cons (ps_par (i := 2) (j := 3) (by rfl) sc__law_mixed.nd rfl rfl (by decide) rfl rfl (pa_cons (pe_callTy call_list_of (by rfl) T.b_list (by decide +kernel) (pa_cons (pv 1) pa_nil)) (pa_cons (pe_lst pa_nil) pa_nil)) (by rfl))
  (pss_cons (ps_while PassesOwn.never (pt_cmpR (op_neD hr.units) (pv 2) (pe_lst pa_nil) (nomark _)) (pss_one (ps_expr (pe_bm PySem.F.plainAttrs_list PySem.F.slot_list_append PySem.F.type_list_append mt_append (pv 3) (pa_cons (pe_bm PySem.F.plainAttrs_list PySem.F.slot_list_pop PySem.F.type_list_pop mt_popAt (pv 2) (pa_cons (pe_c c__law_take hr (by decide) (by rfl) (pa_cons (pv 0) (pa_cons (pe_callB call_len_seq (by rfl) T.b_len (by decide +kernel) (pa_cons (pv 2) pa_nil)) pa_nil))) pa_nil)) pa_nil)))))
  (pss_one (ps_ret (pv 3))))), ?_⟩
    refine ⟨_, rfl, q, _, rfl, (off_same H [p]).seqs hq, fun r1 h1 => ?_⟩
    refine ⟨by show 0 ≤ sizeLine; decide, fun r2 h2 => ?_⟩
    refine ⟨_, _, rfl, ?_⟩
    have n21 : r2 ≠ r1 := fun e => by rw [e, upd_same] at h2; cases h2
    have f2 : H r2 = none := by rw [upd_ne n21] at h2; exact h2
    have n1p : r1 ≠ p := fun e => hF.tk (e ▸ h1)
    have n1l : r1 ≠ l := fun e => hF.tkl (e ▸ h1)
    have n2p : r2 ≠ p := fun e => hF.tk (e ▸ f2)
    have n2l : r2 ≠ l := fun e => hF.tkl (e ▸ f2)
    refine while_by (fun σ' H' => ∃ rem acc : List Str, σ' = [some (.ref p), some (.ref q), some (.ref r1), some (.ref r2)] ∧ Mv p l H H' ∧ H' r1 = some (.lst (rem.map V.str)) ∧ H' r2 = some (.lst (acc.map V.str)) ∧ (acc ++ rem).Perm ss)
      (fun _ H' => match H' r1 with | some (.lst xs) => xs.length | _ => 0) ?_ ?_ ?_
    · refine ⟨ss, [], rfl, ((Mv.refl hF).mut h1 n1p n1l).mut f2 n2p n2l, by rw [upd_ne n21.symm, upd_same], upd_same, List.Perm.refl _⟩
    · rintro σ' H' ⟨rem, acc, rfl, m, e1, e2, perm⟩
      refine ⟨_, rfl, by show 0 ≤ sizeLine; decide, fun D hD => ?_⟩
      have S1 : Same H' (upd H' D (.lst [])) := Same.newT hD
      refine ⟨.list (rem.map PyData.str), .list [], .lst (SqL.of (S1 _ _ e1)) (DpAll.strsT rem), .lst (SqL.of upd_same) .nil, shaped_strs (fun z hz => hsok z (perm.mem_iff.mp (List.mem_append_right _ hz))), by decide +kernel, _, rfl, ?_⟩
      have m1 := m.same S1
      cases hrem : rem with
      | nil =>
        subst hrem
        refine iteF ?_
        refine ⟨_, rfl, k acc r2 _ (by simpa using perm) m1 f2 (S1 _ _ e2)⟩
      | cons z0 rem0 =>
        rw [← hrem]
        have hpos : 0 < rem.length := by rw [hrem]; exact Nat.succ_pos _
        have hle : rem.length ≤ ss.length := by
          have := perm.length_eq
          rw [List.length_append] at this
          omega
        have hbool : (!PyData.eqv (.list (rem.map PyData.str)) (.list [])) = true := by rw [hrem]; rfl
        rw [hbool]
        refine iteT ?_
        refine ⟨_, rfl, .inl ⟨rfl, _, SqL.of (S1 _ _ e2)⟩, ?_⟩
        refine ⟨_, rfl, .inl ⟨rfl, _, SqL.of (S1 _ _ e1)⟩, ?_⟩
        refine ⟨_, rfl, _, rfl, r1, _, rfl, .inl (SqL.of (S1 _ _ e1)), ?_⟩
        refine ⟨p, l, _, rfl, m1.2, by rw [List.length_map]; omega, by rw [List.length_map]; omega, fun i H2 i0 i1 m2 => ?_⟩
        rw [List.length_map] at i1
        have g1 := m2.1 r1 _ n1p (S1 _ _ e1)
        have g2 := m2.1 r2 _ n2p (S1 _ _ e2)
        have hi : i.toNat < rem.length := by omega
        have hy : (rem.map V.str)[i.toNat]? = some (.str (rem[i.toNat])) := by rw [List.getElem?_map, List.getElem?_eq_getElem hi]; rfl
        refine ⟨r1, _, i, i.toNat, _, rfl, rfl, g1, by omega, by omega, by rw [List.length_map]; exact seqIx i0 i1, hy, ?_⟩
        refine ⟨r2, _, _, rfl, rfl, by rw [upd_ne n21]; exact g2, ?_, ?_⟩
        · rw [List.length_map]
          have := perm.length_eq
          rw [List.length_append] at this
          have : sizeLine = 16777216 := sizeLine_eq
          omega
        · refine ⟨⟨rem.eraseIdx i.toNat, acc ++ [rem[i.toNat]], rfl, ?_, ?_, ?_, ?_⟩, ?_⟩
          · exact (((m1.trans m2).mut h1 n1p n1l).mut f2 n2p n2l)
          · rw [upd_ne n21.symm, upd_same, eraseIdxM]
          · rw [upd_same, List.map_append]; rfl
          · refine List.Perm.trans ?_ perm
            rw [List.append_assoc]
            exact List.Perm.append_left acc (permErase rem i.toNat hi)
          · show (match (upd _ r2 _) r1 with | some (.lst xs) => xs.length | _ => 0) < (match H' r1 with | some (.lst xs) => xs.length | _ => 0)
            rw [upd_ne n21.symm, upd_same, e1]
            show ((rem.map V.str).eraseIdx i.toNat).length < (rem.map V.str).length
            rw [List.length_eraseIdx]
            rw [List.length_map]
            rw [if_pos hi]
            omega
    · rintro σ' H' Q1 Q2 h ⟨v, e, sz, kk⟩
      exact ⟨v, e, sz, fun p hp => let ⟨d, e, h1, h2, h3, h4, b, eb, q⟩ := kk p hp; ⟨d, e, h1, h2, h3, h4, b, eb, h _ _ q⟩⟩
end
/-! ### drawn words and kinds -/
def menuW : List Str := ["a", "b", "on", "off", "5", "7", "12", "x-y", "a0", "007", "q9z", "0"]
theorem cut_to {xs : List V} {m : Int} (h0 : 0 ≤ m) (h1 : m ≤ xs.length) : cutV xs none (some m) = xs.take m.toNat := by
  unfold cutV
  have ix : HT.sIx xs.length xs.length (some m) = m.toNat := by
    show (if m < 0 then (m + (xs.length : Int)).toNat else min m.toNat xs.length) = m.toNat
    rw [if_neg (by omega)]
    omega
  rw [ix]
  show List.take (m.toNat - 0) (List.drop 0 xs) = _
  rw [Nat.sub_zero, List.drop_zero]
def spPlainW : Sp := fun vs H Q _ => ∃ (p l : Addr) (m : Int), vs = [.ref p, .int m] ∧ Feed H p l ∧ 0 ≤ m ∧ m ≤ 12 ∧
  ∀ (ys : List Str) (r : Addr) (H' : Hp), ys.Nodup → (∀ y ∈ ys, y ∈ menuW) → ys.length = m.toNat → Mv p l H H' → H r = none → H' r = some (.lst (ys.map V.str)) → Q (.ref r) H'
/-- the kinds that the law draws -/
def KindD.drawn : KindD → Prop
  | .any => True
  | .of ws => 1 ≤ ws.length ∧ ws.length ≤ 2 ∧ ws.Nodup ∧ (∀ y ∈ ws, y ∈ menuW) ∧ PyProof.Rows.sortedS ws = true
  | .num lo hi => lo ∈ [(0 : Int), 1, 5] ∧ hi ∈ [(5 : Int), 9, 99999]
def SortT (K : PySem.W.Frag) (H : Hp) (v : V) : KindD → Prop
  | .any => ∃ t, v = .ref t ∧ SqT K H t [.str "any"]
  | .of ws => ∃ t u, v = .ref t ∧ SqT K H t [.str "of", .ref u] ∧ SqT K H u (ws.map V.str)
  | .num lo hi => ∃ t, v = .ref t ∧ SqT K H t [.str "num", .int lo, .int hi]
theorem SortT.same {K : PySem.W.Frag} {H H' : Hp} {v : V} {k : KindD} (h : SortT K H v k) (e : Same H H') : SortT K H' v k := by
  cases k with
  | any => obtain ⟨t, h1, h2⟩ := h; exact ⟨t, h1, Same.seqTT e h2⟩
  | of ws => obtain ⟨t, u, h1, h2, h3⟩ := h; exact ⟨t, u, h1, Same.seqTT e h2, Same.seqTT e h3⟩
  | num lo hi => obtain ⟨t, h1, h2⟩ := h; exact ⟨t, h1, Same.seqTT e h2⟩
theorem SortT.on {K : PySem.W.Frag} {H : Hp} {S : List Addr} {v : V} {k : KindD} (h : SortT K (off H S) v k) : SortT K H v k := h.same (off_same H S)
theorem SortT.mv {K : PySem.W.Frag} {H H' : Hp} {p l : Addr} {S : List Addr} {v : V} {k : KindD} (h : SortT K (off H S) v k) (m : Mv p l H H') (hp : p ∈ S) : SortT K (off H' S) v k := h.same (m.off hp)
theorem menu_plain : ∀ y ∈ menuW, plainS y = true := by
  have h : menuW.all plainS = true := by decide +kernel
  exact List.all_eq_true.mp h
theorem menu_ok : ∀ y ∈ menuW, PyData.strOk y = true := by
  have h : menuW.all PyData.strOk = true := by decide +kernel
  exact List.all_eq_true.mp h
theorem menu_nodup : menuW.Nodup := by decide +kernel
theorem drawn_ok {k : KindD} (h : k.drawn) : k.ok := by
  cases k with
  | any => trivial
  | of ws => exact ⟨h.1, by have := h.2.1; omega, fun w hw => plain_word (menu_plain w (h.2.2.2.1 w hw))⟩
  | num lo hi =>
    obtain ⟨h1, h2⟩ := h
    simp only [List.mem_cons, List.not_mem_nil, or_false] at h1 h2
    rcases h1 with rfl | rfl | rfl <;> rcases h2 with rfl | rfl | rfl <;> exact ⟨by decide, by decide, by decide⟩
def spKind (K : PySem.W.Frag) : Sp := fun vs H Q _ => ∃ (p l : Addr), vs = [.ref p] ∧ Feed H p l ∧ ∀ (k : KindD) (v : V) (H' : Hp), k.drawn → SortT K (off H' [p]) v k → Mv p l H H' → Q v H'
theorem notp {H : Hp} {p l t : Addr} (F : Feed H p l) (h : H t = none) : t ∉ [p] := fun z => by
  rw [List.mem_singleton.mp z] at h; exact F.tk h
theorem menu_two : ∀ a ∈ menuW, ∀ b ∈ menuW, a ≠ b → PyProof.Rows.sortedS [a, b] = true → PyProof.Rows.sortedS [b, a] = false := by
  have h : (menuW.all fun a => menuW.all fun b => decide (a = b) || (!PyProof.Rows.sortedS [a, b] || !PyProof.Rows.sortedS [b, a])) = true := by decide +kernel
  intro a ha b hb hab hs
  have := List.all_eq_true.mp (List.all_eq_true.mp h a ha) b hb
  rw [decide_eq_false hab, hs] at this
  simpa using this
section
variable {P : Program} {w : World} {K : PySem.W.Frag} {mg : Str → Option Value} {base : Heap}
theorem sc__law_plain_words : FnScope ["_law_feed_here", "_law_many", "_law_menu"] ["_law_feed_here", "_law_many"] (defScope s__law_plain_words) := ⟨rfl, rfl, rfl, by decide +kernel, rfl, by decide +kernel, by decide +kernel⟩
theorem o__law_plain_words (D : Df K mg "_law_plain_words" s__law_plain_words) (T : Txt mg) (c__law_mixed : Cl P w K mg base CX0 2 "_law_mixed" (spMixed K) []) : Cl P w K mg base CX0 3 "_law_plain_words" spPlainW [] := by
  refine cal_mk D sc__law_plain_words (fun _ _ _ _ _ _ us hl => match us, hl with | [_, _], _ => rfl) (fun vs H Q E h => ?_) (fun f cdv A outer s H vs Q E hr h => ?_)
  · obtain ⟨p, l, m, rfl, _⟩ := h; rfl
  · obtain ⟨p, l, m, rfl, hF, h0, h1, k⟩ := h
    refine ⟨_, (pss_cons (ps_set (i := 2) sc__law_plain_words.nd rfl (by first | exact Or.inl rfl | exact Or.inr rfl) (pe_lst (pa_cons pe_str (pa_cons pe_str (pa_cons pe_str (pa_cons pe_str (pa_cons pe_str (pa_cons pe_str (pa_cons pe_str (pa_cons pe_str (pa_cons pe_str (pa_cons pe_str (pa_cons pe_str (pa_cons pe_str pa_nil))))))))))))))
  (pss_one (ps_ret (pe_slice sl_list (pe_c c__law_mixed hr (by decide) (by rfl) (pa_cons (pv 0) (pa_cons (pv 2) pa_nil))) po_none (po_some (pv 1)))))), ?_⟩
    refine ⟨by show 12 ≤ sizeLine; decide, fun M hM => ?_⟩
    have S1 : Same H (upd H M (.lst (menuW.map V.str))) := Same.newT hM
    refine ⟨_, rfl, _, rfl, p, l, M, menuW, rfl, hF.same S1, .inl (SqL.offT upd_same (notp hF hM)), by decide, menu_ok, fun ys r H2 hperm m2 hr2 hy => ?_⟩
    have hlen : ys.length = 12 := hperm.length_eq
    refine ⟨_, rfl, m, rfl, r, _, rfl, SqL.of hy, fun q hq => ?_⟩
    rw [cut_to h0 (by rw [List.length_map, hlen]; exact h1)]
    have M1 : Mv p l H (upd H2 q (.lst ((ys.map V.str).take m.toNat))) := ((Mv.of_same hF S1).trans m2).new hq
    refine k (ys.take m.toNat) q _ ?_ ?_ ?_ M1 ?_ (by rw [upd_same, List.map_take])
    · exact (hperm.nodup_iff.mpr menu_nodup).sublist (List.take_sublist ..)
    · exact fun y hy => hperm.mem_iff.mp (List.mem_of_mem_take hy)
    · rw [List.length_take]; omega
    · cases e : H q with
      | none => rfl
      | some o =>
        exfalso
        by_cases eq : q = p
        · subst eq; exact m2.2.tk hq
        · have := m2.1 q o eq (S1 _ _ e)
          rw [this] at hq; cases hq
theorem sc__law_kind : FnScope ["_law_feed_here", "_law_way"] ["_law_feed_here"] (defScope s__law_kind) := ⟨rfl, rfl, rfl, by decide +kernel, rfl, by decide +kernel, by decide +kernel⟩
theorem o__law_kind (D : Df K mg "_law_kind" s__law_kind) (T : Txt mg) (c__law_take : Cl P w K mg base CX0 1 "_law_take" spTake []) (c__law_of : Cl P w K mg base CX0 2 "_law_of" (spOf K) [])
    (c__law_plain_words : Cl P w K mg base CX0 3 "_law_plain_words" spPlainW []) : Cl P w K mg base CX0 4 "_law_kind" (spKind K) [] := by
  refine cal_mk D sc__law_kind (fun _ _ _ _ _ _ us hl => match us, hl with | [_], _ => rfl) (fun vs H Q E h => ?_) (fun f cdv A outer s H vs Q E hr h => ?_)
  · obtain ⟨p, l, rfl, _⟩ := h; rfl
  · obtain ⟨p, l, rfl, hF, k⟩ := h
    refine ⟨_, (pss_cons (ps_set (i := 1) sc__law_kind.nd rfl (by first | exact Or.inl rfl | exact Or.inr rfl) (pe_c c__law_take hr (by decide) (by rfl) (pa_cons (pv 0) (pa_cons pe_int pa_nil))))
  (pss_cons (ps_if (pt_cmpR op_lt (pv 1) pe_int (nomark _)) (pss_one (ps_ret (pe_ix ix_list (pe_lst (pa_cons (pe_tup (pa_cons pe_str pa_nil)) (pa_cons (pe_tup (pa_cons pe_str (pa_cons (pe_c c__law_of hr (by decide) (by rfl) (pa_cons (pv 0) (pa_cons (pe_lst (pa_cons pe_int (pa_cons pe_int (pa_cons pe_int pa_nil)))) pa_nil))) (pa_cons (pe_c c__law_of hr (by decide) (by rfl) (pa_cons (pv 0) (pa_cons (pe_lst (pa_cons pe_int (pa_cons pe_int (pa_cons pe_int pa_nil)))) pa_nil))) pa_nil)))) pa_nil))) (pv 1) (fun _ _ => rfl)))) pss_nil)
  (pss_one (ps_ret (pe_tup (pa_cons pe_str (pa_cons (pe_callTy call_tuple_of (by rfl) T.b_tuple (by decide +kernel) (pa_cons (pe_callB cr_sortedS (by rfl) T.b_sorted (by decide +kernel) (pa_cons (pe_c c__law_plain_words hr (by decide) (by rfl) (pa_cons (pv 0) (pa_cons (pe_op op_add pe_int (pe_c c__law_take hr (by decide) (by rfl) (pa_cons (pv 0) (pa_cons pe_int pa_nil)))) pa_nil))) pa_nil)) pa_nil)) pa_nil))))))), ?_⟩
    refine ⟨_, rfl, p, l, 4, rfl, hF, by decide, by decide, fun way H1 w0 w1 m1 => ?_⟩
    refine ⟨_, rfl, _, _, rfl, rfl, _, rfl, ?_⟩
    have mp : p ∈ [p] := List.mem_singleton.mpr rfl
    refine ite2 (fun hw => ?_) (fun hw => ?_)
    · have hw2 : way < 2 := of_decide_eq_true hw
      refine ⟨by show 1 ≤ sizeLine; decide, fun t1 ht1 => ?_⟩
      refine ⟨_, rfl, by show 3 ≤ sizeLine; decide, fun l1 hl1 => ?_⟩
      have m2 := (m1.new (o := .tup [.str "any"]) ht1).new (o := .lst [.int 0, .int 1, .int 5]) hl1
      have ft1 : H1 t1 = none := ht1
      refine ⟨p, l, .ref l1, rfl, m2.2, .inl ⟨l1, _, rfl, .inl (SqL.offT upd_same (notp (m1.new (o := .tup [.str "any"]) ht1).2 hl1)), by decide, by decide, fun x H2 hx m3 => ?_⟩⟩
      refine ⟨_, rfl, by show 3 ≤ sizeLine; decide, fun l2 hl2 => ?_⟩
      have m4 := (m2.trans m3).new (o := .lst [.int 5, .int 9, .int 99999]) hl2
      refine ⟨p, l, .ref l2, rfl, m4.2, .inl ⟨l2, _, rfl, .inl (SqL.offT upd_same (notp m3.2 hl2)), by decide, by decide, fun y H3 hy m5 => ?_⟩⟩
      refine ⟨by show 3 ≤ sizeLine; decide, fun t2 ht2 => ?_⟩
      refine ⟨by show 2 ≤ sizeLine; decide, fun L hL => ?_⟩
      have m6 := ((m4.trans m5).new (o := .tup [.str "num", x, y]) ht2).new (o := .lst [.ref t1, .ref t2]) hL
      have n1 : t1 ∉ [p] := notp m1.2 ft1
      have n2 : t2 ∉ [p] := notp m5.2 ht2
      have q1 : off (upd (upd H1 t1 (.tup [.str "any"])) l1 (.lst [.int 0, .int 1, .int 5])) [p] t1 = some (.tup [.str "any"]) := by
        rw [off_ne n1]; exact (Same.newT hl1) _ _ upd_same
      have q2 := (m3.off mp) _ _ q1
      have S4 : Same H2 (upd H2 l2 (.lst [.int 5, .int 9, .int 99999])) := Same.newT hl2
      have q3 := (m5.off mp) _ _ (S4.offT [p] _ _ q2)
      have S5 : Same H3 (upd H3 t2 (.tup [.str "num", x, y])) := Same.newT ht2
      have S6 : Same (upd H3 t2 (.tup [.str "num", x, y])) (upd (upd H3 t2 (.tup [.str "num", x, y])) L (.lst [.ref t1, .ref t2])) := Same.newT hL
      have q4 := (S6.offT [p]) _ _ (S5.offT [p] _ _ q3)
      have q5 := (S6.offT [p]) t2 (.tup [.str "num", x, y]) (by rw [off_ne n2]; exact upd_same)
      obtain ⟨xi, rfl, hxi⟩ : ∃ xi, x = .int xi ∧ xi ∈ [(0 : Int), 1, 5] := by
        simp only [List.mem_cons, List.not_mem_nil, or_false] at hx
        rcases hx with rfl | rfl | rfl <;> exact ⟨_, rfl, by decide⟩
      obtain ⟨yi, rfl, hyi⟩ : ∃ yi, y = .int yi ∧ yi ∈ [(5 : Int), 9, 99999] := by
        simp only [List.mem_cons, List.not_mem_nil, or_false] at hy
        rcases hy with rfl | rfl | rfl <;> exact ⟨_, rfl, by decide⟩
      rcases (show way = 0 ∨ way = 1 by omega) with rfl | rfl
      · exact ⟨_, rfl, L, _, 0, _, rfl, rfl, SqL.of upd_same, rfl, k .any _ _ trivial ⟨t1, rfl, SqT.of q4⟩ m6⟩
      · exact ⟨_, rfl, L, _, 1, _, rfl, rfl, SqL.of upd_same, rfl, k (.num xi yi) _ _ ⟨hxi, hyi⟩ ⟨t2, rfl, SqT.of q5⟩ m6⟩
    · refine ⟨_, rfl, _, rfl, p, l, 2, rfl, m1.2, by decide, by decide, fun d H2 d0 d1 m2 => ?_⟩
      refine ⟨_, _, rfl, rfl, p, l, 1 + d, rfl, m2.2, by omega, by omega, fun ys r H3 hnd hmem hlen m3 hr3 hy => ?_⟩
      refine ⟨r, ys, rfl, SqL.of hy, by omega, fun zs q hperm hsort hq => ?_⟩
      refine ⟨q, _, rfl, .inl ⟨SqL.of upd_same, fun u hu => ?_⟩⟩
      refine ⟨by show 2 ≤ sizeLine; decide, fun t ht => ?_⟩
      have m4 := ((m1.trans m2).trans m3).new (o := .lst (zs.map V.str)) hq
      have m5 := m4.new (o := .tup (zs.map V.str)) hu
      have m6 := m5.new (o := .tup [.str "of", .ref u]) ht
      have nu := notp m4.2 hu
      have nt := notp m5.2 ht
      refine k (.of zs) _ _ ⟨?_, ?_, hperm.nodup_iff.mpr hnd, fun y hy => hmem y (hperm.mem_iff.mp hy), hsort⟩ ⟨t, u, rfl, SqT.of (by rw [off_ne nt]; exact upd_same), SqT.of (by rw [off_ne nu]; exact (Same.newT ht) _ _ upd_same)⟩ m6
      · rw [hperm.length_eq, hlen]; omega
      · rw [hperm.length_eq, hlen]; omega
end
/-! ### kinds made, and asked by the law -/
theorem s_aa : decide (V.str "any" = V.str "any") = true := by decide +kernel
theorem s_na : decide (V.str "num" = V.str "any") = false := by decide +kernel
theorem s_oa : decide (V.str "of" = V.str "any") = false := by decide +kernel
theorem s_nn : decide (V.str "num" = V.str "num") = true := by decide +kernel
theorem s_on : decide (V.str "of" = V.str "num") = false := by decide +kernel
theorem s_ao : decide (V.str "any" = V.str "of") = false := by decide +kernel
theorem s_no : decide (V.str "num" = V.str "of") = false := by decide +kernel
theorem s_oo : decide (V.str "of" = V.str "of") = true := by decide +kernel
theorem iteTk {b : Bool} {A B : Prop} (h : b = true) (q : A) : if b = true then A else B := by rw [if_pos h]; exact q
theorem iteFk {b : Bool} {A B : Prop} (h : b = false) (q : B) : if b = true then A else B := by rw [if_neg (by rw [h]; decide)]; exact q
def SortO (K : PySem.W.Frag) (H : Hp) (v : V) : Option KindD → Prop
  | none => v = .non
  | some k => k.drawn ∧ SortT K H v k
def KindO (K : PySem.W.Frag) (c : Cs) (H : Hp) (v : V) : Option KindD → Prop
  | none => v = .non
  | some k => ∃ a, v = .ref a ∧ IsKind K c H a k
theorem KindO.same {K : PySem.W.Frag} {c : Cs} {H H' : Hp} {v : V} {o : Option KindD} (h : KindO K c H v o) (e : Same H H') : KindO K c H' v o := by
  cases o with
  | none => exact h
  | some k => obtain ⟨a, h1, h2⟩ := h; exact ⟨a, h1, h2.same e⟩
def spReadyK (K : PySem.W.Frag) (c : Cs) : Sp := fun vs H Q _ => ∃ (v : V) (o : Option KindD), vs = [v] ∧ SortO K H v o ∧ ∀ (r : V) (H' : Hp), Same H H' → KindO K c H' r o → Q r H'
/-- an instance made: the rest stays -/
theorem made_same {H H' : Hp} {a dx : Addr} {o : HO} (ha : H a = none) (hd : H dx = none) (h : Oo a (upd (upd H dx (.own a)) a o) H') : Same H H' := fun b u e => h b u (ne_of_none e ha) (by rw [upd_ne (ne_of_none e ha), upd_ne (ne_of_none e hd)]; exact e)
theorem one_two {ws : List Str} (h1 : 1 ≤ ws.length) (h2 : ws.length ≤ 2) : (∃ a, ws = [a]) ∨ ∃ a b, ws = [a, b] := by
  match ws, h1, h2 with
  | [a], _, _ => exact .inl ⟨a, rfl⟩
  | [a, b], _, _ => exact .inr ⟨a, b, rfl⟩
theorem two_words {a b : Str} {ys : List Str} (hm : ∀ y ∈ [a, b], y ∈ menuW) (hn : [a, b].Nodup) (hs : PyProof.Rows.sortedS [a, b] = true) (hp : ys.Perm [b, a]) (hy : PyProof.Rows.sortedS ys = true) : ys = [a, b] := by
  have hab : a ≠ b := by
    intro e; rw [e] at hn; simp at hn
  have hl : ys.length = 2 := hp.length_eq
  match ys, hl with
  | [x, y], _ =>
    have hx : x ∈ [b, a] := hp.mem_iff.mp (List.mem_cons_self ..)
    have hy' : y ∈ [b, a] := hp.mem_iff.mp (List.mem_cons_of_mem _ (List.mem_cons_self ..))
    have hnd : [x, y].Nodup := hp.nodup_iff.mpr (by simpa using fun e : b = a => hab e.symm)
    have hxy : x ≠ y := by
      intro e; rw [e] at hnd; simp at hnd
    simp only [List.mem_cons, List.not_mem_nil, or_false] at hx hy'
    rcases hx with rfl | rfl <;> rcases hy' with rfl | rfl
    · exact absurd rfl hxy
    · have := menu_two y (hm _ (by simp)) x (hm _ (by simp)) hab hs
      rw [this] at hy; cases hy
    · rfl
    · exact absurd rfl hxy
def spFitsL (K : PySem.W.Frag) : Sp := fun vs H Q _ => ∃ (v : V) (k : KindD) (z : Str) (o : Bool), vs = [v, .str z, .bl o] ∧ k.drawn ∧ SortT K H v k ∧ wordS z = true ∧ ∀ H', Same H H' → Q (.bl (fitsK k (.str z) o)) H'
def spNumL (K : PySem.W.Frag) : Sp := fun vs H Q _ => ∃ (z : Str), vs = [.str z] ∧ wordS z = true ∧ ∀ H', Same H H' → Q (.bl (numS z)) H'
section
variable {P : Program} {w : World} {K : PySem.W.Frag} {mg : Str → Option Value} {base : Heap} {c : Cs}
theorem sc__law_ready_kind : FnScope ["_law_sort_z", "_law_row"] ["_law_sort_z"] (defScope s__law_ready_kind) := ⟨rfl, rfl, rfl, by decide +kernel, rfl, by decide +kernel, by decide +kernel⟩
theorem o__law_ready_kind (A : Alls K mg c) (m_Number : MkA P w K mg base CX0 3 "Number" c.Number [] (fun vs _ => spNumI K c vs)) (m_OneOf : MkA P w K mg base CX0 3 "OneOf" c.OneOf [] (spOne K c)) :
    Cl P w K mg base CX0 5 "_law_ready_kind" (spReadyK K c) [] := by
  have T := A.T
  have m_AnyWord := A.m_AnyWord
  refine cal_mk A.d__law_ready_kind sc__law_ready_kind (fun _ _ _ _ _ _ us hl => match us, hl with | [_], _ => rfl) (fun vs H Q E h => ?_) (fun f cdv A' outer s H vs Q E hr h => ?_)
  · obtain ⟨v, o, rfl, _⟩ := h; rfl
  · obtain ⟨v, o, rfl, hv, q⟩ := h
    refine ⟨_, (pss_cons (ps_if (pt_cmpR op_isN (pv 0) pe_non (nomark _)) (pss_one (ps_ret pe_non)) pss_nil)
  (pss_cons (ps_if (pt_cmpR op_eq (pe_ix ix_tup (pv 0) pe_int (fun _ _ => rfl)) pe_str (nomark _)) (pss_one (ps_ret (pe_make00 m_AnyWord (by rfl)))) pss_nil)
  (pss_cons (ps_if (pt_cmpR op_eq (pe_ix ix_tup (pv 0) pe_int (fun _ _ => rfl)) pe_str (nomark _)) (pss_one (ps_ret (pe_makeA (E := E0) m_Number hr (by decide) pass0 (by rfl) (pa_cons (pe_ix ix_tup (pv 0) pe_int (fun _ _ => rfl)) (pa_cons (pe_ix ix_tup (pv 0) pe_int (fun _ _ => rfl)) pa_nil)) pk_nil))) pss_nil)
  (pss_cons (ps_set (i := 1) sc__law_ready_kind.nd rfl (by first | exact Or.inl rfl | exact Or.inr rfl) (pe_ix ix_tup (pv 0) pe_int (fun _ _ => rfl)))
  (pss_one (ps_ret (pe_ifExp (pt_cmpR op_eq (pe_callB call_len_seq (by rfl) T.b_len (by decide +kernel) (pa_cons (pv 1) pa_nil)) pe_int (nomark _)) (pe_makeA (E := E0) m_OneOf hr (by decide) pass0 (by rfl) (pa_cons (pe_ix ix_tup (pv 1) pe_int (fun _ _ => rfl)) pa_nil) pk_nil) (pe_makeA (E := E0) m_OneOf hr (by decide) pass0 (by rfl) (pa_cons (pe_ix ix_tup (pv 1) pe_int (fun _ _ => rfl)) (pa_cons (pe_ix ix_tup (pv 1) pe_int (fun _ _ => rfl)) pa_nil)) pk_nil)))))))), ?_⟩
    refine ⟨_, rfl, rfl, _, rfl, ?_⟩
    cases o with
    | none =>
      cases hv
      exact iteT (q _ _ (Same.refl _) rfl)
    | some k =>
      obtain ⟨hd, hv⟩ := hv
      cases k with
      | any =>
        obtain ⟨t, rfl, ht⟩ := hv
        refine iteF ⟨_, rfl, t, _, 0, _, rfl, rfl, ht, rfl, rfl, _, rfl, iteTk s_aa ?_⟩
        intro x dx hx hdx ne
        exact q _ _ ((Same.newT hdx).trans (Same.newT (by rw [upd_ne ne.symm]; exact hx))) ⟨x, rfl, dx, upd_same⟩
      | num lo hi =>
        obtain ⟨t, rfl, ht⟩ := hv
        refine iteF ⟨_, rfl, t, _, 0, _, rfl, rfl, ht, rfl, rfl, _, rfl, iteFk s_na ?_⟩
        refine ⟨_, rfl, t, _, 0, _, rfl, rfl, ht, rfl, rfl, _, rfl, iteTk s_nn ?_⟩
        refine ⟨_, rfl, t, _, 1, _, rfl, rfl, ht, rfl, _, rfl, t, _, 2, _, rfl, rfl, ht, rfl, rfl, fun x dx hx hdx ne => ?_⟩
        have hok : 0 ≤ lo ∧ lo ≤ hi ∧ hi ≤ 99999 := drawn_ok hd
        refine ⟨x, dx, lo, hi, rfl, upd_same, hok.1, hok.2.1, hok.2.2, fun H' hO hx' => ⟨rfl, ?_⟩⟩
        exact q _ _ (made_same hx hdx hO) ⟨x, rfl, dx, hx'⟩
      | of ws =>
        obtain ⟨t, u, rfl, ht, hu⟩ := hv
        refine iteF ⟨_, rfl, t, _, 0, _, rfl, rfl, ht, rfl, rfl, _, rfl, iteFk s_oa ?_⟩
        refine ⟨_, rfl, t, _, 0, _, rfl, rfl, ht, rfl, rfl, _, rfl, iteFk s_on ?_⟩
        refine ⟨_, rfl, t, _, 1, _, rfl, rfl, ht, rfl, ?_⟩
        obtain ⟨h1, h2, h3, h4, h5⟩ := hd
        refine ⟨_, rfl, u, _, rfl, .inr hu, rfl, _, rfl, ?_⟩
        obtain ⟨a, rfl⟩ | ⟨a, b, rfl⟩ := one_two h1 h2
        · refine iteT ⟨_, rfl, u, _, 0, _, rfl, rfl, hu, rfl, rfl, fun x dx hx hdx ne => ?_⟩
          refine ⟨x, dx, [a], rfl, upd_same, Nat.le_refl 1, by show 1 ≤ 6; decide, by simp, fun w hw => menu_plain w (h4 w hw), fun ys v H' e1 e2 e3 e4 e5 => ⟨rfl, ?_⟩⟩
          have ey : ys = [a] := List.perm_singleton.mp e1
          subst ey
          exact q _ _ (made_same hx hdx e3) ⟨x, rfl, dx, v, e4, e5⟩
        · refine iteF ⟨_, rfl, u, _, 1, _, rfl, rfl, hu, rfl, _, rfl, u, _, 0, _, rfl, rfl, hu, rfl, rfl, fun x dx hx hdx ne => ?_⟩
          have hab : b ≠ a := by
            intro e; rw [e] at h3; simp at h3
          refine ⟨x, dx, [b, a], rfl, upd_same, by show 1 ≤ 2; decide, by show 2 ≤ 6; decide, by simp [hab], fun w hw => menu_plain w (h4 w (by simp at hw ⊢; exact hw.symm)), fun ys v H' e1 e2 e3 e4 e5 => ⟨rfl, ?_⟩⟩
          have ey : ys = [a, b] := two_words h4 h3 h5 e1 e2
          subst ey
          exact q _ _ (made_same hx hdx e3) ⟨x, rfl, dx, v, e4, e5⟩
theorem sc__law_is_num : FnScope ["_law_text", "_law_sign"] ["_law_text"] (defScope s__law_is_num) := ⟨rfl, rfl, rfl, by decide +kernel, rfl, by decide +kernel, by decide +kernel⟩
theorem o__law_is_num (D : Df K mg "_law_is_num" s__law_is_num) (T : Txt mg) : Cl P w K mg base CX0 1 "_law_is_num" (spNumL K) [] := by
  refine cal_mk D sc__law_is_num (fun _ _ _ _ _ _ us hl => match us, hl with | [_], _ => rfl) (fun vs H Q E h => ?_) (fun f cdv A' outer s H vs Q E hr h => ?_)
  · obtain ⟨z, rfl, _⟩ := h; rfl
  · obtain ⟨z, rfl, hw, q⟩ := h
    refine ⟨_, (pss_cons (ps_if (PW.pt (pw_or (pt_cmpR op_eq (pv 0) pe_str (nomark _)) (pw_or1 (pt_not (pt_val (pe_callB (cr_all rfl) (by rfl) T.b_all (by decide +kernel) (pa_cons (pe_lc (own := [("_law_sign", 1)]) (g := gName 1) (tt := tYes) (by rfl) sc__law_is_num.nd (pi_str (pv 0)) (blkOk_by (N := ["_law_text", "_law_sign"]) (sc := defScope s__law_is_num) (by decide +kernel)) (fun _ _ _ _ _ => (pg_name (i := 1) sc__law_is_num.nd rfl (Or.inl rfl))) (fun _ _ _ _ _ => pts_nil) (fun _ _ _ _ _ => (pe_cmpR op_in_sign (pv 1) pe_str (by rfl)))) pa_nil))))))) (pss_one (ps_ret pe_bl)) pss_nil)
  (pss_one (ps_ret (pe_or (pe_cmpR op_eq (pv 0) pe_str (nomark _)) (pe_one (pe_cmpR op_ne (pe_slice sl_str (pv 0) po_none (po_some pe_int)) pe_str (nomark _))))))), ?_⟩
    have hp := wordS_pos hw
    have hl := wordS_len hw
    have hz0 : decide (V.str z = V.str "") = false := by
      rw [dstr]
      refine decide_eq_false fun e => ?_
      rw [e] at hp
      exact absurd hp (by decide)
    have hz : z.length ≤ 100000 := Nat.le_trans hl (by decide)
    refine ⟨_, rfl, rfl, _, rfl, ?_⟩
    rw [hz0]
    refine iteF ⟨_, rfl, _, rfl, ?_⟩
    intro D hD
    refine lc_allIn _ hD hz (fun _ => rfl) (fun c H Q q => ⟨_, rfl, _, _, rfl, rfl, q⟩) (fun H2 S2 hl2 => ?_)
    refine ⟨D, _, rfl, SqL.of hl2, ?_⟩
    rw [all_id]
    have kk : ∀ b, (allIn z fig_ && (decide (z = "0") || !decide (headS z = "0"))) = b → Q (.bl b) H2 := fun b e => by
      have e2 : numS z = b := by unfold numS; rw [hw]; exact e
      exact e2 ▸ q _ S2
    refine ⟨_, rfl, ?_⟩
    cases h1 : allIn z "0123456789" with
    | false => exact iteT (kk _ (by rw [show allIn z fig_ = false from h1]; rfl))
    | true =>
      refine iteF ⟨_, rfl, rfl, _, rfl, ?_⟩
      cases h2 : decide (V.str z = V.str "0") with
      | true => exact iteT (kk _ (by rw [show allIn z fig_ = true from h1, ← dstr, h2]; rfl))
      | false =>
        refine iteF ⟨_, rfl, 1, rfl, z, rfl, Nat.le_trans hz (by decide), rfl, ?_⟩
        exact kk _ (by rw [show allIn z fig_ = true from h1, ← dstr, h2, ← dstr]; rfl)
theorem sc__law_fits : FnScope ["_law_sort_z", "_law_text", "_law_done"] ["_law_sort_z", "_law_text", "_law_done"] (defScope s__law_fits) := ⟨rfl, rfl, rfl, by decide +kernel, rfl, by decide +kernel, by decide +kernel⟩
theorem o__law_fits (D : Df K mg "_law_fits" s__law_fits) (T : Txt mg) (c__law_is_num : Cl P w K mg base CX0 1 "_law_is_num" (spNumL K) []) : Cl P w K mg base CX0 2 "_law_fits" (spFitsL K) [] := by
  refine cal_mk D sc__law_fits (fun _ _ _ _ _ _ us hl => match us, hl with | [_, _, _], _ => rfl) (fun vs H Q E h => ?_) (fun f cdv A' outer s H vs Q E hr h => ?_)
  · obtain ⟨v, k, z, o, rfl, _⟩ := h; rfl
  · obtain ⟨v, k, z, o, rfl, hd, hv, hw, q⟩ := h
    refine ⟨_, (pss_cons (ps_if (pt_cmpR op_eq (pe_ix ix_tup (pv 0) pe_int (fun _ _ => rfl)) pe_str (nomark _)) (pss_one (ps_ret (pe_or (pv 2) (pe_one (pe_cmpR op_ne (pe_slice sl_str (pv 1) po_none (po_some pe_int)) pe_str (nomark _)))))) pss_nil)
  (pss_cons (ps_if (pt_cmpR op_eq (pe_ix ix_tup (pv 0) pe_int (fun _ _ => rfl)) pe_str (nomark _)) (pss_one (ps_ret (pe_cmpR op_in_seq (pv 1) (pe_ix ix_tup (pv 0) pe_int (fun _ _ => rfl)) (by rfl)))) pss_nil)
  (pss_one (ps_ret (pe_and (pe_c c__law_is_num hr (by decide) (by rfl) (pa_cons (pv 1) pa_nil)) (pe_one (pe_chain op_le op_le (pe_ix ix_tup (pv 0) pe_int (fun _ _ => rfl)) (pe_callTy call_int_str (by rfl) T.b_int (by decide +kernel) (pa_cons (pv 1) pa_nil)) (pe_ix ix_tup (pv 0) pe_int (fun _ _ => rfl))))))))), ?_⟩
    have hl := wordS_len hw
    have hz : z.length ≤ 100000 := Nat.le_trans hl (by decide)
    cases k with
    | any =>
      obtain ⟨t, rfl, ht⟩ := hv
      refine ⟨_, rfl, t, _, 0, _, rfl, rfl, ht, rfl, rfl, _, rfl, iteTk s_aa ?_⟩
      have e : fitsK .any (.str z) o = (o || !decide (headS z = "-")) := by
        show (plainS z || (o && wordS z)) = _
        unfold plainS
        rw [hw]
        cases o <;> cases decide (headS z = "-") <;> rfl
      rw [e] at q
      refine ⟨_, rfl, _, rfl, ?_⟩
      cases o with
      | true => exact iteT (q _ (Same.refl _))
      | false =>
        refine iteF ⟨_, rfl, 1, rfl, z, rfl, Nat.le_trans hz (by decide), rfl, ?_⟩
        rw [dstr]
        exact q _ (Same.refl _)
    | of ws =>
      obtain ⟨t, u, rfl, ht, hu⟩ := hv
      refine ⟨_, rfl, t, _, 0, _, rfl, rfl, ht, rfl, rfl, _, rfl, iteFk s_oa ?_⟩
      refine ⟨_, rfl, t, _, 0, _, rfl, rfl, ht, rfl, rfl, _, rfl, iteTk s_oo ?_⟩
      refine ⟨_, rfl, _, rfl, t, _, 1, _, rfl, rfl, ht, rfl, u, _, rfl, .inr hu, rfl, ?_, ?_⟩
      · rw [List.all_map]; exact List.all_eq_true.mpr fun x _ => rfl
      · exact q _ (Same.refl _)
    | num lo hi =>
      obtain ⟨t, rfl, ht⟩ := hv
      refine ⟨_, rfl, t, _, 0, _, rfl, rfl, ht, rfl, rfl, _, rfl, iteFk s_na ?_⟩
      refine ⟨_, rfl, t, _, 0, _, rfl, rfl, ht, rfl, rfl, _, rfl, iteFk s_no ?_⟩
      refine ⟨_, rfl, z, rfl, hw, fun H1 S1 => ?_⟩
      have k' : ∀ b H', (numS z && (decide (lo ≤ numV z) && decide (numV z ≤ hi))) = b → Same H H' → Q (.bl b) H' := fun b H' e S => e ▸ q _ S
      refine ⟨_, rfl, ?_⟩
      cases hn : numS z with
      | false => exact iteF (k' _ _ (by rw [hn]; rfl) S1)
      | true =>
        have ht1 := Same.seqTT S1 ht
        refine iteT ⟨_, rfl, t, _, 1, _, rfl, rfl, ht1, rfl, _, rfl, z, numV z, rfl, numS_val hn, by omega, ?_⟩
        refine ⟨_, _, rfl, rfl, _, rfl, ?_⟩
        cases h1 : decide (lo ≤ numV z) with
        | false => exact iteF (k' _ _ (by rw [hn, h1]; rfl) S1)
        | true => exact iteT ⟨_, rfl, t, _, 2, _, rfl, rfl, ht1, rfl, _, _, rfl, rfl, k' _ _ (by rw [hn, h1]; rfl) S1⟩
end
/-! ### the law -/
def spLaw (K : PySem.W.Frag) : Sp := fun vs H Q _ => ∃ (a : Addr) (ns : List Int), vs = [.ref a] ∧ SqL K H a (ns.map V.int) ∧ ns.length ≤ 63 ∧ ∀ H', Q (.bl true) H'
def strsK : KindD → List Str
  | .any => []
  | .of ws => ws
  | .num lo hi => [Str.ofString (toString lo), Str.ofString (toString hi)]
def tailK : KindD → List V
  | .any => []
  | .of ws => ws.map V.str
  | .num lo hi => [.int lo, .int hi]
def nameK : KindD → Str
  | .any => "any"
  | .of _ => "of"
  | .num _ _ => "num"
theorem tail_at (k : KindD) (hk : k.ok) {i : Nat} {x : V} (h : (tailK k)[i]? = some x) : ∃ y, (strsK k)[i]? = some y ∧ (x = .str y ∨ ∃ n : Int, x = .int n ∧ y = Str.ofString (toString n) ∧ n.natAbs.log2 < 1920) := by
  cases k with
  | any => cases h
  | of ws =>
    have h' : (ws.map V.str)[i]? = some x := h
    rw [List.getElem?_map] at h'
    cases e : ws[i]? with
    | none => rw [e] at h'; cases h'
    | some y => rw [e] at h'; injection h' with h'; exact ⟨y, e, .inl h'.symm⟩
  | num lo hi =>
    obtain ⟨h0, h1, h2⟩ := hk
    match i, h with
    | 0, h => injection h with h; exact ⟨_, rfl, .inr ⟨lo, h.symm, rfl, small_log h0 (Int.le_trans h1 h2)⟩⟩
    | 1, h => injection h with h; exact ⟨_, rfl, .inr ⟨hi, h.symm, rfl, small_log (Int.le_trans h0 h1) h2⟩⟩
    | i + 2, h => cases h
theorem len_tail (k : KindD) : (tailK k).length = (strsK k).length := by
  cases k with
  | any => rfl
  | of ws => exact List.length_map ..
  | num lo hi => rfl
theorem shown_eq {k : KindD} (hk : k.drawn) : Txt.join " " (nameK k :: strsK k) = textK k := by
  cases k with
  | any => decide +kernel
  | of ws => rfl
  | num lo hi =>
    obtain ⟨h1, h2⟩ := hk
    simp only [List.mem_cons, List.not_mem_nil, or_false] at h1 h2
    rcases h1 with rfl | rfl | rfl <;> rcases h2 with rfl | rfl | rfl <;> decide +kernel
def extraW : List Str := ["-a", "--", "-9", "4", "8", "100000", "99999"]
theorem menu_word : ∀ y ∈ menuW ++ extraW, wordS y = true := by
  have h : (menuW ++ extraW).all wordS = true := by decide +kernel
  exact List.all_eq_true.mp h
def oddK (t1 t2 : Addr) : List V := [.non, .int 5, .str "", .str "A", .ref t1, .ref t2, .bl true, .str "a b"]
def oddD : List PyData := [.none, .int 5, .str "", .str "A", .tuple [.str "a"], .list [.str "5"], .bool true, .str "a b"]
theorem odd_no {k : KindD} (hk : k.drawn) : ∀ d ∈ oddD, ∀ o, fitsK k d o = false := by
  have h1 : oddD.all (fun d => !plainD d && !wordD d && !numD d) = true := by decide +kernel
  have h2 : (menuW.all fun y => !decide (y ∈ (["", "A", "a b"] : List Str))) = true := by decide +kernel
  intro d hd o
  have e := List.all_eq_true.mp h1 d hd
  rw [Bool.and_eq_true, Bool.and_eq_true, Bool.not_eq_true', Bool.not_eq_true', Bool.not_eq_true'] at e
  obtain ⟨⟨e1, e2⟩, e3⟩ := e
  cases k with
  | any => show (plainD d || (o && wordD d)) = false; rw [e1, e2]; cases o <;> rfl
  | of ws =>
    cases d with
    | str z =>
      show inV (.str z) (ws.map V.str) = false
      cases e : inV (.str z) (ws.map V.str) with
      | false => rfl
      | true =>
        exfalso
        unfold inV at e
        rw [List.any_map, List.any_eq_true] at e
        obtain ⟨y, hy, ey⟩ := e
        have ey' : y = z := by
          have : eqV (.str y) (.str z) = true := ey
          simpa [eqV] using this
        subst ey'
        have := List.all_eq_true.mp h2 y (hk.2.2.2.1 y hy)
        have hz : y ∈ (["", "A", "a b"] : List Str) := by
          simp only [oddD, List.mem_cons, List.not_mem_nil, or_false, PyData.str.injEq, reduceCtorEq, false_or] at hd
          simpa using hd
        rw [decide_eq_true hz] at this
        cases this
    | _ => rfl
  | num lo hi =>
    cases d with
    | str z => show (numS z && _) = false; rw [show numS z = false from e3]; rfl
    | _ => rfl
theorem SqT.offF {K : PySem.W.Frag} {H : Hp} {p l t : Addr} {xs : List V} (F : Feed H p l) (h : SqT K H t xs) : SqT K (off H [p]) t xs := by
  obtain ⟨ns, i, c, s, hp, _⟩ := F
  have q : ∀ o, H t = some o → (∀ ys, o ≠ .lst ys) → off H [p] t = some o := fun o e n => by
    rw [off_ne fun z => by
      rw [List.mem_singleton.mp z, hp] at e
      injection e with e
      exact n _ e.symm]
    exact e
  rcases h with (h | ⟨o, h⟩) | h
  · exact .inl (.inl (q _ h fun ys e => by cases e))
  · exact .inl (.inr ⟨o, q _ h fun ys e => by cases e⟩)
  · exact .inr h
theorem IsKind.offF {K : PySem.W.Frag} {c : Cs} {H : Hp} {p l a : Addr} {k : KindD} (F : Feed H p l) (h : IsKind K c H a k) : IsKind K c (off H [p]) a k := by
  have q : ∀ C dx fs, H a = some (.ins C dx fs) → off H [p] a = some (.ins C dx fs) := fun C dx fs e => by
    obtain ⟨ns, i, c, s, hp, _⟩ := F
    rw [off_ne fun z => by
      rw [List.mem_singleton.mp z, hp] at e
      cases e]
    exact e
  cases k with
  | any => obtain ⟨dx, h⟩ := h; exact ⟨dx, q _ _ _ h⟩
  | of ws => obtain ⟨dx, t, h, h2⟩ := h; exact ⟨dx, t, q _ _ _ h, SqT.offF F h2⟩
  | num lo hi => obtain ⟨dx, h⟩ := h; exact ⟨dx, q _ _ _ h⟩
theorem IsKind.on {K : PySem.W.Frag} {c : Cs} {H : Hp} {S : List Addr} {a : Addr} {k : KindD} (h : IsKind K c (off H S) a k) : IsKind K c H a k := h.same (off_same H S)
theorem IsKind.mv {K : PySem.W.Frag} {c : Cs} {H H' : Hp} {p l a : Addr} {k : KindD} (h : IsKind K c (off H [p]) a k) (m : Mv p l H H') : IsKind K c (off H' [p]) a k := h.same (m.off (List.mem_singleton.mpr rfl))
theorem SortT.fst {K : PySem.W.Frag} {H : Hp} {v : V} {k : KindD} (h : SortT K H v k) : ∃ t xs, v = .ref t ∧ SqT K H t (.str (nameK k) :: xs) := by
  cases k with
  | any => obtain ⟨t, h1, h2⟩ := h; exact ⟨t, _, h1, h2⟩
  | of ws => obtain ⟨t, u, h1, h2, h3⟩ := h; exact ⟨t, _, h1, h2⟩
  | num lo hi => obtain ⟨t, h1, h2⟩ := h; exact ⟨t, _, h1, h2⟩
theorem join_len (a : Str) {k : KindD} (hk : k.drawn) : (Txt.join " " (nameK k :: strsK k)).length ≤ 10000 := by
  rw [shown_eq hk]
  cases k with
  | any => decide
  | of ws =>
    obtain ⟨h1, h2, _, h4, _⟩ := hk
    obtain ⟨x, rfl⟩ | ⟨x, y, rfl⟩ := one_two h1 h2
    · have h : (menuW.all fun x => decide ((Txt.join " " ["of", x]).length ≤ 10000)) = true := by decide +kernel
      exact of_decide_eq_true (List.all_eq_true.mp h x (h4 x (by simp)))
    · have h : (menuW.all fun x => menuW.all fun y => decide ((Txt.join " " ["of", x, y]).length ≤ 10000)) = true := by decide +kernel
      exact of_decide_eq_true (List.all_eq_true.mp (List.all_eq_true.mp h x (h4 x (by simp))) y (h4 y (by simp)))
  | num lo hi =>
    obtain ⟨h1, h2⟩ := hk
    simp only [List.mem_cons, List.not_mem_nil, or_false] at h1 h2
    rcases h1 with rfl | rfl | rfl <;> rcases h2 with rfl | rfl | rfl <;> decide +kernel
theorem sum_ok {k : KindD} (hk : k.drawn) : ((nameK k :: strsK k).map (·.length)).sum + (nameK k :: strsK k).length * (" " : Str).length ≤ 16777216 := by
  cases k with
  | any => decide
  | of ws =>
    obtain ⟨h1, h2, _, h4, _⟩ := hk
    obtain ⟨x, rfl⟩ | ⟨x, y, rfl⟩ := one_two h1 h2
    · have h : (menuW.all fun x => decide (((nameK (.of [x]) :: strsK (.of [x])).map (·.length)).sum + (nameK (.of [x]) :: strsK (.of [x])).length * (" " : Str).length ≤ 16777216)) = true := by decide +kernel
      exact of_decide_eq_true (List.all_eq_true.mp h x (h4 x (by simp)))
    · have h : (menuW.all fun x => menuW.all fun y => decide (((nameK (.of [x, y]) :: strsK (.of [x, y])).map (·.length)).sum + (nameK (.of [x, y]) :: strsK (.of [x, y])).length * (" " : Str).length ≤ 16777216)) = true := by decide +kernel
      exact of_decide_eq_true (List.all_eq_true.mp (List.all_eq_true.mp h x (h4 x (by simp))) y (h4 y (by simp)))
  | num lo hi =>
    obtain ⟨h1, h2⟩ := hk
    simp only [List.mem_cons, List.not_mem_nil, or_false] at h1 h2
    rcases h1 with rfl | rfl | rfl <;> rcases h2 with rfl | rfl | rfl <;> decide +kernel
theorem strs_len {k : KindD} (hk : k.drawn) : (strsK k).length ≤ 2 := by
  cases k with
  | any => decide
  | of ws => exact hk.2.1
  | num lo hi => exact Nat.le_refl 2
theorem dok_strs {ss : List Str} (n : Nat) (h : ∀ z ∈ ss, z.length ≤ 100000) (hl : ss.length ≤ 100000) : dok (n + 1) (.list (ss.map PyData.str)) = true := by
  show (decide ((ss.map PyData.str).length ≤ 100000) && (ss.map PyData.str).all (dok n)) = true
  rw [Bool.and_eq_true]
  refine ⟨decide_eq_true (by rw [List.length_map]; exact hl), ?_⟩
  rw [List.all_map, List.all_eq_true]
  intro z hz
  cases n <;> exact decide_eq_true (h z hz)
theorem kind_txt : Str.empty ++ "Kind(" = ("Kind(" : Str) := by decide +kernel
theorem same4 {k : KindD} (hk : k.drawn) : dok 4 (.list [.list ((wordsK k).map PyData.str), .str (hintK k), .str (textK k), .str ((("Kind(" : Str) ++ textK k) ++ ")")]) = true := by
  have rl : (textK k).length ≤ 10000 := by rw [← shown_eq hk]; exact join_len "" hk
  have e1 : ("Kind(" : Str).length = 5 := by decide
  have e2 : (")" : Str).length = 1 := by decide
  have h1 : dok 3 (.list ((wordsK k).map PyData.str)) = true := by
    cases k with
    | any => rfl
    | num lo hi => rfl
    | of ws => exact dok_strs 2 (fun z hz => by have := wordS_len (plain_word (menu_plain z (hk.2.2.2.1 z hz))); omega) (by have := hk.2.1; show ws.length ≤ 100000; omega)
  have h2 : dok 3 (.str (hintK k)) = true := by
    cases k with
    | any => exact (by decide +kernel : dok 3 (.str "<any>") = true)
    | of ws => exact (by decide +kernel : dok 3 (.str "") = true)
    | num lo hi => exact (by decide +kernel : dok 3 (.str "<num>") = true)
  have h3 : dok 3 (.str (textK k)) = true := decide_eq_true (by omega)
  have h4 : dok 3 (.str ((("Kind(" : Str) ++ textK k) ++ ")")) = true := decide_eq_true (by rw [len_app, len_app, e1, e2]; omega)
  show (decide (4 ≤ 100000) && (dok 3 _ && (dok 3 _ && (dok 3 _ && (dok 3 _ && true))))) = true
  rw [h1, h2, h3, h4]
  rfl
section
variable {P : Program} {w : World} {K : PySem.W.Frag} {mg : Str → Option Value} {base : Heap} {c : Cs}
theorem tyK (A : Alls K mg c) {H : Hp} {a dx : Addr} {fs : List (Str × V)} (k : KindD) (h : H a = some (.ins (clsK c k) dx fs)) : TyOf K H (.ref a) (.ref (clsK c k)) := by
  cases k with
  | any => exact A.ty_AnyWord h
  | of ws => exact A.ty_OneOf h
  | num lo hi => exact A.ty_Number h
theorem nfK (A : Alls K mg c) (k k2 : KindD) : PySem.W.notFirst K (clsK c k) (.ref (clsK c k2)) = true := by
  cases k <;> cases k2 <;> first | exact A.nf_AnyWord_AnyWord | exact A.nf_AnyWord_OneOf | exact A.nf_AnyWord_Number | exact A.nf_OneOf_AnyWord | exact A.nf_OneOf_OneOf | exact A.nf_OneOf_Number | exact A.nf_Number_AnyWord | exact A.nf_Number_OneOf | exact A.nf_Number_Number
theorem nfS (A : Alls K mg c) (k : KindD) : PySem.W.notFirst K (clsK c k) (.type "str") = true := by
  cases k <;> first | exact A.nf_AnyWord_str | exact A.nf_OneOf_str | exact A.nf_Number_str
theorem neK (A : Alls K mg c) (k : KindD) : NoNe K (clsK c k) := by
  cases k <;> first | exact A.ne_AnyWord | exact A.ne_OneOf | exact A.ne_Number
theorem isaK (A : Alls K mg c) (k : KindD) : PySem.W.kitOne K (.ref (clsK c k)) (.ref c.Kind) = some true := by
  cases k <;> first | exact A.isa_AnyWord_Kind | exact A.isa_OneOf_Kind | exact A.isa_Number_Kind
end
section
variable {P : Program} {w : World} {K : PySem.W.Frag} {mg : Str → Option Value} {base : Heap} {c : Cs}
theorem sc_law : FnScope ["_law_script", "_law_feed_here", "_law_turn", "_law_sort_z", "_law_kind_z", "_law_other", "_law_tail", "_law_shown", "_law_one", "_law_hint_z", "_law_again", "_law_listed_z", "_law_menu", "_law_text", "_law_due", "_law_found", "_law_odd", "_law_same_here"] ["_law_script"] (defScope s_law) := ⟨rfl, rfl, rfl, by decide +kernel, rfl, by decide +kernel, by decide +kernel⟩
theorem o_law (A : Alls K mg c) (c__law_feed : Cl P w K mg base CX0 1 "_law_feed" (spFeed K) []) (c__law_of : Cl P w K mg base CX0 2 "_law_of" (spOf K) []) (c__law_same : Cl P w K mg base CX0 5 "_law_same" (spSame K 5) [])
    (c__law_kind : Cl P w K mg base CX0 4 "_law_kind" (spKind K) []) (c__law_ready_kind : Cl P w K mg base CX0 5 "_law_ready_kind" (spReadyK K c) []) (c__law_plain_words : Cl P w K mg base CX0 3 "_law_plain_words" spPlainW [])
    (c__law_fits : Cl P w K mg base CX0 2 "_law_fits" (spFitsL K) []) (M : KindM P w K mg base c) (m_OneOf : MkA P w K mg base CX0 3 "OneOf" c.OneOf [] (spOne K c)) : Okd P w K mg base CX0 7 "law" s_law ["_law_script"] (spLaw K) := by
  have T := A.T
  have n_Kind := A.n_Kind
  have n_Number := A.n_Number
  refine ok_mk A.d_law sc_law (fun vs H Q E h => ?_) (fun f cdv A' outer s H vs Q E hr h => ?_)
  · obtain ⟨a, ns, rfl, _⟩ := h; rfl
  · obtain ⟨a, ns, rfl, hS, hn, q⟩ := h
    refine ⟨_, (pss_cons (ps_set (i := 1) sc_law.nd rfl (by first | exact Or.inl rfl | exact Or.inr rfl) (pe_c c__law_feed hr (by decide) (by rfl) (pa_cons (pv 0) pa_nil)))
  (pss_cons (ps_for PassesOwn.never rfl (pi_range1 (by rfl) T.b_range (pa_cons pe_int pa_nil)) (pg_name (i := 2) sc_law.nd rfl (by first | exact Or.inl rfl | exact Or.inr rfl))
  (pss_cons (ps_set (i := 3) sc_law.nd rfl (by first | exact Or.inl rfl | exact Or.inr rfl) (pe_c c__law_kind hr (by decide) (by rfl) (pa_cons (pv 1) pa_nil)))
  (pss_cons (ps_par (i := 4) (j := 5) (by rfl) sc_law.nd rfl rfl (by decide) rfl rfl (pa_cons (pe_c c__law_ready_kind hr (by decide) (by rfl) (pa_cons (pv 3) pa_nil)) (pa_cons (pe_c c__law_ready_kind hr (by decide) (by rfl) (pa_cons (pe_c c__law_kind hr (by decide) (by rfl) (pa_cons (pv 1) pa_nil)) pa_nil)) pa_nil)) (by rfl))
  (Evl.pss_cut (ps_set (i := 6) sc_law.nd rfl (by first | exact Or.inl rfl | exact Or.inr rfl) (pe_ifExp (pt_cmpR op_eq (pe_ix ix_tup (pv 3) pe_int (fun _ _ => rfl)) pe_str (nomark _)) (pe_callTy call_list_of (by rfl) T.b_list (by decide +kernel) (pa_cons (pe_ix ix_tup (pv 3) pe_int (fun _ _ => rfl)) pa_nil)) (pe_callTy call_list_of (by rfl) T.b_list (by decide +kernel) (pa_cons (pe_slice sl_tup (pv 3) (po_some pe_int) po_none) pa_nil))))
  (Evl.pss_cut (ps_set (i := 7) sc_law.nd rfl (by first | exact Or.inl rfl | exact Or.inr rfl) (pe_join pe_str (pe_op op_cat (pe_lst (pa_cons (pe_ix ix_tup (pv 3) pe_int (fun _ _ => rfl)) pa_nil)) (pe_lc (own := [("_law_one", 8)]) (g := gName 8) (tt := tYes) (by rfl) sc_law.nd (pi_list (pv 6)) (blkOk_by (N := ["_law_script", "_law_feed_here", "_law_turn", "_law_sort_z", "_law_kind_z", "_law_other", "_law_tail", "_law_shown", "_law_one", "_law_hint_z", "_law_again", "_law_listed_z", "_law_menu", "_law_text", "_law_due", "_law_found", "_law_odd", "_law_same_here"]) (sc := defScope s_law) (by decide +kernel)) (fun _ _ _ _ _ => (pg_name (i := 8) sc_law.nd rfl (Or.inl rfl))) (fun _ _ _ _ _ => pts_nil) (fun _ _ _ _ _ => (pe_callTy (CallR.or call_str_int SkE.call_str_str) (by rfl) T.b_str (by decide +kernel) (pa_cons (pv 8) pa_nil)))))))
  (Evl.pss_cut (ps_set (i := 9) sc_law.nd rfl (by first | exact Or.inl rfl | exact Or.inr rfl) (pe_ifExp (pt_cmpR op_eq (pe_ix ix_tup (pv 3) pe_int (fun _ _ => rfl)) pe_str (nomark _)) pe_str (pe_op op_add_str (pe_op op_add_str pe_str (pe_ix ix_tup (pv 3) pe_int (fun _ _ => rfl))) pe_str)))
  (pss_cons (ps_for PassesOwn.never rfl (pi_range1 (by rfl) T.b_range (pa_cons pe_int pa_nil)) (pg_name (i := 10) sc_law.nd rfl (by first | exact Or.inl rfl | exact Or.inr rfl))
  (pss_cons (ps_set (i := 11) sc_law.nd rfl (by first | exact Or.inl rfl | exact Or.inr rfl) (pe_methA0 (CX := CX0) (E := E0)  hr pass0 (pv 4) pk_nil))
  (pss_cons (ps_if (pt_not (pt_val (pe_c c__law_same hr (by decide) (by rfl) (pa_cons (pe_lst (pa_cons (pv 11) (pa_cons (pe_methA0 (CX := CX0) (E := E0)  hr pass0 (pv 4) pk_nil) (pa_cons (pe_methA0 (CX := CX0) (E := E0)  hr pass0 (pv 4) pk_nil) (pa_cons (pe_callB (call_reprI (CX := CX0) (E := E0)  hr pass0) (by rfl) T.b_repr (by decide +kernel) (pa_cons (pv 4) pa_nil)) pa_nil))))) (pa_cons (pe_lst (pa_cons (pe_ifExp (pt_cmpR op_eq (pe_ix ix_tup (pv 3) pe_int (fun _ _ => rfl)) pe_str (nomark _)) (pv 6) (pe_lst pa_nil)) (pa_cons (pv 9) (pa_cons (pv 7) (pa_cons (pe_op op_add_str (pe_op op_add_str pe_str (pv 7)) pe_str) pa_nil))))) pa_nil))))) (pss_one (ps_ret pe_bl)) pss_nil)
  (pss_one (ps_expr (pe_bm PySem.F.plainAttrs_list PySem.F.slot_list_append PySem.F.type_list_append mt_append (pv 11) (pa_cons pe_str pa_nil)))))))
  (Evl.pss_cut (ps_set (i := 12) sc_law.nd rfl (by first | exact Or.inl rfl | exact Or.inr rfl) (pe_op op_cat (pe_c c__law_plain_words hr (by decide) (by rfl) (pa_cons (pv 1) (pa_cons pe_int pa_nil))) (pe_lst (pa_cons pe_str (pa_cons pe_str (pa_cons pe_str (pa_cons pe_str (pa_cons pe_str (pa_cons pe_str (pa_cons pe_str pa_nil))))))))))
  (pss_cons (ps_for PassesOwn.never rfl (pi_list (pv 12)) (pg_name (i := 13) sc_law.nd rfl (by first | exact Or.inl rfl | exact Or.inr rfl))
  (pss_cons (ps_set (i := 14) sc_law.nd rfl (by first | exact Or.inl rfl | exact Or.inr rfl) (pe_lst (pa_cons (pe_c c__law_fits hr (by decide) (by rfl) (pa_cons (pv 3) (pa_cons (pv 13) (pa_cons pe_bl pa_nil)))) (pa_cons (pe_c c__law_fits hr (by decide) (by rfl) (pa_cons (pv 3) (pa_cons (pv 13) (pa_cons pe_bl pa_nil)))) pa_nil))))
  (pss_cons (ps_set (i := 15) sc_law.nd rfl (by first | exact Or.inl rfl | exact Or.inr rfl) (pe_lst (pa_cons (pe_methA (CX := CX0) (E := E0)  hr pass0 (pv 4) (pa_cons (pv 13) pa_nil) pk_nil) (pa_cons (pe_methA0 (CX := CX0) (E := E0)  hr pass0 (pv 4) (pk_cons (pv 13) (pk_cons pe_bl pk_nil))) pa_nil))))
  (pss_one (ps_if (pt_not (pt_val (pe_c c__law_same hr (by decide) (by rfl) (pa_cons (pe_op op_cat (pv 15) (pe_lst (pa_cons (pe_cmpR (op_inI (CX := CX0) (E := E0)  hr pass0) (pv 13) (pv 4) (by rfl)) pa_nil))) (pa_cons (pe_op op_cat (pv 14) (pe_slice sl_list (pv 14) po_none (po_some pe_int))) pa_nil))))) (pss_one (ps_ret pe_bl)) pss_nil)))))
  (pss_cons (ps_set (i := 16) sc_law.nd rfl (by first | exact Or.inl rfl | exact Or.inr rfl) (pe_c c__law_of hr (by decide) (by rfl) (pa_cons (pv 1) (pa_cons (pe_lst (pa_cons pe_non (pa_cons pe_int (pa_cons pe_str (pa_cons pe_str (pa_cons (pe_tup (pa_cons pe_str pa_nil)) (pa_cons (pe_lst (pa_cons pe_str pa_nil)) (pa_cons pe_bl (pa_cons pe_str pa_nil))))))))) pa_nil))))
  (pss_cons (ps_if (PW.pt (pw_or (pt_cmpR op_notBl (pe_methA (CX := CX0) (E := E0)  hr pass0 (pv 4) (pa_cons (pv 16) pa_nil) pk_nil) pe_bl (nomark _)) (pw_or1 (pt_cmpR op_notBl (pe_methA (CX := CX0) (E := E0)  hr pass0 (pv 4) (pa_cons (pv 16) pa_nil) (pk_cons pe_bl pk_nil)) pe_bl (nomark _))))) (pss_one (ps_ret pe_bl)) pss_nil)
  (pss_cons (ps_set (i := 17) sc_law.nd rfl (by first | exact Or.inl rfl | exact Or.inr rfl) (pe_cmpR op_eq (pe_methA0 (CX := CX0) (E := E0)  hr pass0 (pv 4) pk_nil) (pe_methA0 (CX := CX0) (E := E0)  hr pass0 (pv 5) pk_nil) (nomark _)))
  (pss_cons (ps_if (pt_not (pt_val (pe_c c__law_same hr (by decide) (by rfl) (pa_cons (pe_lst (pa_cons (pe_cmpR (op_eqI (CX := CX0) (E := E0)  hr pass0) (pv 4) (pv 5) (nomark _)) (pa_cons (pe_cmpR (op_neI (CX := CX0) (E := E0)  hr pass0) (pv 4) (pv 5) (nomark _)) (pa_cons (pe_cmpR (op_eqI (CX := CX0) (E := E0)  hr pass0) (pv 4) (pv 7) (nomark _)) (pa_cons (pe_cmpR (op_inI (CX := CX0) (E := E0)  hr pass0) (pv 16) (pv 4) (by rfl)) pa_nil))))) (pa_cons (pe_lst (pa_cons (pv 17) (pa_cons (pe_not (pv 17)) (pa_cons pe_bl (pa_cons pe_bl pa_nil))))) pa_nil))))) (pss_one (ps_ret pe_bl)) pss_nil)
  (pss_one (ps_if (PW.pt (pw_or (pt_cmpR (op_neI (CX := CX0) (E := E0)  hr pass0) (pv 4) (pe_c c__law_ready_kind hr (by decide) (by rfl) (pa_cons (pv 3) pa_nil)) (nomark _)) (pw_or1 (pt_not (pt_val (pe_callB call_isi (by rfl) T.b_isinstance (by decide +kernel) (pa_cons (pv 4) (pa_cons (pe_glob (v := .ref c.Kind) (by rfl) n_Kind rfl) pa_nil)))))))) (pss_one (ps_ret pe_bl)) pss_nil)))))))))))))))
  (pss_one (ps_ret (pe_and (pe_cmpR op_eq (ClX.pe_cval (pe_glob (v := .ref c.Number) (by rfl) n_Number rfl)) pe_int (nomark _)) (pe_one (pe_cmpR (op_eqI (CX := CX0) (E := E0)  hr pass0) (pe_makeA (E := E0) m_OneOf hr (by decide) pass0 (by rfl) (pa_cons pe_str (pa_cons pe_str pa_nil)) pk_nil) (pe_makeA (E := E0) m_OneOf hr (by decide) pass0 (by rfl) (pa_cons pe_str (pa_cons pe_str pa_nil)) pk_nil) (nomark _)))))))), ?_⟩
    refine ⟨_, rfl, a, ns, rfl, hS, hn, fun p l H1 S1 F1 hp hl => ?_⟩
    refine ⟨8, rfl, by decide, by decide, for_range (lo := 0) (n := 8) (fun i σ' H' => (∃ x2 x3 x4 x5 x6 x7 x8 x9 x10 x11 x12 x13 x14 x15 x16 x17, σ' = [some (.ref a), some (.ref p), x2, x3, x4, x5, x6, x7, x8, x9, x10, x11, x12, x13, x14, x15, x16, x17]) ∧ Mv p l H1 H')
      ⟨⟨_, _, _, _, _, _, _, _, _, _, _, _, _, _, _, _, rfl⟩, Mv.refl F1⟩ ?_ ?_⟩
    · rintro i σ' H' hi ⟨⟨x2, x3, x4, x5, x6, x7, x8, x9, x10, x11, x12, x13, x14, x15, x16, x17, rfl⟩, m0⟩
      have mp : p ∈ [p] := List.mem_singleton.mpr rfl
      refine ⟨_, rfl, p, l, rfl, m0.2, fun k v H2 hk hv m2 => ?_⟩
      refine ⟨_, rfl, v, some k, rfl, ⟨hk, hv.on⟩, fun r H3 S3 hr3 => ?_⟩
      obtain ⟨a1, rfl, hK1⟩ := hr3
      have F3 := m2.2.same S3
      refine ⟨_, rfl, p, l, rfl, F3, fun k2 v2 H4 hk2 hv2 m4 => ⟨v2, some k2, rfl, ⟨hk2, hv2.on⟩, fun r2 H5 S5 hr5 => ?_⟩⟩
      obtain ⟨a2, rfl, hK2⟩ := hr5
      refine ⟨_, _, rfl, ?_⟩
      have F5 := m4.2.same S5
      have m5 : Mv p l H1 H5 := ((m0.trans m2).same S3 |>.trans m4).same S5
      have kA := ((hK1.offF F3).mv m4).same (S5.offT [p])
      have kB := hK2.offF F5
      have vA := ((hv.same (S3.offT [p])).mv m4 mp).same (S5.offT [p])
      clear hK1 hK2 hv hv2
      have hok := drawn_ok hk
      have hok2 := drawn_ok hk2
      -- the tail
      refine ⟨fun σ' H' => (∃ tl, σ' = [some (.ref a), some (.ref p), some (.int (0 + (i : Nat))), some v, some (.ref a1), some (.ref a2), some (.ref tl), x7, x8, x9, x10, x11, x12, x13, x14, x15, x16, x17] ∧ H' tl = some (.lst (tailK k)) ∧ tl ≠ p) ∧ Same H5 H', ?_, ?_⟩
      · cases k with
        | any =>
          obtain ⟨t, rfl, ht⟩ := vA.on
          refine ⟨_, rfl, t, _, 0, _, rfl, rfl, ht, rfl, rfl, _, rfl, iteFk s_ao ?_⟩
          refine ⟨_, rfl, 1, rfl, t, _, rfl, ht, fun e => absurd (show (1 : Nat) = 0 from e.1) (by decide), fun q1 hq1 => ?_⟩
          refine ⟨q1, _, rfl, .inr (SqT.of upd_same), fun tl htl => ?_⟩
          exact ⟨⟨tl, rfl, upd_same, fun e => F5.tk (by rw [e] at htl; exact Same.free (Same.newT hq1) htl)⟩, (Same.newT hq1).trans (Same.newT htl)⟩
        | of ws =>
          obtain ⟨t, u, rfl, ht, hu⟩ := vA.on
          refine ⟨_, rfl, t, _, 0, _, rfl, rfl, ht, rfl, rfl, _, rfl, iteTk s_oo ?_⟩
          refine ⟨_, rfl, t, _, 1, _, rfl, rfl, ht, rfl, u, _, rfl, .inr hu, fun tl htl => ?_⟩
          exact ⟨⟨tl, rfl, upd_same, fun e => F5.tk (by rw [e] at htl; exact htl)⟩, Same.newT htl⟩
        | num lo hi =>
          obtain ⟨t, rfl, ht⟩ := vA.on
          refine ⟨_, rfl, t, _, 0, _, rfl, rfl, ht, rfl, rfl, _, rfl, iteFk s_no ?_⟩
          refine ⟨_, rfl, 1, rfl, t, _, rfl, ht, fun e => absurd (show (1 : Nat) = 0 from e.1) (by decide), fun q1 hq1 => ?_⟩
          refine ⟨q1, _, rfl, .inr (SqT.of upd_same), fun tl htl => ?_⟩
          exact ⟨⟨tl, rfl, upd_same, fun e => F5.tk (by rw [e] at htl; exact Same.free (Same.newT hq1) htl)⟩, (Same.newT hq1).trans (Same.newT htl)⟩
      · rintro σ6 H6 ⟨⟨tl, rfl, htl, ntl⟩, S6⟩
        -- the text shown
        refine ⟨fun σ' H' => (∃ y8, σ' = [some (.ref a), some (.ref p), some (.int (0 + (i : Nat))), some v, some (.ref a1), some (.ref a2), some (.ref tl), some (.str (textK k)), y8, x9, x10, x11, x12, x13, x14, x15, x16, x17]) ∧ Same H6 H', ?_, ?_⟩
        · obtain ⟨t, xs, rfl, ht⟩ := (vA.same (S6.offT [p])).on.fst
          refine ⟨⟨_, rfl⟩, _, rfl, t, _, 0, _, rfl, rfl, ht, (show atI _ ((0 : Nat) : Int) = some _ from atI_nat rfl), by show 1 ≤ sizeLine; decide, fun l1 hl1 => ?_⟩
          have Sa : Same H6 (upd H6 l1 (.lst [.str (nameK k)])) := Same.newT hl1
          refine ⟨_, rfl, tl, rfl, ⟨_, SqL.of (Sa _ _ htl)⟩, fun D hD => ?_⟩
          have hsl := strs_len hk
          refine lc_list (K := K) (a := tl) (xs := tailK k) (fun i H'' => Same (upd H6 l1 (.lst [.str (nameK k)])) H'' ∧ H'' D = some (.lst (((strsK k).take i).map V.str))) ⟨Same.newT hD, upd_same⟩ (fun i H'' _ h => SqL.of (h.1 _ _ (Sa _ _ htl))) ?_ ?_
          · rintro j x H'' hx ⟨hP1, hP2⟩
            obtain ⟨y, hy, hxy⟩ := tail_at k hok hx
            refine ⟨rfl, ?_⟩
            have fin : ∃ acc, H'' D = some (.lst acc) ∧ acc.length < sizeLine ∧ (Same (upd H6 l1 (.lst [.str (nameK k)])) (upd H'' D (.lst (acc ++ [.str y]))) ∧ (upd H'' D (.lst (acc ++ [.str y]))) D = some (.lst (((strsK k).take (j + 1)).map V.str))) := by
              refine ⟨_, hP2, ?_, Same.mutT hP1 hD, ?_⟩
              · rw [List.length_map, List.length_take]
                have : sizeLine = 16777216 := sizeLine_eq
                omega
              · rw [upd_same, List.take_succ, hy, List.map_append]; rfl
            rcases hxy with rfl | ⟨n, rfl, rfl, hn⟩
            · exact ⟨_, rfl, .inr ⟨y, rfl, fin⟩⟩
            · exact ⟨_, rfl, .inl ⟨n, rfl, hn, fin⟩⟩
          · rintro H'' ⟨hP1, hP2⟩
            rw [len_tail, List.take_length] at hP2
            refine ⟨l1, D, _, _, rfl, rfl, hP1 _ _ upd_same, hP2, ?_, fun q1 hq1 => ?_⟩
            · rw [List.length_map]
              have : sizeLine = 16777216 := sizeLine_eq
              show 1 + _ ≤ _
              omega
            · refine ⟨" ", q1, nameK k :: strsK k, rfl, rfl, .inl (SqL.of upd_same), sum_ok hk, ?_⟩
              rw [shown_eq hk]
              exact ⟨⟨_, rfl⟩, (Sa.trans hP1).trans (Same.newT hq1)⟩
        · rintro σ7 H7 ⟨⟨y8, rfl⟩, S7⟩
          have S67 := S6.trans S7
          -- the hint
          refine ⟨fun σ' H' => (∃ y8, σ' = [some (.ref a), some (.ref p), some (.int (0 + (i : Nat))), some v, some (.ref a1), some (.ref a2), some (.ref tl), some (.str (textK k)), y8, some (.str (hintK k)), x10, x11, x12, x13, x14, x15, x16, x17]) ∧ Same H7 H', ?_, ?_⟩
          · have vA7 := (vA.same (S67.offT [p])).on
            have sz : sizeLine = 16777216 := sizeLine_eq
            cases k with
            | any =>
              obtain ⟨t, rfl, ht⟩ := vA7
              refine ⟨_, rfl, t, _, 0, _, rfl, rfl, ht, rfl, rfl, _, rfl, iteFk s_ao ?_⟩
              refine ⟨_, rfl, t, _, 0, _, rfl, rfl, ht, rfl, _, _, rfl, rfl, by rw [sz]; decide, _, _, rfl, rfl, by rw [sz]; decide, ?_⟩
              have e : ((("<" : Str) ++ ("any" : Str)) ++ (">" : Str)) = hintK .any := by decide +kernel
              rw [e]
              exact ⟨⟨_, rfl⟩, Same.refl _⟩
            | of ws =>
              obtain ⟨t, u, rfl, ht, hu⟩ := vA7
              refine ⟨_, rfl, t, _, 0, _, rfl, rfl, ht, rfl, rfl, _, rfl, iteTk s_oo ?_⟩
              exact ⟨⟨_, rfl⟩, Same.refl _⟩
            | num lo hi =>
              obtain ⟨t, rfl, ht⟩ := vA7
              refine ⟨_, rfl, t, _, 0, _, rfl, rfl, ht, rfl, rfl, _, rfl, iteFk s_no ?_⟩
              refine ⟨_, rfl, t, _, 0, _, rfl, rfl, ht, rfl, _, _, rfl, rfl, by rw [sz]; decide, _, _, rfl, rfl, by rw [sz]; decide, ?_⟩
              have e : ((("<" : Str) ++ ("num" : Str)) ++ (">" : Str)) = hintK (.num lo hi) := (by decide +kernel : ((("<" : Str) ++ ("num" : Str)) ++ (">" : Str)) = "<num>")
              rw [e]
              exact ⟨⟨_, rfl⟩, Same.refl _⟩
          · rintro σ8 H8 ⟨⟨y8', rfl⟩, S8⟩
            have S58 := S67.trans S8
            have htl8 : H8 tl = some (.lst (tailK k)) := S8 _ _ (S7 _ _ htl)
            have m8 := m5.same S58
            have kA8 := kA.same (S58.offT [p])
            have kB8 := kB.same (S58.offT [p])
            have vA8 := vA.same (S58.offT [p])
            clear kA kB vA S67
            have rl : (textK k).length ≤ 10000 := by rw [← shown_eq hk]; exact join_len "" hk
            refine ⟨2, rfl, by decide, by decide, for_range (lo := 0) (n := 2) (fun j σ' H' => (∃ y8 y10 y11, σ' = [some (.ref a), some (.ref p), some (.int (0 + (i : Nat))), some v, some (.ref a1), some (.ref a2), some (.ref tl), some (.str (textK k)), y8, some (.str (hintK k)), y10, y11, x12, x13, x14, x15, x16, x17]) ∧ Same H8 H')
              ⟨⟨_, _, _, rfl⟩, Same.refl _⟩ ?_ ?_⟩
            · rintro j σ9 H9 hj ⟨⟨y8, y10, y11, rfl⟩, S9⟩
              have k9 := (kA8.same (S9.offT [p])).on
              obtain ⟨dx, fs, hi1, l1, l2, l3, l4⟩ := k9.ins
              refine ⟨_, rfl, a1, _, dx, fs, _, rfl, hi1, l3, (M.words k).mono (by decide), rfl, a1, rfl, k9, fun w1 hw1 => ?_⟩
              have Sw : Same H9 (upd H9 w1 (.lst ((wordsK k).map V.str))) := Same.newT hw1
              refine ⟨_, rfl, _, rfl, a1, _, dx, fs, _, rfl, Sw _ _ hi1, l4, (M.hint k).mono (by decide), rfl, a1, rfl, k9.same Sw, fun Ha Sa => ?_⟩
              have Sx := Sw.trans Sa
              refine ⟨_, rfl, a1, _, dx, fs, _, rfl, Sx _ _ hi1, l1, (M.text k).mono (by decide), rfl, a1, rfl, k9.same Sx, hok, fun Hb Sb => ?_⟩
              have Sy := Sx.trans Sb
              refine ⟨_, rfl, a1, _, dx, fs, _, rfl, Sy _ _ hi1, (M.repr k rl).mono (by decide), a1, rfl, k9.same Sy, hok, fun Hc Sc => ⟨⟨_, rfl⟩, ?_⟩⟩
              refine ⟨by show 4 ≤ sizeLine; decide, fun p1 hp1 => ?_⟩
              have Sz := Sy.trans Sc
              have n1w : w1 ≠ p1 := ne_of_none ((Sa.trans (Sb.trans Sc)) _ _ upd_same) hp1
              have qw : Hc w1 = some (.lst ((wordsK k).map V.str)) := (Sa.trans (Sb.trans Sc)) _ _ upd_same
              generalize eH : upd Hc p1 (.lst _) = H10 at *
              have S10 : Same Hc H10 := by rw [← eH]; exact Same.newT hp1
              have q1 : H10 p1 = some (.lst [.ref w1, .str (hintK k), .str (textK k), .str ((Str.empty ++ "Kind(" ++ textK k) ++ ")")]) := by rw [← eH]; exact upd_same
              have qw1 := S10 _ _ qw
              have S910 := Sz.trans S10
              have v10 := (vA8.same ((S9.trans S910).offT [p])).on
              have t10 := (S9.trans S910) _ _ htl8
              have sz : sizeLine = 16777216 := sizeLine_eq
              have e1 : ("Kind(" : Str).length = 5 := by decide
              have e2 : (")" : Str).length = 1 := by decide
              clear eH
              rw [kind_txt] at q1
              cases k with
              | any =>
                obtain ⟨t, rfl, ht⟩ := v10
                refine ⟨_, rfl, t, _, 0, _, rfl, rfl, ht, rfl, rfl, _, rfl, iteFk s_ao ⟨by show 0 ≤ sizeLine; decide, fun p2 hp2 => ?_⟩⟩
                refine ⟨_, rfl, _, rfl, _, rfl, _, _, rfl, rfl, by rw [e1, sz]; omega, _, _, rfl, rfl, by rw [len_app, e1, e2, sz]; omega, by show 4 ≤ sizeLine; decide, fun p3 hp3 => ?_⟩
                have S11 : Same H10 (upd H10 p2 (.lst [])) := Same.newT hp2
                have S12 := S11.trans (Same.newT (o := .lst [.ref p2, .str (hintK .any), .str (textK .any), .str ((("Kind(" : Str) ++ textK .any) ++ ")")]) hp3)
                have hx2 : (upd H10 p2 (.lst [])) p2 = some (.lst ((wordsK .any).map V.str)) := upd_same
                refine ⟨.ref p1, .ref p3, _, rfl, .lst (SqL.of (S12 _ _ q1)) (.cons (.lst (SqL.of (S12 _ _ qw1)) (DpAll.strsT _)) (.cons (.str _) (.cons (.str _) (.cons (.str _) .nil)))),
                  .lst (SqL.of upd_same) (.cons (.lst (SqL.of ((Same.newT hp3) _ _ hx2)) (DpAll.strsT _)) (.cons (.str _) (.cons (.str _) (.cons (.str _) .nil)))), same4 hk, fun H13 S13 => ?_⟩
                refine ⟨_, rfl, iteF ?_⟩
                have qw2 := S13 _ _ (S12 _ _ qw1)
                refine ⟨_, rfl, .inl ⟨rfl, _, SqL.of qw2⟩, w1, _, _, rfl, rfl, qw2, ?_, ?_⟩
                · rw [List.length_map, sz]
                  have : (wordsK .any).length ≤ 2 := by decide
                  omega
                · exact ⟨⟨_, _, _, rfl⟩, S9.trans (Same.mutT ((S910.trans S12).trans S13) hw1)⟩
              | of ws =>
                obtain ⟨t, u, rfl, ht, hu⟩ := v10
                refine ⟨_, rfl, t, _, 0, _, rfl, rfl, ht, rfl, rfl, _, rfl, iteTk s_oo ⟨_, rfl, ?_⟩⟩
                refine ⟨_, rfl, _, rfl, _, rfl, _, _, rfl, rfl, by rw [e1, sz]; omega, _, _, rfl, rfl, by rw [len_app, e1, e2, sz]; omega, by show 4 ≤ sizeLine; decide, fun p3 hp3 => ?_⟩
                have S11 : Same H10 H10 := Same.refl _
                have S12 := S11.trans (Same.newT (o := .lst [.ref tl, .str (hintK (.of ws)), .str (textK (.of ws)), .str ((("Kind(" : Str) ++ textK (.of ws)) ++ ")")]) hp3)
                have hx2 : H10 tl = some (.lst ((wordsK (.of ws)).map V.str)) := t10
                refine ⟨.ref p1, .ref p3, _, rfl, .lst (SqL.of (S12 _ _ q1)) (.cons (.lst (SqL.of (S12 _ _ qw1)) (DpAll.strsT _)) (.cons (.str _) (.cons (.str _) (.cons (.str _) .nil)))),
                  .lst (SqL.of upd_same) (.cons (.lst (SqL.of ((Same.newT hp3) _ _ hx2)) (DpAll.strsT _)) (.cons (.str _) (.cons (.str _) (.cons (.str _) .nil)))), same4 hk, fun H13 S13 => ?_⟩
                refine ⟨_, rfl, iteF ?_⟩
                have qw2 := S13 _ _ (S12 _ _ qw1)
                refine ⟨_, rfl, .inl ⟨rfl, _, SqL.of qw2⟩, w1, _, _, rfl, rfl, qw2, ?_, ?_⟩
                · rw [List.length_map, sz]
                  have : (wordsK (.of ws)).length ≤ 2 := hk.2.1
                  omega
                · exact ⟨⟨_, _, _, rfl⟩, S9.trans (Same.mutT ((S910.trans S12).trans S13) hw1)⟩
              | num lo hi =>
                obtain ⟨t, rfl, ht⟩ := v10
                refine ⟨_, rfl, t, _, 0, _, rfl, rfl, ht, rfl, rfl, _, rfl, iteFk s_no ⟨by show 0 ≤ sizeLine; decide, fun p2 hp2 => ?_⟩⟩
                refine ⟨_, rfl, _, rfl, _, rfl, _, _, rfl, rfl, by rw [e1, sz]; omega, _, _, rfl, rfl, by rw [len_app, e1, e2, sz]; omega, by show 4 ≤ sizeLine; decide, fun p3 hp3 => ?_⟩
                have S11 : Same H10 (upd H10 p2 (.lst [])) := Same.newT hp2
                have S12 := S11.trans (Same.newT (o := .lst [.ref p2, .str (hintK (.num lo hi)), .str (textK (.num lo hi)), .str ((("Kind(" : Str) ++ textK (.num lo hi)) ++ ")")]) hp3)
                have hx2 : (upd H10 p2 (.lst [])) p2 = some (.lst ((wordsK (.num lo hi)).map V.str)) := upd_same
                refine ⟨.ref p1, .ref p3, _, rfl, .lst (SqL.of (S12 _ _ q1)) (.cons (.lst (SqL.of (S12 _ _ qw1)) (DpAll.strsT _)) (.cons (.str _) (.cons (.str _) (.cons (.str _) .nil)))),
                  .lst (SqL.of upd_same) (.cons (.lst (SqL.of ((Same.newT hp3) _ _ hx2)) (DpAll.strsT _)) (.cons (.str _) (.cons (.str _) (.cons (.str _) .nil)))), same4 hk, fun H13 S13 => ?_⟩
                refine ⟨_, rfl, iteF ?_⟩
                have qw2 := S13 _ _ (S12 _ _ qw1)
                refine ⟨_, rfl, .inl ⟨rfl, _, SqL.of qw2⟩, w1, _, _, rfl, rfl, qw2, ?_, ?_⟩
                · rw [List.length_map, sz]
                  have : (wordsK (.num lo hi)).length ≤ 2 := (by show 0 ≤ 2; decide)
                  omega
                · exact ⟨⟨_, _, _, rfl⟩, S9.trans (Same.mutT ((S910.trans S12).trans S13) hw1)⟩
            · rintro σ9 H9 ⟨⟨y8, y10, y11, rfl⟩, S9⟩
              have S89 := S9
              have m9 := m8.same S9
              have F9 := m9.2
              have kA9 := kA8.same (S9.offT [p])
              have kB9 := kB8.same (S9.offT [p])
              have vA9 := vA8.same (S9.offT [p])
              have sz : sizeLine = 16777216 := sizeLine_eq
              clear kA8 kB8 vA8 htl8
              -- the menu
              refine ⟨fun σ' H' => (∃ (mn : Addr) (zs : List Str), σ' = [some (.ref a), some (.ref p), some (.int (0 + (i : Nat))), some v, some (.ref a1), some (.ref a2), some (.ref tl), some (.str (textK k)), y8, some (.str (hintK k)), y10, y11, some (.ref mn), x13, x14, x15, x16, x17] ∧ H' mn = some (.lst (zs.map V.str)) ∧ zs.length ≤ 100 ∧ ∀ y ∈ zs, y ∈ menuW ++ extraW) ∧ Mv p l H9 H', ?_, ?_⟩
              · refine ⟨_, rfl, p, l, 9, rfl, F9, by decide, by decide, fun ys r H10 hnd hmem hlen m10 hr10 hy => ?_⟩
                refine ⟨by show 7 ≤ sizeLine; decide, fun l2 hl2 => ?_⟩
                have e9 : ys.length = 9 := hlen
                refine ⟨r, l2, _, _, rfl, rfl, (Same.newT hl2) _ _ hy, upd_same, by rw [List.length_map, e9, sz]; decide, fun mn hmn => ?_⟩
                refine ⟨⟨mn, ys ++ extraW, rfl, by rw [upd_same, List.map_append]; rfl, by rw [List.length_append, e9]; decide, fun y hy => ?_⟩, (m10.new hl2).new hmn⟩
                rcases List.mem_append.mp hy with h | h
                · exact List.mem_append_left _ (hmem y h)
                · exact List.mem_append_right _ h
              · rintro σ10 H10 ⟨⟨mn, zs, rfl, hmn, hzl, hzm⟩, m10⟩
                have mp' : p ∈ [p] := mp
                have kA10 := kA9.mv m10
                have kB10 := kB9.mv m10
                have vA10 := vA9.mv m10 mp
                have m10' := m9.trans m10
                clear kA9 kB9 vA9
                refine ⟨_, rfl, mn, rfl, ⟨_, SqL.of hmn⟩, for_list (xs := zs.map V.str) (fun j σ' H' => (∃ y13 y14 y15, σ' = [some (.ref a), some (.ref p), some (.int (0 + (i : Nat))), some v, some (.ref a1), some (.ref a2), some (.ref tl), some (.str (textK k)), y8, some (.str (hintK k)), y10, y11, some (.ref mn), y13, y14, y15, x16, x17]) ∧ Same H10 H')
                  ⟨⟨_, _, _, rfl⟩, Same.refl _⟩ (fun j σ' H' _ h => SqL.of (h.2 _ _ hmn)) ?_ ?_⟩
                · rintro j x σ11 H11 hx ⟨⟨y13, y14, y15, rfl⟩, S11⟩
                  obtain ⟨z, hz, rfl⟩ : ∃ z, zs[j]? = some z ∧ x = .str z := by
                    rw [List.getElem?_map] at hx
                    cases e : zs[j]? with
                    | none => rw [e] at hx; cases hx
                    | some z => rw [e] at hx; injection hx with hx; exact ⟨z, rfl, hx.symm⟩
                  have hw := menu_word z (hzm z (List.mem_of_getElem? hz))
                  have hz8 := wordS_len hw
                  have hzd : dok 0 (.str z) = true := decide_eq_true (Nat.le_trans hz8 (by decide))
                  have vA11 := (vA10.same (S11.offT [p])).on
                  have kA11 := (kA10.same (S11.offT [p])).on
                  obtain ⟨dx, fs, hi1, l1, l2, l3, l4⟩ := kA11.ins
                  refine ⟨_, rfl, _, rfl, v, k, z, false, rfl, hk, vA11, hw, fun Ha Sa => ?_⟩
                  refine ⟨_, rfl, _, rfl, v, k, z, true, rfl, hk, vA11.same Sa, hw, fun Hb Sb => ?_⟩
                  generalize hb0 : fitsK k (.str z) false = b0
                  generalize hb1 : fitsK k (.str z) true = b1
                  refine ⟨by show 2 ≤ sizeLine; decide, fun d1 hd1 => ?_⟩
                  have Sc := (Sa.trans Sb).trans (Same.newT (o := .lst [.bl b0, .bl b1]) hd1)
                  refine ⟨_, rfl, a1, _, dx, fs, _, rfl, Sc _ _ hi1, l2, (M.fits k).mono (by decide), _, rfl, rfl, a1, .str z, false, .str z, 0, rfl, kA11.same Sc, hok, .str z, hzd, fun Hd Sd => ?_⟩
                  rw [hb0]
                  have Se := Sc.trans Sd
                  refine ⟨_, rfl, a1, _, dx, fs, _, rfl, Se _ _ hi1, l2, (M.fitsWO k).mono (by decide), _, rfl, rfl, rfl, a1, .str z, true, .str z, 0, rfl, kA11.same Se, hok, .str z, hzd, fun Hf Sf => ?_⟩
                  rw [hb1]
                  have Sg := Se.trans Sf
                  refine ⟨by show 2 ≤ sizeLine; decide, fun f1 hf1 => ?_⟩
                  have Sh := Sg.trans (Same.newT (o := .lst [.bl b0, .bl b1]) hf1)
                  refine ⟨_, rfl, _, rfl, _, rfl, a1, _, dx, fs, _, rfl, Sh _ _ hi1, (M.has k).mono (by decide), a1, .str z, .str z, 0, rfl, kA11.same Sh, hok, .str z, hzd, fun Hi Si => ⟨_, rfl, ?_⟩⟩
                  rw [hb0]
                  have eb : (false != b0) = b0 := by cases b0 <;> rfl
                  rw [eb]
                  have Sj := Sh.trans Si
                  refine ⟨by show 1 ≤ sizeLine; decide, fun g1 hg1 => ?_⟩
                  have Sk := Sj.trans (Same.newT (o := .lst [.bl b0]) hg1)
                  have qf : (upd Hi g1 (.lst [.bl b0])) f1 = some (.lst [.bl b0, .bl b1]) := (Same.newT hg1) _ _ (Si _ _ upd_same)
                  refine ⟨f1, g1, _, _, rfl, rfl, qf, upd_same, by show 2 + 1 ≤ sizeLine; decide, fun h1 hh1 => ?_⟩
                  have Sl := Sk.trans (Same.newT (o := .lst ([.bl b0, .bl b1] ++ [.bl b0])) hh1)
                  have qd : (upd (upd Hi g1 (.lst [.bl b0])) h1 (.lst ([.bl b0, .bl b1] ++ [.bl b0]))) d1 = some (.lst [.bl b0, .bl b1]) :=
                    ((((((Sd.trans Sf).trans (Same.newT (o := .lst [.bl b0, .bl b1]) hf1)).trans Si).trans (Same.newT (o := .lst [.bl b0]) hg1)).trans (Same.newT (o := .lst ([.bl b0, .bl b1] ++ [.bl b0])) hh1)) _ _ upd_same)
                  refine ⟨_, rfl, _, rfl, 1, rfl, d1, _, rfl, SqL.of qd, fun e1 he1 => ?_⟩
                  rw [cut_to (by decide) (by show (1 : Int) ≤ 2; decide)]
                  refine ⟨d1, e1, _, _, rfl, rfl, (Same.newT he1) _ _ qd, upd_same, by show 2 + 1 ≤ sizeLine; decide, fun k1 hk1 => ?_⟩
                  have Sm := (Sl.trans (Same.newT (o := .lst (List.take (1 : Int).toNat [.bl b0, .bl b1])) he1)).trans (Same.newT (o := .lst ([.bl b0, .bl b1] ++ List.take (1 : Int).toNat [.bl b0, .bl b1])) hk1)
                  refine ⟨.ref h1, .ref k1, .list [.bool b0, .bool b1, .bool b0], rfl, .lst (SqL.of ((Same.newT hk1) _ _ ((Same.newT he1) _ _ upd_same))) (.cons (.bl _) (.cons (.bl _) (.cons (.bl _) .nil))),
                    .lst (SqL.of upd_same) (.cons (.bl _) (.cons (.bl _) (.cons (.bl _) .nil))), rfl, fun Hz Sz => ?_⟩
                  refine ⟨_, rfl, iteF ?_⟩
                  exact ⟨⟨_, _, _, rfl⟩, (S11.trans Sm).trans Sz⟩
                · rintro σ11 H11 ⟨⟨y13, y14, y15, rfl⟩, S11⟩
                  have m11 := m10'.same S11
                  have F11 := m11.2
                  have kA11 := kA10.same (S11.offT [p])
                  have kB11 := kB10.same (S11.offT [p])
                  have vA11 := vA10.same (S11.offT [p])
                  clear kA10 kB10 vA10
                  refine ⟨_, rfl, by show 1 ≤ sizeLine; decide, fun t1 ht1 => ?_⟩
                  refine ⟨by show 1 ≤ sizeLine; decide, fun t2 ht2 => ?_⟩
                  refine ⟨by show 8 ≤ sizeLine; decide, fun ol hol => ?_⟩
                  generalize e2 : upd H11 t1 (.tup [.str "a"]) = H12 at *
                  have S12 : Same H11 H12 := by rw [← e2]; exact Same.newT ht1
                  have q1 : H12 t1 = some (.tup [.str "a"]) := by rw [← e2]; exact upd_same
                  generalize e3 : upd H12 t2 (.lst [.str "5"]) = H13 at *
                  have S13 : Same H12 H13 := by rw [← e3]; exact Same.newT ht2
                  have q2 : H13 t2 = some (.lst [.str "5"]) := by rw [← e3]; exact upd_same
                  generalize e4 : upd H13 ol (.lst _) = H14 at *
                  have S14 : Same H13 H14 := by rw [← e4]; exact Same.newT hol
                  have S114 := (S12.trans S13).trans S14
                  have m14 := m11.same S114
                  have n1 : t1 ∉ [p] := notp F11 ht1
                  have n2 : t2 ∉ [p] := notp (F11.same S12) ht2
                  have n3 : ol ∉ [p] := notp ((F11.same S12).same S13) hol
                  have qm : SqL K (off H14 [p]) ol (oddK t1 t2) := SqL.offT (by rw [← e4]; exact upd_same) n3
                  have D1 : Dp K (off H14 [p]) (.ref t1) (.tuple [.str "a"]) := .tup (xs := [.str "a"]) (SqT.offT (S14 _ _ (S13 _ _ q1)) n1) (.cons (.str _) .nil)
                  have D2 : Dp K (off H14 [p]) (.ref t2) (.list [.str "5"]) := .lst (xs := [.str "5"]) (SqL.offT (S14 _ _ q2) n2) (.cons (.str _) .nil)
                  have Dm : DpAll K (off H14 [p]) (oddK t1 t2) oddD := .cons .non (.cons (.int 5) (.cons (.str "") (.cons (.str "A") (.cons D1 (.cons D2 (.cons (.bl true) (.cons (.str "a b") .nil)))))))
                  clear e2 e3 e4
                  refine ⟨p, l, .ref ol, rfl, m14.2, .inl ⟨ol, _, rfl, .inl qm, by show 0 < 8; decide, by show 8 < 1000; decide, fun x H15 hx m15 => ?_⟩⟩
                  obtain ⟨d, hd, hdp⟩ := Dm.memT hx
                  have hxd := (hdp.mv m15 mp).on
                  have m15' := m14.trans m15
                  have kA15 := ((kA11.same (S114.offT [p])).mv m15).on
                  have kB15 := ((kB11.same (S114.offT [p])).mv m15).on
                  have vA15 := ((vA11.same (S114.offT [p])).mv m15 mp).on
                  have hdk : dok 3 d = true := by
                    have h : oddD.all (dok 3) = true := by decide +kernel
                    exact List.all_eq_true.mp h d hd
                  obtain ⟨dx, fs, hi1, l1, l2, l3, l4⟩ := kA15.ins
                  obtain ⟨dy, gs, hi2, j1, j2, j3, j4⟩ := kB15.ins
                  have of1 := odd_no hk d hd false
                  have of2 := odd_no hk d hd true
                  refine ⟨_, rfl, a1, _, dx, fs, _, rfl, hi1, l2, (M.fits k).mono (by decide), _, rfl, rfl, a1, x, false, d, 3, rfl, kA15, hok, hxd, hdk, fun Ha Sa => ?_⟩
                  rw [of1]
                  refine ⟨_, _, rfl, rfl, _, rfl, iteF ?_⟩
                  refine ⟨_, rfl, a1, _, dx, fs, _, rfl, Sa _ _ hi1, l2, (M.fitsO k).mono (by decide), _, rfl, rfl, rfl, a1, x, true, d, 3, rfl, kA15.same Sa, hok, hxd.monoT Sa d, hdk, fun Hb Sb => ?_⟩
                  rw [of2]
                  refine ⟨_, _, rfl, rfl, _, rfl, iteF ?_⟩
                  have Sc := Sa.trans Sb
                  refine ⟨_, rfl, a1, _, dx, fs, _, rfl, Sc _ _ hi1, l1, (M.text k).mono (by decide), rfl, a1, rfl, kA15.same Sc, hok, fun Hd Sd => ?_⟩
                  have Se := Sc.trans Sd
                  refine ⟨_, rfl, a2, _, dy, gs, _, rfl, Se _ _ hi2, j1, (M.text k2).mono (by decide), rfl, a2, rfl, kB15.same Se, hok2, fun Hf Sf => ⟨rfl, ?_⟩⟩
                  have Sg := Se.trans Sf
                  have heq : decide (V.str (textK k) = V.str (textK k2)) = eqK k (some k2) := rfl
                  rw [heq]
                  generalize hsh : eqK k (some k2) = sh
                  refine ⟨_, rfl, _, rfl, a1, _, dx, fs, _, _, rfl, Sg _ _ hi1, (M.eq k).mono (by decide), tyK A k2 (Sg _ _ hi2), nfK A k k2, a1, .ref a2, some k2, rfl, kA15.same Sg, hok, ⟨hok2, a2, rfl, kB15.same Sg⟩, fun Hh Sh => ?_⟩
                  rw [hsh]
                  have Si := Sg.trans Sh
                  refine ⟨_, rfl, _, rfl, a1, _, dx, fs, _, _, rfl, Si _ _ hi1, (M.eq k).mono (by decide), neK A k, tyK A k2 (Si _ _ hi2), nfK A k k2, a1, .ref a2, some k2, rfl, kA15.same Si, hok, ⟨hok2, a2, rfl, kB15.same Si⟩, fun Hj Sj => ⟨_, rfl, ?_⟩⟩
                  rw [hsh]
                  have Sk := Si.trans Sj
                  refine ⟨_, rfl, _, rfl, a1, _, dx, fs, _, _, rfl, Sk _ _ hi1, (M.eq k).mono (by decide), .str _, nfS A k, a1, .str (textK k), none, rfl, kA15.same Sk, hok, ⟨.str (textK k), .str _, rfl, rfl⟩, fun Hl Sl => ?_⟩
                  have Sm := Sk.trans Sl
                  refine ⟨_, rfl, _, rfl, a1, _, dx, fs, _, rfl, Sm _ _ hi1, (M.has k).mono (by decide), a1, x, d, 3, rfl, kA15.same Sm, hok, hxd.monoT Sm d, hdk, fun Hn Sn => ⟨_, rfl, ?_⟩⟩
                  rw [of1]
                  have So := Sm.trans Sn
                  refine ⟨by show 4 ≤ sizeLine; decide, fun p1 hp1 => ?_⟩
                  refine ⟨_, rfl, _, rfl, _, rfl, by show 4 ≤ sizeLine; decide, fun p2 hp2 => ?_⟩
                  have Sp := (So.trans (Same.newT (o := .lst [.bl sh, .bl (!sh), .bl (eqK k none), .bl (false != false)]) hp1)).trans (Same.newT (o := .lst [.bl sh, .bl (!sh), .bl false, .bl false]) hp2)
                  refine ⟨.ref p1, .ref p2, .list [.bool sh, .bool (!sh), .bool false, .bool false], rfl, .lst (SqL.of ((Same.newT hp2) _ _ upd_same)) (.cons (.bl _) (.cons (.bl _) (.cons (.bl _) (.cons (.bl _) .nil)))),
                    .lst (SqL.of upd_same) (.cons (.bl _) (.cons (.bl _) (.cons (.bl _) (.cons (.bl _) .nil)))), rfl, fun Hq Sq => ?_⟩
                  refine ⟨_, rfl, iteF ?_⟩
                  have Sr := Sp.trans Sq
                  refine ⟨_, rfl, _, rfl, v, some k, rfl, ⟨hk, vA15.same Sr⟩, fun r Hr Ss hr3 => ?_⟩
                  obtain ⟨a3, rfl, kC⟩ := hr3
                  have St := Sr.trans Ss
                  obtain ⟨dz, us, hi3, _⟩ := kC.ins
                  have hself : eqK k (some k) = true := decide_eq_true rfl
                  refine ⟨a1, _, dx, fs, _, _, rfl, St _ _ hi1, (M.eq k).mono (by decide), neK A k, tyK A k hi3, nfK A k k, a1, .ref a3, some k, rfl, kA15.same St, hok, ⟨hok, a3, rfl, kC⟩, fun Hu Su => ⟨_, rfl, _, rfl, ?_⟩⟩
                  rw [hself]
                  refine iteF ?_
                  have Sv := St.trans Su
                  refine ⟨_, rfl, _, _, _, _, true, rfl, .own _, .base (tyK A k (Sv _ _ hi1)), isaK A k, _, rfl, iteF ?_⟩
                  exact ⟨⟨_, _, _, _, _, _, _, _, _, _, _, _, _, _, _, _, rfl⟩, m15'.same Sv⟩
    · rintro σ' H' ⟨⟨x2, x3, x4, x5, x6, x7, x8, x9, x10, x11, x12, x13, x14, x15, x16, x17, rfl⟩, m0⟩
      obtain ⟨mc, u, cr, cv⟩ := A.cv_Number_MOST
      have ha : ("a" : Str) ∈ menuW := by decide +kernel
      have hb : ("b" : Str) ∈ menuW := by decide +kernel
      have hm : ∀ y ∈ (["a", "b"] : List Str), y ∈ menuW := fun y hy => by
        simp only [List.mem_cons, List.not_mem_nil, or_false] at hy
        rcases hy with rfl | rfl
        · exact ha
        · exact hb
      have hnd : (["a", "b"] : List Str).Nodup := by decide +kernel
      have hnd2 : (["b", "a"] : List Str).Nodup := by decide +kernel
      have hso : PyProof.Rows.sortedS ["a", "b"] = true := by decide +kernel
      have hpl : ∀ w ∈ (["a", "b"] : List Str), plainS w = true := fun w hw => menu_plain w (hm w hw)
      have hpl2 : ∀ w ∈ (["b", "a"] : List Str), plainS w = true := fun w hw => hpl w (by simp only [List.mem_cons, List.not_mem_nil, or_false] at hw ⊢; exact hw.symm)
      have hok : (KindD.of ["a", "b"]).ok := ⟨by show 1 ≤ 2; decide, by show 2 ≤ 6; decide, fun w hw => plain_word (hpl w hw)⟩
      refine ⟨c.Number, mc, .int 99999, u, rfl, cr, cv, rfl, _, rfl, iteTk (by decide) ?_⟩
      refine ⟨rfl, fun x dx hx hdx ne => ?_⟩
      refine ⟨x, dx, ["b", "a"], rfl, upd_same, by show 1 ≤ 2; decide, by show 2 ≤ 6; decide, hnd2, hpl2, fun ys v H2 e1 e2 e3 e4 e5 => ⟨rfl, ?_⟩⟩
      have ey : ys = ([("a" : Str), "b"] : List Str) := two_words hm hnd hso e1 e2
      subst ey
      refine ⟨rfl, fun y dy hy hdy ne2 => ?_⟩
      refine ⟨y, dy, ["a", "b"], rfl, upd_same, by show 1 ≤ 2; decide, by show 2 ≤ 6; decide, hnd, hpl, fun zs w' H3 g1 g2 g3 g4 g5 => ⟨rfl, ?_⟩⟩
      have ez : zs = ([("a" : Str), "b"] : List Str) := two_words hm hnd hso (g1.trans (List.Perm.swap _ _ _)) g2
      subst ez
      have S3 : Same H2 H3 := made_same hy hdy g3
      have k1 : IsKind K c H3 x (.of ["a", "b"]) := ⟨dx, v, S3 _ _ e4, Same.seqTT S3 e5⟩
      have k2 : IsKind K c H3 y (.of ["a", "b"]) := ⟨dy, w', g4, g5⟩
      refine ⟨x, c.OneOf, dx, _, _, _, rfl, S3 _ _ e4, (M.eq (.of ["a", "b"])).mono (by decide), A.ty_OneOf g4, A.nf_OneOf_OneOf, x, .ref y, some (.of ["a", "b"]), rfl, k1, hok, ⟨hok, y, rfl, k2⟩, fun H4 S4 => ?_⟩
      have e : eqK (.of ["a", "b"]) (some (.of ["a", "b"])) = true := decide_eq_true (rfl : V.str (textK (.of ["a", "b"])) = V.str (textK (.of ["a", "b"])))
      rw [e]
      exact q _
end
end Toy
namespace Toy
open PySem PySem.Spec PyProof.Rows L2
section
variable {P : Program} {w : World} {K : PySem.W.Frag} {mg : Str → Option Value} {base : Heap} {c : Cs}
theorem kind_m (A : Alls K mg c) (c1 : Cl P w K mg base CX0 1 "is_word" (spPred K wordD) []) (c2 : Cl P w K mg base CX0 2 "is_plain" (spPred K plainD) []) (c3 : Cl P w K mg base CX0 2 "is_number_word" (spPred K numD) []) : KindM P w K mg base c := by
  have F := mt_fits A c1 c2 c3
  refine ⟨mt_text A, mt_hint A, mt_words A, F.fits, F.fitsO, F.fitsWO, fun k => ?_, fun k => ?_, fun k hz => ?_⟩
  · cases k with
    | any => exact ⟨⟨_, A.me_AnyWord___contains__, f_Kind_has A F _⟩, A.cl_AnyWord⟩
    | of ws => exact ⟨⟨_, A.me_OneOf___contains__, f_Kind_has A F _⟩, A.cl_OneOf⟩
    | num lo hi => exact ⟨⟨_, A.me_Number___contains__, f_Kind_has A F _⟩, A.cl_Number⟩
  · cases k with
    | any => exact ⟨⟨_, A.me_AnyWord___eq__, f_Kind_eq A _⟩, A.cl_AnyWord⟩
    | of ws => exact ⟨⟨_, A.me_OneOf___eq__, f_Kind_eq A _⟩, A.cl_OneOf⟩
    | num lo hi => exact ⟨⟨_, A.me_Number___eq__, f_Kind_eq A _⟩, A.cl_Number⟩
  · cases k with
    | any => exact ⟨⟨_, A.me_AnyWord___repr__, f_Kind_repr A _ hz⟩, A.cl_AnyWord⟩
    | of ws => exact ⟨⟨_, A.me_OneOf___repr__, f_Kind_repr A _ hz⟩, A.cl_OneOf⟩
    | num lo hi => exact ⟨⟨_, A.me_Number___repr__, f_Kind_repr A _ hz⟩, A.cl_Number⟩
end
theorem fun_uniq {K : PySem.W.Frag} {x q : Str} {st : Stmt} {f : Addr} {fd fd' : FuncData} (a : Fun K x q st f fd) (b : Fun K x q st f fd') : fd = fd' := by
  obtain ⟨_, _, _, _, _, _, _, _, _, _, l1, _⟩ := a.ex
  obtain ⟨_, _, _, _, _, _, _, _, _, _, l2, _⟩ := b.ex
  rw [l1] at l2
  injection l2 with l2
  injection l2 with _ _ l2
  injection l2
theorem law_end {P : Program} {w : World} {K : PySem.W.Frag} {mg : Str → Option Value} {x y : Str} {st : Stmt} {fa : Addr} {k : Nat} {sp : Sp} (D : Df K mg x st)
    (hb : ∀ (kV doc pm : Value) (an : Option Addr) (cdv ct : Value) (v : Value), bindArgs (PySem.W.fnOf x x (defArgs st) (defBody st) (defScope st) .none kV doc pm an cdv ct) ⟨[v], []⟩ = pure [(y, v)])
    (o : ∀ base : Heap, K.In base → base.Ns mainGlobals mg → Okd P w K mg base CX0 k x st [y] sp) (hfa : mg x = some (.ref fa)) :
    ∃ fd : FuncData, (∀ (s : Shared) (v : Value), BindsTo s fd ⟨[v], []⟩ [(y, v)]) ∧ ∀ base : Heap, K.In base → base.Ns mainGlobals mg → FnOk P w K mg base CX0 k fa fd [y] sp := by
  obtain ⟨f, fd, F, hm⟩ := D.ex
  have e := hm.symm.trans hfa
  injection e with e
  injection e with e
  subst e
  refine ⟨fd, fun s v => ?_, fun base h1 h2 => ?_⟩
  · obtain ⟨oc, od, kV, doc, pm, an, cdv, ct, osl, rfl, lk, hcd⟩ := F.ex
    exact .of_eq (hb kV doc pm an cdv ct v)
  · obtain ⟨f', fd', F', hm', ok⟩ := (o base h1 h2).ex
    have e := hm'.symm.trans hm
    injection e with e
    injection e with e
    subst e
    rw [fun_uniq F F']
    exact ok
abbrev lawLevel : Nat := 7
theorem law_all {P : Program} {w : World} {K : PySem.W.Frag} {mg : Str → Option Value} {base : Heap} {c : Cs} (A : Alls K mg c) : Okd P w K mg base CX0 lawLevel "law" s_law ["_law_script"] (spLaw K) := by
  have T := A.T
  have c1 := c__law_feed_ok (P := P) (w := w) (base := base) A.d__law_feed T
  have c2 := c__law_take_ok (P := P) (w := w) (K := K) (base := base) A.d__law_take T
  have c3 := c__law_of_ok (P := P) (w := w) (base := base) A.d__law_of T c2
  have c4 := c__law_same_ok (P := P) (w := w) (base := base) A.d__law_same T 5
  have w1 := (o_is_word (P := P) (w := w) (base := base) A.d_is_word T A.GC).cl fun _ _ _ _ _ _ us hl => match us, hl with | [_], _ => rfl
  have w2 := (o_is_plain (P := P) (w := w) (base := base) A.d_is_plain T w1).cl fun _ _ _ _ _ _ us hl => match us, hl with | [_], _ => rfl
  have w3 := (o_is_number_word (P := P) (w := w) (base := base) A.d_is_number_word T A.GC w1).cl fun _ _ _ _ _ _ us hl => match us, hl with | [_], _ => rfl
  have w4 := (o_is_number (P := P) (w := w) (base := base) A.d_is_number T).cl fun _ _ _ _ _ _ us hl => match us, hl with | [_], _ => rfl
  have w5 := (o_is_between (P := P) (w := w) (base := base) A.d_is_between T w4).cl fun _ _ _ _ _ _ us hl => match us, hl with | [_, _, _], _ => rfl
  have c5 := o__law_mixed (P := P) (w := w) (base := base) A.d__law_mixed T c2
  have c6 := o__law_plain_words (P := P) (w := w) (base := base) A.d__law_plain_words T c5
  have c7 := o__law_kind (P := P) (w := w) (base := base) A.d__law_kind T c2 c3 c6
  have m1 := mk_OneOf A w2
  have c8 := o__law_ready_kind A (mk_Number A w5) m1
  have c9 := o__law_fits (P := P) (w := w) (base := base) A.d__law_fits T (o__law_is_num A.d__law_is_num T)
  exact o_law A c1 c3 c4 c7 c8 c6 c9 (kind_m A w1 w2 w3) m1
theorem walk {l : PySem.W.OpenLaw} {q : Program} {loose : List Str} {XP : (Str → Option Value) → Heap → Prop} {YP : World → Heap → Prop} {d : DefRec} {K : Params → PySem.W.Frag} (hn : l.most = some 63) (hdf : d.params.defaults = [])
    (hY : ∀ (w : World) (h : Heap), YP w h → (K w.params).In h) (hd : d.name = "law")
    (F : ∀ (w : World) (mg : Str → Option Value) (h : Heap), (K w.params).In h → h.Ns mainGlobals mg → ∃ c, Alls (K w.params) mg c) :
    PySem.W.WalkO q loose XP YP l.row.toRowW d [] (fun f vs => PySem.call f vs) :=
  L2.walk_of (n := 63) (k := lawLevel) (x := "_law_script") (CX := fun _ => CX0) (sp := fun w => spLaw (K w.params)) hn (by decide) hdf ⟨rfl, by decide, by decide⟩ hY
    (fun w mg fa h KX G hmg => by
      obtain ⟨c, A⟩ := F w mg h KX G
      rw [hd] at hmg
      exact law_end A.d_law (fun _ _ _ _ _ _ _ => rfl) (fun base _ _ => law_all (P := l.prog) (w := w) (base := base) A) hmg)
    (fun _ _ a ns hl _ hS => ⟨a, ns, rfl, hS, hl, fun _ => rfl⟩) fun _ _ _ _ _ z => z
end Toy

open PySem PySem.W PyProof.Rows in
set_option maxRecDepth 100000 in
set_option maxHeartbeats 0 in
theorem PySem.Challenge.cw_tabsure_k03_kinds_asked_holds : PySem.Challenge.rw_tabsure_k03_kinds_asked.Holds := by
  w_on; o_law; k_head; (case hw => w_witness2)
  k_fill
  refine Toy.walk (l := PySem.Challenge.rw_tabsure_k03_kinds_asked) rfl rfl (fun w h Y => PySem.W.kIn_of Y) rfl ?F
  case F =>
    intro w mg h KX G
    refine' Toy.all_mk KX G ?hn_Kind ?hn_AnyWord ?hn_OneOf ?hn_Number ?hgc ?htc ?hp_Kind ?hh_Kind ?ho_Kind ?hs_Kind ?hk_Kind ?hm_Kind ?hb_Kind ?hc_Kind ?hf_Kind_fits ?hf_Kind_words ?hf_Kind_hint ?hf_Kind_text ?hf_Kind___contains__ ?hf_Kind___eq__ ?hf_Kind___repr__ ?hp_AnyWord ?hh_AnyWord ?ho_AnyWord ?hs_AnyWord ?hk_AnyWord ?hm_AnyWord ?hb_AnyWord ?hc_AnyWord ?hf_AnyWord_fits ?hf_AnyWord_words ?hf_AnyWord_hint ?hf_AnyWord_text ?hf_AnyWord___contains__ ?hf_AnyWord___eq__ ?hf_AnyWord___repr__ ?hp_OneOf ?hh_OneOf ?ho_OneOf ?hs_OneOf ?hk_OneOf ?hm_OneOf ?hb_OneOf ?hc_OneOf ?hf_OneOf_fits ?hf_OneOf_words ?hf_OneOf_hint ?hf_OneOf_text ?hf_OneOf___contains__ ?hf_OneOf___eq__ ?hf_OneOf___repr__ ?hf_OneOf___init__ ?hp_Number ?hh_Number ?ho_Number ?hs_Number ?hk_Number ?hm_Number ?hb_Number ?hc_Number ?hf_Number_fits ?hf_Number_words ?hf_Number_hint ?hf_Number_text ?hf_Number___contains__ ?hf_Number___eq__ ?hf_Number___repr__ ?hf_Number___init__ ?hi_Kind_fits ?hi_Kind_words ?hi_Kind_hint ?hi_Kind_text ?hi_Kind___contains__ ?hi_Kind___eq__ ?hi_Kind___repr__ ?hi_AnyWord_fits ?hi_AnyWord_hint ?hi_AnyWord_text ?hi_OneOf___init__ ?hi_OneOf_fits ?hi_OneOf_words ?hi_OneOf_text ?hi_Number___init__ ?hi_Number_fits ?hi_Number_hint ?hi_Number_text ?l_Kind_fits ?c_Kind_fits ?k_Kind_fits ?w0_Kind_fits ?l_Kind_words ?c_Kind_words ?k_Kind_words ?l_Kind_hint ?c_Kind_hint ?k_Kind_hint ?l_Kind_text ?c_Kind_text ?k_Kind_text ?l_Kind___contains__ ?c_Kind___contains__ ?k_Kind___contains__ ?l_Kind___eq__ ?c_Kind___eq__ ?k_Kind___eq__ ?l_Kind___repr__ ?c_Kind___repr__ ?k_Kind___repr__ ?l_AnyWord_fits ?c_AnyWord_fits ?k_AnyWord_fits ?w0_AnyWord_fits ?l_AnyWord_hint ?c_AnyWord_hint ?k_AnyWord_hint ?l_AnyWord_text ?c_AnyWord_text ?k_AnyWord_text ?l_OneOf___init__ ?c_OneOf___init__ ?k_OneOf___init__ ?l_OneOf_fits ?c_OneOf_fits ?k_OneOf_fits ?w0_OneOf_fits ?l_OneOf_words ?c_OneOf_words ?k_OneOf_words ?l_OneOf_text ?c_OneOf_text ?k_OneOf_text ?l_Number___init__ ?c_Number___init__ ?k_Number___init__ ?l_Number_fits ?c_Number_fits ?k_Number_fits ?w0_Number_fits ?l_Number_hint ?c_Number_hint ?k_Number_hint ?l_Number_text ?c_Number_text ?k_Number_text ?h0_Kind ?he_Kind ?h0_AnyWord ?he_AnyWord ?he_OneOf ?hx_OneOf_own_words ?he_Number ?hx_Number_low ?hx_Number_high ?hr_Number_MOST ?hg_Number_MOST ?hv_Number_MOST ?ic_Kind ?it_Kind ?is_Kind ?ib_NoneType_Kind ?ib_bool_Kind ?ib_int_Kind ?ib_str_Kind ?ib_list_Kind ?ib_tuple_Kind ?ib_dict_Kind ?io_Kind_Kind ?io_AnyWord_Kind ?io_OneOf_Kind ?io_Number_Kind ?nb_Kind_NoneType ?nb_Kind_bool ?nb_Kind_int ?nb_Kind_str ?nb_Kind_list ?nb_Kind_tuple ?nb_Kind_dict ?no_Kind_Kind ?nb_AnyWord_NoneType ?nb_AnyWord_bool ?nb_AnyWord_int ?nb_AnyWord_str ?nb_AnyWord_list ?nb_AnyWord_tuple ?nb_AnyWord_dict ?no_AnyWord_Kind ?no_AnyWord_AnyWord ?no_AnyWord_OneOf ?no_AnyWord_Number ?nb_OneOf_NoneType ?nb_OneOf_bool ?nb_OneOf_int ?nb_OneOf_str ?nb_OneOf_list ?nb_OneOf_tuple ?nb_OneOf_dict ?no_OneOf_Kind ?no_OneOf_AnyWord ?no_OneOf_OneOf ?no_OneOf_Number ?nb_Number_NoneType ?nb_Number_bool ?nb_Number_int ?nb_Number_str ?nb_Number_list ?nb_Number_tuple ?nb_Number_dict ?no_Number_Kind ?no_Number_AnyWord ?no_Number_OneOf ?no_Number_Number ?hn_is_number ?l_is_number ?c_is_number ?k_is_number ?hn_is_between ?l_is_between ?c_is_between ?k_is_between ?hn_is_word ?l_is_word ?c_is_word ?k_is_word ?hn_is_plain ?l_is_plain ?c_is_plain ?k_is_plain ?hn_is_number_word ?l_is_number_word ?c_is_number_word ?k_is_number_word ?hn__law_feed ?l__law_feed ?c__law_feed ?k__law_feed ?hn__law_take ?l__law_take ?c__law_take ?k__law_take ?hn__law_of ?l__law_of ?c__law_of ?k__law_of ?hn__law_mixed ?l__law_mixed ?c__law_mixed ?k__law_mixed ?hn__law_same ?l__law_same ?c__law_same ?k__law_same ?hn__law_plain_words ?l__law_plain_words ?c__law_plain_words ?k__law_plain_words ?hn__law_kind ?l__law_kind ?c__law_kind ?k__law_kind ?hn__law_ready_kind ?l__law_ready_kind ?c__law_ready_kind ?k__law_ready_kind ?hn__law_fits ?l__law_fits ?c__law_fits ?k__law_fits ?hn__law_is_num ?l__law_is_num ?c__law_is_num ?k__law_is_num ?hn_law ?l_law ?c_law ?k_law ?z0 ?z1 ?z2 ?z3 ?z4 ?z5 ?z6 ?z7 ?z8 ?z9 ?z10 ?z11 ?z12 ?z13 ?z14 ?z15 ?z16 ?z17 ?z18 ?z19 ?cst0 ?cst1 ?cst2 ?cst3
    (case hn_Kind => k_is)
    (case hn_AnyWord => k_is)
    (case hn_OneOf => k_is)
    (case hn_Number => k_is)
    (case hgc => k_is)
    (case htc => k_is)
    (case hp_Kind => k_is)
    (case hh_Kind => k_is)
    (case ho_Kind => k_is)
    (case hs_Kind => k_is)
    (case hk_Kind => k_is)
    (case hm_Kind => k_is)
    (case hb_Kind => k_is)
    (case hc_Kind => k_is)
    (case hf_Kind_fits => k_is)
    (case hf_Kind_words => k_is)
    (case hf_Kind_hint => k_is)
    (case hf_Kind_text => k_is)
    (case hf_Kind___contains__ => k_is)
    (case hf_Kind___eq__ => k_is)
    (case hf_Kind___repr__ => k_is)
    (case hp_AnyWord => k_is)
    (case hh_AnyWord => k_is)
    (case ho_AnyWord => k_is)
    (case hs_AnyWord => k_is)
    (case hk_AnyWord => k_is)
    (case hm_AnyWord => k_is)
    (case hb_AnyWord => k_is)
    (case hc_AnyWord => k_is)
    (case hf_AnyWord_fits => k_is)
    (case hf_AnyWord_words => k_is)
    (case hf_AnyWord_hint => k_is)
    (case hf_AnyWord_text => k_is)
    (case hf_AnyWord___contains__ => k_is)
    (case hf_AnyWord___eq__ => k_is)
    (case hf_AnyWord___repr__ => k_is)
    (case hp_OneOf => k_is)
    (case hh_OneOf => k_is)
    (case ho_OneOf => k_is)
    (case hs_OneOf => k_is)
    (case hk_OneOf => k_is)
    (case hm_OneOf => k_is)
    (case hb_OneOf => k_is)
    (case hc_OneOf => k_is)
    (case hf_OneOf_fits => k_is)
    (case hf_OneOf_words => k_is)
    (case hf_OneOf_hint => k_is)
    (case hf_OneOf_text => k_is)
    (case hf_OneOf___contains__ => k_is)
    (case hf_OneOf___eq__ => k_is)
    (case hf_OneOf___repr__ => k_is)
    (case hf_OneOf___init__ => k_is)
    (case hp_Number => k_is)
    (case hh_Number => k_is)
    (case ho_Number => k_is)
    (case hs_Number => k_is)
    (case hk_Number => k_is)
    (case hm_Number => k_is)
    (case hb_Number => k_is)
    (case hc_Number => k_is)
    (case hf_Number_fits => k_is)
    (case hf_Number_words => k_is)
    (case hf_Number_hint => k_is)
    (case hf_Number_text => k_is)
    (case hf_Number___contains__ => k_is)
    (case hf_Number___eq__ => k_is)
    (case hf_Number___repr__ => k_is)
    (case hf_Number___init__ => k_is)
    (case hi_Kind_fits => k_is)
    (case hi_Kind_words => k_is)
    (case hi_Kind_hint => k_is)
    (case hi_Kind_text => k_is)
    (case hi_Kind___contains__ => k_is)
    (case hi_Kind___eq__ => k_is)
    (case hi_Kind___repr__ => k_is)
    (case hi_AnyWord_fits => k_is)
    (case hi_AnyWord_hint => k_is)
    (case hi_AnyWord_text => k_is)
    (case hi_OneOf___init__ => k_is)
    (case hi_OneOf_fits => k_is)
    (case hi_OneOf_words => k_is)
    (case hi_OneOf_text => k_is)
    (case hi_Number___init__ => k_is)
    (case hi_Number_fits => k_is)
    (case hi_Number_hint => k_is)
    (case hi_Number_text => k_is)
    (case l_Kind_fits => k_is)
    (case c_Kind_fits => k_is)
    (case k_Kind_fits => k_is)
    (case w0_Kind_fits => k_is)
    (case l_Kind_words => k_is)
    (case c_Kind_words => k_is)
    (case k_Kind_words => k_is)
    (case l_Kind_hint => k_is)
    (case c_Kind_hint => k_is)
    (case k_Kind_hint => k_is)
    (case l_Kind_text => k_is)
    (case c_Kind_text => k_is)
    (case k_Kind_text => k_is)
    (case l_Kind___contains__ => k_is)
    (case c_Kind___contains__ => k_is)
    (case k_Kind___contains__ => k_is)
    (case l_Kind___eq__ => k_is)
    (case c_Kind___eq__ => k_is)
    (case k_Kind___eq__ => k_is)
    (case l_Kind___repr__ => k_is)
    (case c_Kind___repr__ => k_is)
    (case k_Kind___repr__ => k_is)
    (case l_AnyWord_fits => k_is)
    (case c_AnyWord_fits => k_is)
    (case k_AnyWord_fits => k_is)
    (case w0_AnyWord_fits => k_is)
    (case l_AnyWord_hint => k_is)
    (case c_AnyWord_hint => k_is)
    (case k_AnyWord_hint => k_is)
    (case l_AnyWord_text => k_is)
    (case c_AnyWord_text => k_is)
    (case k_AnyWord_text => k_is)
    (case l_OneOf___init__ => k_is)
    (case c_OneOf___init__ => k_is)
    (case k_OneOf___init__ => k_is)
    (case l_OneOf_fits => k_is)
    (case c_OneOf_fits => k_is)
    (case k_OneOf_fits => k_is)
    (case w0_OneOf_fits => k_is)
    (case l_OneOf_words => k_is)
    (case c_OneOf_words => k_is)
    (case k_OneOf_words => k_is)
    (case l_OneOf_text => k_is)
    (case c_OneOf_text => k_is)
    (case k_OneOf_text => k_is)
    (case l_Number___init__ => k_is)
    (case c_Number___init__ => k_is)
    (case k_Number___init__ => k_is)
    (case l_Number_fits => k_is)
    (case c_Number_fits => k_is)
    (case k_Number_fits => k_is)
    (case w0_Number_fits => k_is)
    (case l_Number_hint => k_is)
    (case c_Number_hint => k_is)
    (case k_Number_hint => k_is)
    (case l_Number_text => k_is)
    (case c_Number_text => k_is)
    (case k_Number_text => k_is)
    (case h0_Kind => k_is)
    (case he_Kind => k_is)
    (case h0_AnyWord => k_is)
    (case he_AnyWord => k_is)
    (case he_OneOf => k_is)
    (case hx_OneOf_own_words => k_is)
    (case he_Number => k_is)
    (case hx_Number_low => k_is)
    (case hx_Number_high => k_is)
    (case hr_Number_MOST => k_is)
    (case hg_Number_MOST => k_is)
    (case hv_Number_MOST => k_is)
    (case ic_Kind => k_is)
    (case it_Kind => k_is)
    (case is_Kind => k_is)
    (case ib_NoneType_Kind => k_is)
    (case ib_bool_Kind => k_is)
    (case ib_int_Kind => k_is)
    (case ib_str_Kind => k_is)
    (case ib_list_Kind => k_is)
    (case ib_tuple_Kind => k_is)
    (case ib_dict_Kind => k_is)
    (case io_Kind_Kind => k_is)
    (case io_AnyWord_Kind => k_is)
    (case io_OneOf_Kind => k_is)
    (case io_Number_Kind => k_is)
    (case nb_Kind_NoneType => k_is)
    (case nb_Kind_bool => k_is)
    (case nb_Kind_int => k_is)
    (case nb_Kind_str => k_is)
    (case nb_Kind_list => k_is)
    (case nb_Kind_tuple => k_is)
    (case nb_Kind_dict => k_is)
    (case no_Kind_Kind => k_is)
    (case nb_AnyWord_NoneType => k_is)
    (case nb_AnyWord_bool => k_is)
    (case nb_AnyWord_int => k_is)
    (case nb_AnyWord_str => k_is)
    (case nb_AnyWord_list => k_is)
    (case nb_AnyWord_tuple => k_is)
    (case nb_AnyWord_dict => k_is)
    (case no_AnyWord_Kind => k_is)
    (case no_AnyWord_AnyWord => k_is)
    (case no_AnyWord_OneOf => k_is)
    (case no_AnyWord_Number => k_is)
    (case nb_OneOf_NoneType => k_is)
    (case nb_OneOf_bool => k_is)
    (case nb_OneOf_int => k_is)
    (case nb_OneOf_str => k_is)
    (case nb_OneOf_list => k_is)
    (case nb_OneOf_tuple => k_is)
    (case nb_OneOf_dict => k_is)
    (case no_OneOf_Kind => k_is)
    (case no_OneOf_AnyWord => k_is)
    (case no_OneOf_OneOf => k_is)
    (case no_OneOf_Number => k_is)
    (case nb_Number_NoneType => k_is)
    (case nb_Number_bool => k_is)
    (case nb_Number_int => k_is)
    (case nb_Number_str => k_is)
    (case nb_Number_list => k_is)
    (case nb_Number_tuple => k_is)
    (case nb_Number_dict => k_is)
    (case no_Number_Kind => k_is)
    (case no_Number_AnyWord => k_is)
    (case no_Number_OneOf => k_is)
    (case no_Number_Number => k_is)
    (case hn_is_number => k_is)
    (case l_is_number => k_is)
    (case c_is_number => k_is)
    (case k_is_number => k_is)
    (case hn_is_between => k_is)
    (case l_is_between => k_is)
    (case c_is_between => k_is)
    (case k_is_between => k_is)
    (case hn_is_word => k_is)
    (case l_is_word => k_is)
    (case c_is_word => k_is)
    (case k_is_word => k_is)
    (case hn_is_plain => k_is)
    (case l_is_plain => k_is)
    (case c_is_plain => k_is)
    (case k_is_plain => k_is)
    (case hn_is_number_word => k_is)
    (case l_is_number_word => k_is)
    (case c_is_number_word => k_is)
    (case k_is_number_word => k_is)
    (case hn__law_feed => k_is)
    (case l__law_feed => k_is)
    (case c__law_feed => k_is)
    (case k__law_feed => k_is)
    (case hn__law_take => k_is)
    (case l__law_take => k_is)
    (case c__law_take => k_is)
    (case k__law_take => k_is)
    (case hn__law_of => k_is)
    (case l__law_of => k_is)
    (case c__law_of => k_is)
    (case k__law_of => k_is)
    (case hn__law_mixed => k_is)
    (case l__law_mixed => k_is)
    (case c__law_mixed => k_is)
    (case k__law_mixed => k_is)
    (case hn__law_same => k_is)
    (case l__law_same => k_is)
    (case c__law_same => k_is)
    (case k__law_same => k_is)
    (case hn__law_plain_words => k_is)
    (case l__law_plain_words => k_is)
    (case c__law_plain_words => k_is)
    (case k__law_plain_words => k_is)
    (case hn__law_kind => k_is)
    (case l__law_kind => k_is)
    (case c__law_kind => k_is)
    (case k__law_kind => k_is)
    (case hn__law_ready_kind => k_is)
    (case l__law_ready_kind => k_is)
    (case c__law_ready_kind => k_is)
    (case k__law_ready_kind => k_is)
    (case hn__law_fits => k_is)
    (case l__law_fits => k_is)
    (case c__law_fits => k_is)
    (case k__law_fits => k_is)
    (case hn__law_is_num => k_is)
    (case l__law_is_num => k_is)
    (case c__law_is_num => k_is)
    (case k__law_is_num => k_is)
    (case hn_law => k_is)
    (case l_law => k_is)
    (case c_law => k_is)
    (case k_law => k_is)
    (case z0 => k_is)
    (case z1 => k_is)
    (case z2 => k_is)
    (case z3 => k_is)
    (case z4 => k_is)
    (case z5 => k_is)
    (case z6 => k_is)
    (case z7 => k_is)
    (case z8 => k_is)
    (case z9 => k_is)
    (case z10 => k_is)
    (case z11 => k_is)
    (case z12 => k_is)
    (case z13 => k_is)
    (case z14 => k_is)
    (case z15 => k_is)
    (case z16 => k_is)
    (case z17 => k_is)
    (case z18 => k_is)
    (case z19 => k_is)
    (case cst0 => k_is)
    (case cst1 => k_is)
    (case cst2 => k_is)
    (case cst3 => k_is)
#print axioms PySem.Challenge.cw_tabsure_k03_kinds_asked_holds
