import PyProof.Rows.All
import Wide.All
import OpenK.AllK
import Wide.FinOn
import HandS.ForMost
import HandS.IsInst
import HandS.Defaults
import HandS.Codes
import HandS.Flow
import HandS.Evl
import HandS.Star
import HandS.MakeKw
import HandS.ClsMeth
import HandS.FStr
import HandS.Style
import HandS.RaiseMore
import KE.GoesEnum
import HandS.TupAny
import PySem.Challenge.RW_tabsure_k05_options_and_places
set_option Elab.async false
set_option linter.all false
set_option maxRecDepth 100000
set_option maxHeartbeats 4000000
namespace L2
open PySem PySem.Spec PyProof.Rows
/-! ### calls of a def by its name -/
structure Cl (P : Program) (w : World) (K : PySem.W.Frag) (mg : Str → Option Value) (base : Heap) (CX : CXT) (k : Nat) (x : Str) (sp : Sp) (dvs : List V) : Prop where
  ex : ∃ (f : Addr) (fd : FuncData) (ps : List Str) (ds : List Value), FnOk P w K mg base CX k f fd ps sp ∧ mg x = some (.ref f) ∧ PySem.W.keepIn K (.ref f) = true ∧ Binds K fd ps ds ∧ Vals dvs ds
section
variable {X : Cx} {k j : Nat} {x : Str} {p pos : Pos} {t : TA} {sp : Sp} {dvs : List V} {e : Expr} {es : List Expr}
theorem pe_c (c : Cl X.prog X.w X.K X.mg X.base CX0 k x sp dvs) (hr : Room j X.A) (hk : k ≤ j) (hg : Gl X x) (ha : PA X (e :: es) t)
    (hdb : (x == ("__debug__" : Str)) = false := by decide) (he : starEach (e :: es) X.env = (false, eval e X.env) :: starEach es X.env := by rfl) (hpl : (backTo pos (starEach es X.env)).any (·.1) = false := by rfl) :
    PE X (.Call (.Name x p) (e :: es) [] pos) (tCall sp dvs E0 t) := by
  obtain ⟨f, fd, ps, ds, F, hm, kp, b, d⟩ := c.ex
  exact pe_call F (hr.mono hk) hg hm kp b d pass0 ha hdb he hpl
end
/-! ### calls with keywords alone -/
structure CalN (P : Program) (w : World) (K : PySem.W.Frag) (mg : Str → Option Value) (base : Heap) (k : Nat) (x : Str) (n : Nat) (ks : List Str) (gV : List V → List V → List V) (sp : Sp) : Prop where
  ex : ∃ (f : Addr) (fd : FuncData) (ps : List Str) (g : List Value → List Value → List Value), FnOk P w K mg base CX0 k f fd ps sp ∧ mg x = some (.ref f) ∧ PySem.W.keepIn K (.ref f) = true ∧ KBn K fd ps n ks g gV
section
variable {X : Cx} {k j n : Nat} {x : Str} {p pos : Pos} {kws : List Keyword} {tk t : TA} {ks : List Str} {gV : List V → List V → List V} {sp : Sp} {e : Expr} {es : List Expr}
theorem pe_ck0 (c : CalN X.prog X.w X.K X.mg X.base k x 0 ks gV sp) (hr : Room j X.A) (hk : k ≤ j) (hg : Gl X x) (hkw : PK X kws tk)
    (hall : (backToKw pos (keywordEach kws X.env)).all (·.1.isSome) = true := by rfl) (hks : (backToKw pos (keywordEach kws X.env)).filterMap (·.1) = ks := by rfl) (hdb : (x == ("__debug__" : Str)) = false := by decide)
    (hpl : ((backTo pos (starEach [] X.env)).any (·.1) || (backToKw pos (keywordEach kws X.env)).any (·.1.isNone)) = false := by rfl) :
    PE X (.Call (.Name x p) [] kws pos) (tCallN 0 ks.length sp gV E0 tNil tk) := by
  obtain ⟨f, fd, ps, g, F, hm, kp, hb⟩ := c.ex
  refine ⟨fun pins s σ H Q I h => ?_⟩
  refine wpAny_Call_Name_kw (ld_glob I hg hm ?_ hdb)
  refine PySem.W.callWith_KW0 (h₀ := X.base) I.ok.mod.kin kp hall ?_ hpl
  refine thn (hkw.run pos pins s σ H _ I h) fun ws s2 ⟨zs, H2, I2, rz, l1, l2, q2⟩ => ⟨I2.kIn, ?_⟩
  rw [hks]
  exact run_fnN (us := []) (vs := []) F (hr.mono hk) hb pass0 I2 .nil rz l1 l2 q2
theorem pe_ck (c : CalN X.prog X.w X.K X.mg X.base k x n ks gV sp) (hr : Room j X.A) (hk : k ≤ j) (hg : Gl X x) (ha : PA X (e :: es) t) (hkw : PK X kws tk)
    (hall : (backToKw pos (keywordEach kws X.env)).all (·.1.isSome) = true := by rfl) (hks : (backToKw pos (keywordEach kws X.env)).filterMap (·.1) = ks := by rfl)
    (hdb : (x == ("__debug__" : Str)) = false := by decide) (he : starEach (e :: es) X.env = (false, eval e X.env) :: starEach es X.env := by rfl)
    (hpl : ((backTo pos (starEach (e :: es) X.env)).any (·.1) || (backToKw pos (keywordEach kws X.env)).any (·.1.isNone)) = false := by rfl) :
    PE X (.Call (.Name x p) (e :: es) kws pos) (tCallN n ks.length sp gV E0 t tk) := by
  obtain ⟨f, fd, ps, g, F, hm, kp, hb⟩ := c.ex
  exact pe_callN F (hr.mono hk) hg hm kp hb pass0 ha hkw hall hks hdb he hpl
end
/-! ### a def of the text -/
structure Df (K : PySem.W.Frag) (mg : Str → Option Value) (x : Str) (st : Stmt) : Prop where
  ex : ∃ (f : Addr) (fd : FuncData), Fun K x x st f fd ∧ mg x = some (.ref f)
theorem df_mk {K : PySem.W.Frag} {h : Heap} {mg : Str → Option Value} {x : Str} {st : Stmt} {f : Addr} {oc : Value} {od an : Option Addr} {osl : Array (Option Value)} {kV doc pm cdv ct : Value} (X : K.In h) (G : h.Ns mainGlobals mg)
    (a : PySem.W.nsIn K mainGlobals x = some (some (.ref f)))
    (l : K.lookup f = some ⟨oc, od, .func (PySem.W.fnOf x x (defArgs st) (defBody st) (defScope st) .none kV doc pm an cdv ct), osl⟩)
    (c : PySem.W.codeIn K cdv x = true) (k : PySem.W.keepIn K (.ref f) = true) : Df K mg x st := ⟨f, _, fun_mk l c k, PySem.W.mg_of X G a⟩
section
variable {P : Program} {w : World} {K : PySem.W.Frag} {mg : Str → Option Value} {base : Heap}
theorem cal_mk {x : Str} {st : Stmt} {N ps : List Str} {k : Nat} {sp : Sp} (D : Df K mg x st) (S : FnScope N ps (defScope st))
    (hb : ∀ (kV doc pm : Value) (an : Option Addr) (cdv ct : Value) (us : List Value), us.length = ps.length → bindArgs (PySem.W.fnOf x x (defArgs st) (defBody st) (defScope st) .none kV doc pm an cdv ct) ⟨us, []⟩ = pure (ps.zip us))
    (len : ∀ vs H Q E, sp vs H Q E → vs.length = ps.length)
    (hbody : ∀ (f : Addr) (cdv : Value) (A : Around) (outer : List Env) (s : Shared) (H : Hp) (vs : List V) (Q : VK) (E : XK), Room k (A.deeper (envOfC x (defScope st) s.heap.objs.size f cdv)) → sp vs H Q E →
      ∃ t, PSs (cxOf CX0 P w K mg base N x (defScope st) f cdv A outer s H E).nox (defBody st) t ∧ t { nx := fun _ H' => Q .non H', rt := Q } (start N vs) H) : Cl P w K mg base CX0 (k + 1) x sp [] := by
  obtain ⟨f, fd, F, hm⟩ := D.ex
  exact ⟨f, fd, ps, [], F.ok S len (hbody f), hm, F.kp, F.binds hb, .nil⟩
end
/-! ### heaps off some addresses -/
def off (H : Hp) (S : List Addr) : Hp := fun b => if b ∈ S then none else H b
theorem off_same (H : Hp) (S : List Addr) : Same (off H S) H := fun b o h => by
  unfold off at h
  split at h
  · cases h
  · exact h
theorem off_ne {H : Hp} {S : List Addr} {b : Addr} (h : b ∉ S) : off H S b = H b := by unfold off; rw [if_neg h]
theorem off_in {H : Hp} {S : List Addr} {b : Addr} (h : b ∈ S) : off H S b = none := by unfold off; rw [if_pos h]
/-- off more addresses: less -/
theorem off_sub {H : Hp} {S T : List Addr} (h : ∀ b ∈ S, b ∈ T) : Same (off H T) (off H S) := fun b o e => by
  by_cases hb : b ∈ T
  · rw [off_in hb] at e; cases e
  · rw [off_ne hb] at e; rw [off_ne fun q => hb (h b q)]; exact e
theorem Same.offT {H H' : Hp} (S : List Addr) (s : Same H H') : Same (off H S) (off H' S) := fun b o h => by
  by_cases e : b ∈ S
  · rw [off_in e] at h; cases h
  · rw [off_ne e] at h ⊢; exact s b o h
/-- the addresses of S are taken -/
def Tk (H : Hp) (S : List Addr) : Prop := ∀ b ∈ S, H b ≠ none
theorem Tk.nil {H : Hp} : Tk H [] := fun b h => by cases h
theorem Tk.cons {H : Hp} {a : Addr} {S : List Addr} (h : H a ≠ none) (t : Tk H S) : Tk H (a :: S) := fun b hb => by
  rcases List.mem_cons.mp hb with rfl | hb
  · exact h
  · exact t b hb
theorem Tk.notIn {H : Hp} {a : Addr} {S : List Addr} (t : Tk H S) (h : H a = none) : a ∉ S := fun q => t a q h
theorem Tk.same {H H' : Hp} {S : List Addr} (t : Tk H S) (e : Same H H') : Tk H' S := fun b hb => by
  cases q : H b with
  | none => exact absurd q (t b hb)
  | some o => rw [e b o q]; intro z; cases z
theorem off_nil {H : Hp} : off H [] = H := by
  funext b; exact off_ne (by simp)
/-- H off S stays when something of S is written anew -/
theorem off_upd {H : Hp} {S : List Addr} {p : Addr} {o : HO} (h : p ∈ S) : off (upd H p o) S = off H S := by
  funext b
  by_cases e : b ∈ S
  · rw [off_in e, off_in e]
  · rw [off_ne e, off_ne e, upd_ne fun q => e (by rw [q]; exact h)]
theorem SqL.offT {K : PySem.W.Frag} {H : Hp} {S : List Addr} {a : Addr} {xs : List V} (h : H a = some (.lst xs)) (n : a ∉ S) : SqL K (off H S) a xs := SqL.of (by rw [off_ne n]; exact h)
theorem SqT.offT {K : PySem.W.Frag} {H : Hp} {S : List Addr} {a : Addr} {xs : List V} (h : H a = some (.tup xs)) (n : a ∉ S) : SqT K (off H S) a xs := SqT.of (by rw [off_ne n]; exact h)
theorem Same.newT {H : Hp} {p : Addr} {o : HO} (h : H p = none) : Same H (upd H p o) := fun b u e => by
  rw [upd_ne (ne_of_none e h)]; exact e
theorem Same.mutT {H H' : Hp} {p : Addr} {o : HO} (e : Same H H') (h : H p = none) : Same H (upd H' p o) := fun a u ha => by
  rw [upd_ne (ne_of_none ha h)]; exact e a u ha
theorem Same.trans_new {H H' : Hp} {p : Addr} {o : HO} (s : Same H H') (h : H' p = none) : Same H (upd H' p o) := s.trans (Same.newT h)
theorem Same.seqTT {K : PySem.W.Frag} {H H' : Hp} {a : Addr} {xs : List V} (e : Same H H') (h : SqT K H a xs) : SqT K H' a xs := by
  rcases h with (h | ⟨o, h⟩) | h
  · exact .inl (.inl (e _ _ h))
  · exact .inl (.inr ⟨o, e _ _ h⟩)
  · exact .inr h
/-! ### data -/
mutual
theorem Dp.monoT {K : PySem.W.Frag} {H H' : Hp} (e : Same H H') : ∀ (d : PyData) {v : V}, Dp K H v d → Dp K H' v d
  | .none, _, h => by cases h; exact .non
  | .bool b, _, h => by cases h; exact .bl b
  | .int i, _, h => by cases h; exact .int i
  | .str x, _, h => by cases h; exact .str x
  | .list ds, _, h => by
    cases h with
    | lst hs ha => exact .lst (Same.seq e hs) (DpAll.monoT e ds ha)
  | .tuple ds, _, h => by
    cases h with
    | tup hs ha => exact .tup (Same.seqTT e hs) (DpAll.monoT e ds ha)
  | .dict _, _, h => by cases h
theorem DpAll.monoT {K : PySem.W.Frag} {H H' : Hp} (e : Same H H') : ∀ (ds : List PyData) {vs : List V}, DpAll K H vs ds → DpAll K H' vs ds
  | [], _, h => by cases h; exact .nil
  | d :: ds, _, h => by
    cases h with
    | cons h1 h2 => exact .cons (Dp.monoT e d h1) (DpAll.monoT e ds h2)
end
theorem DpAll.lengthT {K : PySem.W.Frag} {H : Hp} : ∀ {vs : List V} {ds : List PyData}, DpAll K H vs ds → vs.length = ds.length
  | _, _, .nil => rfl
  | _, _, .cons _ t => congrArg Nat.succ (DpAll.lengthT t)
theorem DpAll.getT {K : PySem.W.Frag} {H : Hp} : ∀ {vs : List V} {ds : List PyData} {i : Nat} {v : V}, DpAll K H vs ds → vs[i]? = some v → ∃ d, ds[i]? = some d ∧ Dp K H v d
  | _, _, _, _, .nil, e => by simp at e
  | _, _, 0, _, .cons h _, e => by simp at e; subst e; exact ⟨_, rfl, h⟩
  | _, _, i + 1, _, .cons _ t, e => by
    obtain ⟨d, h1, h2⟩ := DpAll.getT (i := i) t (by simpa using e)
    exact ⟨d, by simpa using h1, h2⟩
theorem DpAll.getDT {K : PySem.W.Frag} {H : Hp} : ∀ {vs : List V} {ds : List PyData} {i : Nat} {d : PyData}, DpAll K H vs ds → ds[i]? = some d → ∃ v, vs[i]? = some v ∧ Dp K H v d
  | _, _, _, _, .nil, e => by simp at e
  | _, _, 0, _, .cons h _, e => by simp at e; subst e; exact ⟨_, rfl, h⟩
  | _, _, i + 1, _, .cons _ t, e => by
    obtain ⟨v, h1, h2⟩ := DpAll.getDT (i := i) t (by simpa using e)
    exact ⟨v, by simpa using h1, h2⟩
theorem DpAll.memT {K : PySem.W.Frag} {H : Hp} {vs : List V} {ds : List PyData} {v : V} (h : DpAll K H vs ds) (hv : v ∈ vs) : ∃ d ∈ ds, Dp K H v d := by
  obtain ⟨i, hi⟩ := List.mem_iff_getElem?.mp hv
  obtain ⟨d, h1, h2⟩ := h.getT hi
  exact ⟨d, List.mem_of_getElem? h1, h2⟩
theorem DpAll.appendT {K : PySem.W.Frag} {H : Hp} : ∀ {vs us : List V} {ds es : List PyData}, DpAll K H vs ds → DpAll K H us es → DpAll K H (vs ++ us) (ds ++ es)
  | _, _, _, _, .nil, s => s
  | _, _, _, _, .cons h t, s => .cons h (DpAll.appendT t s)
theorem DpAll.strsT {K : PySem.W.Frag} {H : Hp} : ∀ (xs : List Str), DpAll K H (xs.map V.str) (xs.map PyData.str)
  | [] => .nil
  | x :: xs => .cons (.str x) (DpAll.strsT xs)
/-- a value's type's name -/
def tyN : PyData → String
  | .none => "NoneType" | .bool _ => "bool" | .int _ => "int" | .str _ => "str" | .list _ => "list" | .tuple _ => "tuple" | .dict _ => "dict"
theorem Dp.tyT {K : PySem.W.Frag} {H : Hp} {v : V} {d : PyData} (h : Dp K H v d) : TyX K H v (.type (tyN d)) := by
  cases h with
  | non => exact .base .non
  | bl b => exact .base (.bl b)
  | int i => exact .base (.int i)
  | str x => exact .base (.str x)
  | lst hs _ =>
    rcases hs with (h | ⟨o, h⟩) | ⟨o, its, n, h, hc, _⟩
    · exact .base (.lst h)
    · exact .base (.frz h)
    · exact .kList h hc
  | tup hs _ =>
    rcases hs with (h | ⟨o, h⟩) | ⟨o, its, n, h, hc, _⟩
    · exact .base (.tup h)
    · exact .fTuple h
    · exact .kTuple h hc
def isStr : PyData → Bool | .str _ => true | _ => false
def isInt : PyData → Bool | .int _ => true | .bool _ => true | _ => false
def isBool : PyData → Bool | .bool _ => true | _ => false
def isLst : PyData → Bool | .list _ => true | _ => false
def isTup : PyData → Bool | .tuple _ => true | _ => false
def isNonD : PyData → Bool | .none => true | _ => false
theorem kit_str : ∀ d : PyData, kitB (tyN d) "str" = some (isStr d)
  | .none => (by decide +kernel : kitB "NoneType" "str" = some false)
  | .bool _ => (by decide +kernel : kitB "bool" "str" = some false)
  | .int _ => (by decide +kernel : kitB "int" "str" = some false)
  | .str _ => (by decide +kernel : kitB "str" "str" = some true)
  | .list _ => (by decide +kernel : kitB "list" "str" = some false)
  | .tuple _ => (by decide +kernel : kitB "tuple" "str" = some false)
  | .dict _ => (by decide +kernel : kitB "dict" "str" = some false)
theorem kit_int : ∀ d : PyData, kitB (tyN d) "int" = some (isInt d)
  | .none => (by decide +kernel : kitB "NoneType" "int" = some false)
  | .bool _ => (by decide +kernel : kitB "bool" "int" = some true)
  | .int _ => (by decide +kernel : kitB "int" "int" = some true)
  | .str _ => (by decide +kernel : kitB "str" "int" = some false)
  | .list _ => (by decide +kernel : kitB "list" "int" = some false)
  | .tuple _ => (by decide +kernel : kitB "tuple" "int" = some false)
  | .dict _ => (by decide +kernel : kitB "dict" "int" = some false)
theorem kit_bool : ∀ d : PyData, kitB (tyN d) "bool" = some (isBool d)
  | .none => (by decide +kernel : kitB "NoneType" "bool" = some false)
  | .bool _ => (by decide +kernel : kitB "bool" "bool" = some true)
  | .int _ => (by decide +kernel : kitB "int" "bool" = some false)
  | .str _ => (by decide +kernel : kitB "str" "bool" = some false)
  | .list _ => (by decide +kernel : kitB "list" "bool" = some false)
  | .tuple _ => (by decide +kernel : kitB "tuple" "bool" = some false)
  | .dict _ => (by decide +kernel : kitB "dict" "bool" = some false)
theorem kit_list : ∀ d : PyData, kitB (tyN d) "list" = some (isLst d)
  | .none => (by decide +kernel : kitB "NoneType" "list" = some false)
  | .bool _ => (by decide +kernel : kitB "bool" "list" = some false)
  | .int _ => (by decide +kernel : kitB "int" "list" = some false)
  | .str _ => (by decide +kernel : kitB "str" "list" = some false)
  | .list _ => (by decide +kernel : kitB "list" "list" = some true)
  | .tuple _ => (by decide +kernel : kitB "tuple" "list" = some false)
  | .dict _ => (by decide +kernel : kitB "dict" "list" = some false)
theorem kit_tuple : ∀ d : PyData, kitB (tyN d) "tuple" = some (isTup d)
  | .none => (by decide +kernel : kitB "NoneType" "tuple" = some false)
  | .bool _ => (by decide +kernel : kitB "bool" "tuple" = some false)
  | .int _ => (by decide +kernel : kitB "int" "tuple" = some false)
  | .str _ => (by decide +kernel : kitB "str" "tuple" = some false)
  | .list _ => (by decide +kernel : kitB "list" "tuple" = some false)
  | .tuple _ => (by decide +kernel : kitB "tuple" "tuple" = some true)
  | .dict _ => (by decide +kernel : kitB "dict" "tuple" = some false)
section
variable {K : PySem.W.Frag} {H : Hp} {v : V} {d : PyData} {Q : VK}
theorem isi_data {t : String} {b : Bool} (h : Dp K H v d) (e : kitB (tyN d) t = some b) (q : Q (.bl b) H) : rIsi K [v, .ty t] H Q :=
  ⟨v, .ty t, _, _, _, rfl, .ty t, h.tyT, kit_ty e, q⟩
theorem isi_str (h : Dp K H v d) (q : Q (.bl (isStr d)) H) : rIsi K [v, .ty "str"] H Q := isi_data h (kit_str d) q
theorem isi_int (h : Dp K H v d) (q : Q (.bl (isInt d)) H) : rIsi K [v, .ty "int"] H Q := isi_data h (kit_int d) q
theorem isi_bool (h : Dp K H v d) (q : Q (.bl (isBool d)) H) : rIsi K [v, .ty "bool"] H Q := isi_data h (kit_bool d) q
theorem isi_list (h : Dp K H v d) (q : Q (.bl (isLst d)) H) : rIsi K [v, .ty "list"] H Q := isi_data h (kit_list d) q
theorem isi_tuple (h : Dp K H v d) (q : Q (.bl (isTup d)) H) : rIsi K [v, .ty "tuple"] H Q := isi_data h (kit_tuple d) q
theorem clsLT : Paired ClsV [.ty "list", .ty "tuple"] [.type "list", .type "tuple"] := .cons (.ty _) (.cons (.ty _) .nil)
theorem kit_lt {K : PySem.W.Frag} (d : PyData) : PySem.W.kitAny K (.type (tyN d)) [.type "list", .type "tuple"] = some (isLst d || isTup d) := by
  refine kitAny_cons (kit_ty (kit_list d)) (fun e => ?_) (fun e => by rw [e]; rfl)
  rw [e]
  refine kitAny_cons (kit_ty (kit_tuple d)) (fun e2 => ?_) (fun e2 => by rw [e2]; rfl)
  rw [e2]; exact kitAny_nil
theorem Dp.isNonT (h : Dp K H v d) : decide (v = .non) = isNonD d := by
  cases h <;> simp [isNonD]
end
/-! ### a text's signs in a comprehension -/
theorem lc_str {z : Str} {g : TG} {tt : TT} {te : TE} {vs : List Nat} {σ : St} {H1 : Hp} {D : Addr} {Qd : Hp → Prop} (Pv : Nat → Hp → Prop) (h0 : Pv 0 (upd H1 D (.lst [])))
    (hs : ∀ i c H, z.cps.toList[i]? = some c → Pv i H → g (.str ⟨#[c]⟩) (wipe σ vs) H fun σ2 H2 => wipe σ2 vs = wipe σ vs ∧ tt σ2 H2 fun b H3 =>
      if b = true then te σ2 H3 fun y H4 => ∃ acc, H4 D = some (.lst acc) ∧ acc.length < sizeLine ∧ Pv (i + 1) (upd H4 D (.lst (acc ++ [y]))) else Pv (i + 1) H3) (hd : ∀ H, Pv z.cps.toList.length H → Qd H) :
    ∃ W : Nat → Nat → Hp → Prop, (∃ m, W 0 m (upd H1 D (.lst []))) ∧ ∀ i m H, W i m H →
      ((Its z).stop i H ∧ Qd H) ∨ ((Its z).go i H ∧ ∃ Nx : Hp → Prop, (∀ H', Nx H' → ∃ m', m' < m ∧ W (i + 1) m' H') ∧ ∀ x H', (Its z).yld i H x H' → g x (wipe σ vs) H' fun σ2 H2 => wipe σ2 vs = wipe σ vs ∧ tt σ2 H2 fun b H3 =>
        if b = true then te σ2 H3 fun y H4 => ∃ acc, H4 D = some (.lst acc) ∧ acc.length < sizeLine ∧ Nx (upd H4 D (.lst (acc ++ [y]))) else Nx H3) := by
  have hl : z.cps.toList.length = z.cps.size := by simp
  refine ⟨fun i m H => m = z.cps.size - i ∧ i ≤ z.cps.size ∧ Pv i H, ⟨z.cps.size, by simp, Nat.zero_le _, h0⟩, ?_⟩
  rintro i m H ⟨rfl, hi, p⟩
  by_cases hlt : i < z.cps.size
  · refine .inr ⟨hlt, Pv (i + 1), fun H' p' => ⟨z.cps.size - (i + 1), by omega, rfl, hlt, p'⟩, fun x H' y => ?_⟩
    obtain ⟨e, c, hc, rfl⟩ := y
    subst e
    exact hs i c _ (by simpa using hc) p
  · have e : i = z.cps.size := by omega
    subst e
    exact .inl ⟨Nat.le_refl _, hd H (by rw [hl]; exact p)⟩
/-- a comprehension over a text whose element is a value f c; what is made on the way stays -/
theorem lc_strV {z : Str} {g : TG} {tt : TT} {te : TE} {vs : List Nat} {σ : St} {H1 : Hp} {D : Addr} {Qd : Hp → Prop} (f : Nat → V) (hD : H1 D = none) (hz : z.length ≤ 100000)
    (hs : ∀ c H (Nx : V → Hp → Prop), c ∈ z.cps.toList → Same H1 H → (∀ H4, Same H H4 → Nx (f c) H4) → g (.str ⟨#[c]⟩) (wipe σ vs) H fun σ2 H2 => wipe σ2 vs = wipe σ vs ∧ tt σ2 H2 fun b H3 => b = true ∧ te σ2 H3 Nx)
    (hg : ∀ v σ H Q Q', (∀ σ H, Q σ H → Q' σ H) → g v σ H Q → g v σ H Q') (ht : ∀ σ H Q Q', (∀ b H, Q b H → Q' b H) → tt σ H Q → tt σ H Q')
    (hd : ∀ H, Same H1 H → H D = some (.lst (z.cps.toList.map f)) → Qd H) :
    ∃ W : Nat → Nat → Hp → Prop, (∃ m, W 0 m (upd H1 D (.lst []))) ∧ ∀ i m H, W i m H →
      ((Its z).stop i H ∧ Qd H) ∨ ((Its z).go i H ∧ ∃ Nx : Hp → Prop, (∀ H', Nx H' → ∃ m', m' < m ∧ W (i + 1) m' H') ∧ ∀ x H', (Its z).yld i H x H' → g x (wipe σ vs) H' fun σ2 H2 => wipe σ2 vs = wipe σ vs ∧ tt σ2 H2 fun b H3 =>
        if b = true then te σ2 H3 fun y H4 => ∃ acc, H4 D = some (.lst acc) ∧ acc.length < sizeLine ∧ Nx (upd H4 D (.lst (acc ++ [y]))) else Nx H3) := by
  refine lc_str (fun i H => Same H1 H ∧ H D = some (.lst ((z.cps.toList.take i).map f))) ⟨Same.newT hD, upd_same⟩ (fun i c H hc hP => ?_) (fun H hP => hd H hP.1 (by rw [hP.2, List.take_length]))
  obtain ⟨hP1, hP2⟩ := hP
  have hi := (List.getElem?_eq_some_iff.mp hc).1
  have hl : z.cps.toList.length = z.length := by simp [Str.length]
  refine hg _ _ _ _ _ ?_ (hs c H (fun y H4 => ∃ acc, H4 D = some (.lst acc) ∧ acc.length < sizeLine ∧ (Same H1 (upd H4 D (.lst (acc ++ [y]))) ∧ upd H4 D (.lst (acc ++ [y])) D = some (.lst ((z.cps.toList.take (i + 1)).map f)))) (List.mem_of_getElem? hc) hP1 fun H4 S4 => ?_)
  · rintro σ2 H2 ⟨e, h⟩
    refine ⟨e, ht _ _ _ _ ?_ h⟩
    rintro b H3 ⟨rfl, h⟩
    exact h
  · refine ⟨_, S4 _ _ hP2, ?_, Same.mutT (hP1.trans S4) hD, ?_⟩
    · rw [List.length_map, List.length_take]
      have : sizeLine = 16777216 := sizeLine_eq
      omega
    · rw [upd_same, List.take_succ, hc, List.map_append]; rfl
theorem gName_mono {i : Nat} : ∀ v σ H (Q Q' : St → Hp → Prop), (∀ σ H, Q σ H → Q' σ H) → gName i v σ H Q → gName i v σ H Q' := fun v σ H Q Q' h q => h _ _ q
theorem tYes_mono : ∀ σ H (Q Q' : Bool → Hp → Prop), (∀ b H, Q b H → Q' b H) → tYes σ H Q → tYes σ H Q' := fun σ H Q Q' h q => h _ _ q
structure Okd (P : Program) (w : World) (K : PySem.W.Frag) (mg : Str → Option Value) (base : Heap) (CX : CXT) (k : Nat) (x : Str) (st : Stmt) (ps : List Str) (sp : Sp) : Prop where
  ex : ∃ (f : Addr) (fd : FuncData), Fun K x x st f fd ∧ mg x = some (.ref f) ∧ FnOk P w K mg base CX k f fd ps sp
section
variable {P : Program} {w : World} {K : PySem.W.Frag} {mg : Str → Option Value} {base : Heap} {CX : CXT} {k : Nat} {x : Str} {st : Stmt} {ps : List Str} {sp : Sp}
theorem ok_mk {N : List Str} (D : Df K mg x st) (S : FnScope N ps (defScope st))
    (len : ∀ vs H Q E, sp vs H Q E → vs.length = ps.length)
    (hbody : ∀ (f : Addr) (cdv : Value) (A : Around) (outer : List Env) (s : Shared) (H : Hp) (vs : List V) (Q : VK) (E : XK), Room k (A.deeper (envOfC x (defScope st) s.heap.objs.size f cdv)) → sp vs H Q E →
      ∃ t, PSs (cxOf CX0 P w K mg base N x (defScope st) f cdv A outer s H E).nox (defBody st) t ∧ t { nx := fun _ H' => Q .non H', rt := Q } (start N vs) H) : Okd P w K mg base CX0 (k + 1) x st ps sp := by
  obtain ⟨f, fd, F, hm⟩ := D.ex
  exact ⟨f, fd, F, hm, F.ok S len (hbody f)⟩
theorem Okd.cl (o : Okd P w K mg base CX k x st ps sp) (hb : ∀ (kV doc pm : Value) (an : Option Addr) (cdv ct : Value) (us : List Value), us.length = ps.length → bindArgs (PySem.W.fnOf x x (defArgs st) (defBody st) (defScope st) .none kV doc pm an cdv ct) ⟨us, []⟩ = pure (ps.zip us)) :
    Cl P w K mg base CX k x sp [] := by
  obtain ⟨f, fd, F, hm, ok⟩ := o.ex
  exact ⟨f, fd, ps, [], ok, hm, F.kp, F.binds hb, .nil⟩
theorem Okd.cn (o : Okd P w K mg base CX0 k x st ps sp) (n : Nat) (ks : List Str) (g : {α : Type} → List α → List α → List α) (hr : ∀ {vs us zs ws}, Vals vs us → Vals zs ws → Vals (g vs zs) (g us ws))
    (hb : ∀ (kV doc pm : Value) (an : Option Addr) (cdv ct : Value) (us ws : List Value), us.length = n → ws.length = ks.length → bindArgs (PySem.W.fnOf x x (defArgs st) (defBody st) (defScope st) .none kV doc pm an cdv ct) ⟨us, ks.zip ws⟩ = pure (ps.zip (g us ws))) :
    CalN P w K mg base k x n ks (fun vs zs => g vs zs) sp := by
  obtain ⟨f, fd, F, hm, ok⟩ := o.ex
  obtain ⟨oc, od, kV, doc, pm, an, cdv, ct, osl, rfl, lk, hcd⟩ := F.ex
  exact ⟨f, _, ps, fun us ws => g us ws, ok, hm, F.kp, ⟨fun s us ws _ l1 l2 => .of_eq (hb kV doc pm an cdv ct us ws l1 l2), fun r1 r2 => hr r1 r2⟩⟩
end
end L2
namespace L2
open PySem PySem.Spec PyProof.Rows
/-! ### the built-ins' names are not the module's -/
structure Txt (mg : Str → Option Value) : Prop where
  b_len : mg "len" = none
  b_int : mg "int" = none
  b_str : mg "str" = none
  b_bool : mg "bool" = none
  b_list : mg "list" = none
  b_tuple : mg "tuple" = none
  b_range : mg "range" = none
  b_isinstance : mg "isinstance" = none
  b_all : mg "all" = none
  b_any : mg "any" = none
  b_sum : mg "sum" = none
  b_max : mg "max" = none
  b_min : mg "min" = none
  b_sorted : mg "sorted" = none
  b_enumerate : mg "enumerate" = none
  b_zip : mg "zip" = none
  b_dict : mg "dict" = none
  b_set : mg "set" = none
  b_repr : mg "repr" = none
  b_super : mg "super" = none
/-! ### the drawing of numbers -/
def Feed (H : Hp) (p l : Addr) : Prop := ∃ (ns : List Int) (i c s : Int), H p = some (.lst [.ref l, .int i, .int c, .int s]) ∧ H l = some (.lst (ns.map V.int)) ∧ l ≠ p ∧ 0 ≤ i ∧ 0 ≤ c ∧ 0 ≤ s ∧ s < 2147483647 ∧ ns.length < 64
/-- the feed has moved, nothing else -/
def Mv (p l : Addr) (H H' : Hp) : Prop := (∀ b o, b ≠ p → H b = some o → H' b = some o) ∧ Feed H' p l
theorem Feed.tk {p l : Addr} {H : Hp} (h : Feed H p l) : H p ≠ none := by
  obtain ⟨ns, i, c, s, h1, r⟩ := h
  rw [h1]; intro z; cases z
theorem Mv.off {p l : Addr} {H H' : Hp} {S : List Addr} (a : Mv p l H H') (h : p ∈ S) : Same (off H S) (off H' S) := fun b o e => by
  by_cases q : b ∈ S
  · rw [off_in q] at e; cases e
  · rw [off_ne q] at e ⊢; exact a.1 b o (fun z => q (by rw [z]; exact h)) e
theorem Mv.refl {p l : Addr} {H : Hp} (h : Feed H p l) : Mv p l H H := ⟨fun _ _ _ e => e, h⟩
theorem Mv.trans {p l : Addr} {H H1 H2 : Hp} (a : Mv p l H H1) (b : Mv p l H1 H2) : Mv p l H H2 := ⟨fun x o n e => b.1 x o n (a.1 x o n e), b.2⟩
theorem Feed.same {p l : Addr} {H H' : Hp} (h : Feed H p l) (e : Same H H') : Feed H' p l := by
  obtain ⟨ns, i, c, s, h1, h2, r⟩ := h
  exact ⟨ns, i, c, s, e _ _ h1, e _ _ h2, r⟩
theorem Mv.of_same {p l : Addr} {H H' : Hp} (h : Feed H p l) (e : Same H H') : Mv p l H H' := ⟨fun b o _ q => e b o q, h.same e⟩
theorem Mv.same {p l : Addr} {H H1 H2 : Hp} (a : Mv p l H H1) (e : Same H1 H2) : Mv p l H H2 := a.trans (Mv.of_same a.2 e)
theorem Mv.mut {p l D : Addr} {H H1 : Hp} {o : HO} (a : Mv p l H H1) (h : H D = none) (hp : D ≠ p) (hl : D ≠ l) : Mv p l H (upd H1 D o) := by
  refine ⟨fun b u n e => by rw [upd_ne (ne_of_none e h)]; exact a.1 b u n e, ?_⟩
  obtain ⟨ns, i, c, s, h1, h2, r⟩ := a.2
  exact ⟨ns, i, c, s, by rw [upd_ne hp.symm]; exact h1, by rw [upd_ne hl.symm]; exact h2, r⟩
theorem Feed.tkl {p l : Addr} {H : Hp} (h : Feed H p l) : H l ≠ none := by
  obtain ⟨ns, i, c, s, h1, h2, r⟩ := h
  rw [h2]; intro z; cases z
theorem Mv.new {p l q : Addr} {H H1 : Hp} {o : HO} (a : Mv p l H H1) (h : H1 q = none) : Mv p l H (upd H1 q o) := a.same (Same.newT h)
theorem Mv.tk {p l : Addr} {H H' : Hp} {S : List Addr} (a : Mv p l H H') (t : Tk H S) : Tk H' S := fun b hb => by
  by_cases e : b = p
  · subst e; exact a.2.tk
  · cases q : H b with
    | none => exact absurd q (t b hb)
    | some o => rw [a.1 b o e q]; intro z; cases z
/-- the feed's own list is written anew -/
theorem Feed.put {H : Hp} {p l : Addr} {ns : List Int} {i c s : Int} (h2 : H l = some (.lst (ns.map V.int))) (hl : l ≠ p) (h3 : 0 ≤ i) (h4 : 0 ≤ c) (h5 : 0 ≤ s) (h6 : s < 2147483647) (h7 : ns.length < 64) :
    Feed (upd H p (.lst [.ref l, .int i, .int c, .int s])) p l := ⟨ns, i, c, s, upd_same, by rw [upd_ne hl]; exact h2, hl, h3, h4, h5, h6, h7⟩
theorem Mv.put {H : Hp} {p l : Addr} {ns : List Int} {i c s : Int} (h2 : H l = some (.lst (ns.map V.int))) (hl : l ≠ p) (h3 : 0 ≤ i) (h4 : 0 ≤ c) (h5 : 0 ≤ s) (h6 : s < 2147483647) (h7 : ns.length < 64) :
    Mv p l H (upd H p (.lst [.ref l, .int i, .int c, .int s])) := ⟨fun b o n e => by rw [upd_ne n]; exact e, Feed.put h2 hl h3 h4 h5 h6 h7⟩
theorem Dp.on {K : PySem.W.Frag} {H : Hp} {S : List Addr} {v : V} {d : PyData} (h : Dp K (off H S) v d) : Dp K H v d := h.monoT (off_same H S) d
theorem DpAll.on {K : PySem.W.Frag} {H : Hp} {S : List Addr} {v : List V} {d : List PyData} (h : DpAll K (off H S) v d) : DpAll K H v d := h.monoT (off_same H S) d
theorem Dp.mv {K : PySem.W.Frag} {H H' : Hp} {p : Addr} {S : List Addr} {v : V} {d : PyData} (h : Dp K (off H S) v d) (m : Mv p l H H') (hp : p ∈ S) : Dp K (off H' S) v d := h.monoT (m.off hp) d
theorem DpAll.mv {K : PySem.W.Frag} {H H' : Hp} {p : Addr} {S : List Addr} {v : List V} {d : List PyData} (h : DpAll K (off H S) v d) (m : Mv p l H H') (hp : p ∈ S) : DpAll K (off H' S) v d := h.monoT (m.off hp) d
/-- take: a number below many -/
def spTake : Sp := fun vs H Q _ => ∃ (p l : Addr) (m : Int), vs = [.ref p, .int m] ∧ Feed H p l ∧ 0 < m ∧ m < 1000 ∧ ∀ (r : Int) (H' : Hp), 0 ≤ r → r < m → Mv p l H H' → Q (.int r) H'
/-- of: one of some -/
def spOf (K : PySem.W.Frag) : Sp := fun vs H Q _ => ∃ (p l : Addr) (v : V), vs = [.ref p, v] ∧ Feed H p l ∧
  ((∃ a xs, v = .ref a ∧ (SqL K (off H [p]) a xs ∨ SqT K (off H [p]) a xs) ∧ 0 < xs.length ∧ xs.length < 1000 ∧ ∀ x H', x ∈ xs → Mv p l H H' → Q x H') ∨
   (∃ z : Str, v = .str z ∧ 0 < z.length ∧ z.length < 1000 ∧ ∀ c H', c ∈ z.cps.toList → Mv p l H H' → Q (.str ⟨#[c]⟩) H'))
def spFeed (K : PySem.W.Frag) : Sp := fun vs H Q _ => ∃ (a : Addr) (ns : List Int), vs = [.ref a] ∧ SqL K H a (ns.map V.int) ∧ ns.length ≤ 63 ∧ ∀ p l H', Same H H' → Feed H' p l → H p = none → H l = none → Q (.ref p) H'
theorem mod_lt {a b : Int} (h : 0 < b) : 0 ≤ a.fmod b ∧ a.fmod b < b := ⟨Int.fmod_nonneg_of_pos _ h, Int.fmod_lt_of_pos _ h⟩
def dok : Nat → PyData → Bool
  | n + 1, .list ds => decide (ds.length ≤ 100000) && ds.all (dok n)
  | n + 1, .tuple ds => decide (ds.length ≤ 100000) && ds.all (dok n)
  | _, .none => true
  | _, .bool _ => true
  | _, .int _ => true
  | _, .str s => decide (s.length ≤ 100000)
  | _, _ => false
/-- same: two equal data -/
def spSame (K : PySem.W.Frag) : Nat → Sp
  | 0 => fun _ _ _ _ => False
  | n + 1 => fun vs H Q _ => ∃ (a b : V) (d : PyData), vs = [a, b] ∧ Dp K H a d ∧ Dp K H b d ∧ dok n d = true ∧ ∀ H', Same H H' → Q (.bl true) H'
theorem same_seqs {K : PySem.W.Frag} {H : Hp} {a b : V} {d : PyData} {n : Nat} (ha : Dp K H a d) (hb : Dp K H b d) (hd : dok n d = true) (hq : (isLst d || isTup d) = true) :
    ∃ (p q : Addr) (xs ys : List V) (ds : List PyData) (m : Nat), n = m + 1 ∧ a = .ref p ∧ b = .ref q ∧ (SqL K H p xs ∨ SqT K H p xs) ∧ (SqL K H q ys ∨ SqT K H q ys) ∧ DpAll K H xs ds ∧ DpAll K H ys ds ∧ ds.length ≤ 100000 ∧ ∀ d ∈ ds, dok m d = true := by
  cases d with
  | list ds =>
    cases n with
    | zero => cases hd
    | succ m =>
      have hd' : (decide (ds.length ≤ 100000) && ds.all (dok m)) = true := hd
      rw [Bool.and_eq_true, List.all_eq_true] at hd'
      cases ha with
      | lst hs hall =>
        cases hb with
        | lst hs2 hall2 => exact ⟨_, _, _, _, ds, m, rfl, rfl, rfl, .inl hs, .inl hs2, hall, hall2, of_decide_eq_true hd'.1, hd'.2⟩
  | tuple ds =>
    cases n with
    | zero => cases hd
    | succ m =>
      have hd' : (decide (ds.length ≤ 100000) && ds.all (dok m)) = true := hd
      rw [Bool.and_eq_true, List.all_eq_true] at hd'
      cases ha with
      | tup hs hall =>
        cases hb with
        | tup hs2 hall2 => exact ⟨_, _, _, _, ds, m, rfl, rfl, rfl, .inr hs, .inr hs2, hall, hall2, of_decide_eq_true hd'.1, hd'.2⟩
  | _ => cases hq
/-- a place of a list or a tuple -/
theorem ix_any {K : PySem.W.Frag} {H : Hp} {p : Addr} {xs : List V} {i : Nat} {x : V} {z : Int} {Q : VK} (h : SqL K H p xs ∨ SqT K H p xs) (hx : xs[i]? = some x) (hz : z = (i : Int)) (q : Q x H) : rIx K (.ref p) (.int z) H Q := by
  subst hz
  exact h.elim (fun h => .inl ⟨p, xs, _, x, rfl, rfl, h, atI_nat hx, q⟩) (fun h => .inr (.inl ⟨p, xs, _, x, rfl, rfl, h, atI_nat hx, q⟩))
theorem Same.seqs {K : PySem.W.Frag} {H H' : Hp} {p : Addr} {xs : List V} (e : Same H H') (h : SqL K H p xs ∨ SqT K H p xs) : SqL K H' p xs ∨ SqT K H' p xs :=
  h.elim (fun h => .inl (Same.seq e h)) (fun h => .inr (Same.seqTT e h))
theorem len_any {K : PySem.W.Frag} {H : Hp} {p : Addr} {xs : List V} (h : SqL K H p xs ∨ SqT K H p xs) : LenV K (.ref p) H xs.length := h.elim (fun h => .inl ⟨_, h, rfl⟩) (fun h => .inr ⟨_, h, rfl⟩)
end L2
namespace L2
open PySem PySem.Spec PyProof.Rows
/-! ### contracts of defs by the form of a call: positional values, keywords named ks -/
abbrev Sp2 := List V → List V → Hp → VK → XK → Prop
structure FnA (P : Program) (w : World) (K : PySem.W.Frag) (mg : Str → Option Value) (base : Heap) (CX : CXT) (k : Nat) (f : Addr) (ks : List Str) (sp : Sp2) : Prop where
  run : ∀ (A : Around) (outer : List Env) (s : Shared) (H : Hp) (us ws : List Value) (vs zs : List V) (Q : VK) (E : XK), Room k A → Env0 P w K mg base A outer s H → Vals vs us → Vals zs ws → zs.length = ks.length → sp vs zs H Q E →
    codeAny (model P w) A (.call (.ref f) ⟨us, ks.zip ws⟩) (CR CX outer P w H s Q E) s
section
variable {P : Program} {w : World} {K : PySem.W.Frag} {mg : Str → Option Value} {base : Heap} {CX : CXT} {k j n : Nat} {f : Addr} {fd : FuncData} {ps ks : List Str} {sp : Sp} {sp2 : Sp2} {ds : List Value} {dvs : List V} {g : List Value → List Value → List Value} {gV : List V → List V → List V}
theorem FnA.mono (F : FnA P w K mg base CX j f ks sp2) (h : j ≤ k) : FnA P w K mg base CX k f ks sp2 := ⟨fun A o s H us ws vs zs Q E hr => F.run A o s H us ws vs zs Q E (hr.mono h)⟩
theorem FnA.imp {sp' : Sp2} (F : FnA P w K mg base CX k f ks sp2) (h : ∀ vs zs H Q E, sp' vs zs H Q E → sp2 vs zs H Q E) : FnA P w K mg base CX k f ks sp' :=
  ⟨fun A o s H us ws vs zs Q E hr he r1 r2 l hs => F.run A o s H us ws vs zs Q E hr he r1 r2 l (h _ _ _ _ _ hs)⟩
theorem kIn0 {A : Around} {outer : List Env} {s : Shared} {H : Hp} (e : Env0 P w K mg base A outer s H) : K.In s.heap := e.mod.kin.keeps fun b o q => (e.bs b o q).1
/-- positional values, then the defaults -/
theorem FnOk.toA (F : FnOk P w K mg base CX k f fd ps sp) (hb : Binds K fd ps ds) (hd : Vals dvs ds) : FnA P w K mg base CX k f [] (fun vs _ H Q E => sp (vs ++ dvs) H Q E) :=
  ⟨fun A o s H us ws vs zs Q E hr he r1 r2 l hs => by
    have r := r1.append hd
    have hl : (us ++ ds).length = ps.length := by rw [← r.length]; exact F.len _ _ _ _ hs
    have := F.run A o s H ⟨us, []⟩ (us ++ ds) (vs ++ dvs) Q E hr he (hb s us (kIn0 he) hl) r hs
    simpa using this⟩
/-- n positional values, keywords named ks -/
theorem FnOk.toK (F : FnOk P w K mg base CX k f fd ps sp) (hb : KBn K fd ps n ks g gV) : FnA P w K mg base CX k f ks (fun vs zs H Q E => vs.length = n ∧ sp (gV vs zs) H Q E) :=
  ⟨fun A o s H us ws vs zs Q E hr he r1 r2 l hs =>
    F.run A o s H ⟨us, ks.zip ws⟩ (g us ws) (gV vs zs) Q E hr he (hb.to s us ws (kIn0 he) (r1.length.symm.trans hs.1) (r2.length.symm.trans l)) (hb.rel r1 r2) hs.2⟩
end
section
variable {X : Cx} {CX : CXT} {k : Nat} {f : Addr} {ks : List Str} {sp : Sp2} {E : XK}
/-- the callee runs, within A -/
theorem run_fnA {A : Around} {pins : List (Addr × Obj)} {σ : St} {H : Hp} {s : Shared} {Q : VK} {us ws : List Value} {vs zs : List V} (F : FnA X.prog X.w X.K X.mg X.base CX k f ks sp) (hr : Room k A) (hf : A.frames = X.A.frames) (hx : Passes CX X E)
    (I : Inv X pins σ H s) (r : Vals vs us) (rz : Vals zs ws) (l : zs.length = ks.length) (h : sp vs zs H Q E) : wpAny (model X.prog X.w) A (call (.ref f) us (ks.zip ws)) (EP X pins σ Q) X.xe s := by
  have e0 : Env0 X.prog X.w X.K X.mg X.base A X.stack s H := by
    have e := I.env0
    exact ⟨by rw [hf]; exact e.frames, e.mod, e.bs, e.bsz, e.funs, e.frf, e.hok, e.bare⟩
  refine wpAny_call (codeAny_mono (F.run A X.stack s H us ws vs zs Q E hr e0 r rz l h) fun r s' hq => ?_)
  cases r with
  | error e => exact hx pins σ H s e s' I hq
  | ok fl =>
    cases fl with
    | ret u => exact I.after hq
    | next => exact False.elim hq
    | brk => exact False.elim hq
    | cont => exact False.elim hq
theorem run_fnA0 {A : Around} {pins : List (Addr × Obj)} {σ : St} {H : Hp} {s : Shared} {Q : VK} {us : List Value} {vs : List V} (F : FnA X.prog X.w X.K X.mg X.base CX k f [] sp) (hr : Room k A) (hf : A.frames = X.A.frames) (hx : Passes CX X E)
    (I : Inv X pins σ H s) (r : Vals vs us) (h : sp vs [] H Q E) : wpAny (model X.prog X.w) A (call (.ref f) us) (EP X pins σ Q) X.xe s := by
  have := run_fnA (ws := []) F hr hf hx I r .nil rfl h
  simpa using this
end
/-! ### methods: the class at C answers to m -/
structure MtC (P : Program) (w : World) (K : PySem.W.Frag) (mg : Str → Option Value) (base : Heap) (CX : CXT) (k : Nat) (C : Addr) (m : Str) (ks : List Str) (sp : Sp2) : Prop where
  ex : ∃ f, Meth K C m f ∧ FnA P w K mg base CX k f ks sp
  cl : Cls K C
section
variable {P : Program} {w : World} {K : PySem.W.Frag} {mg : Str → Option Value} {base : Heap} {CX : CXT} {k j : Nat} {C : Addr} {m : Str} {ks : List Str} {sp sp' : Sp2}
theorem MtC.mono (F : MtC P w K mg base CX j C m ks sp) (h : j ≤ k) : MtC P w K mg base CX k C m ks sp := by
  obtain ⟨⟨f, h1, h2⟩, c⟩ := F
  exact ⟨⟨f, h1, h2.mono h⟩, c⟩
theorem MtC.imp (F : MtC P w K mg base CX k C m ks sp) (h : ∀ vs zs H Q E, sp' vs zs H Q E → sp vs zs H Q E) : MtC P w K mg base CX k C m ks sp' := by
  obtain ⟨⟨f, h1, h2⟩, c⟩ := F
  exact ⟨⟨f, h1, h2.imp h⟩, c⟩
end
def tMethA (X : Cx) (CX : CXT) (k : Nat) (m : Str) (ks : List Str) (E : XK) (ta : TE) (t tk : TA) : TE := fun σ H Q => ta σ H fun x H1 => ∃ a C dx fs sp, x = .ref a ∧ H1 a = some (.ins C dx fs) ∧ fs.lookup m = none ∧ MtC X.prog X.w X.K X.mg X.base CX k C m ks sp ∧
  t σ H1 fun vs H2 => tk σ H2 fun zs H3 => zs.length = ks.length ∧ sp (x :: vs) zs H3 Q E
section
variable {X : Cx} {CX : CXT} {k : Nat} {ks : List Str} {E : XK} {m : Str} {apos pos : Pos} {o e : Expr} {es : List Expr} {kws : List Keyword} {ta : TE} {t tk : TA} {pl : Sem Bool}
theorem pe_methA (hr : Room k X.A) (hx : Passes CX X E) (he : PE X o ta) (ha : PA X (e :: es) t) (hkw : PK X kws tk)
    (hall : (backToKw pos (keywordEach kws X.env)).all (·.1.isSome) = true := by rfl) (hks : (backToKw pos (keywordEach kws X.env)).filterMap (·.1) = ks := by rfl)
    (hst : starEach (e :: es) X.env = (false, eval e X.env) :: starEach es X.env := by rfl)
    (hpl : ((backTo pos (starEach (e :: es) X.env)).any (·.1) || (backToKw pos (keywordEach kws X.env)).any (·.1.isNone)) = false := by rfl)
    (ht : eval (.Call (.Attribute o m apos) (e :: es) kws pos) X.env = (do
      let ov ← eval o X.env
      standAt apos.atName
      let (f, first) ← holding [ov] (getMethod ov m pl)
      callWith pos f first (backTo pos (starEach (e :: es) X.env)) (backToKw pos (keywordEach kws X.env))) := by rfl) :
    PE X (.Call (.Attribute o m apos) (e :: es) kws pos) (tMethA X CX k m ks E ta t tk) := by
  refine ⟨fun pins s σ H Q I h => ?_⟩
  refine PySem.W.methodCall_KW (pl := pl) (thn (he.run pins s σ H _ I h) fun u s1 ⟨x, H1, I1, rx, a, C, dx, fs, sp, ex, ea, l, M, q⟩ => ?_) ht
  subst ex
  obtain rfl : u = Value.ref a := rx
  obtain ⟨⟨f, hm, F⟩, c⟩ := M
  refine getmeth_ok I1 ea c hm l ?_
  refine PySem.W.callWith_KW (first := [.ref a]) (h₀ := X.base) I.ok.mod.kin hm.kp hall (thn (ha.run pos pins s1 σ H1 _ I1 q) fun us s2 ⟨vs, H2, I2, r, q2⟩ => ?_) hpl hst
  refine thn (hkw.run pos pins s2 σ H2 _ I2 q2) fun ws s3 ⟨zs, H3, I3, rz, l2, q3⟩ => ⟨I3.kIn, ?_⟩
  rw [hks]
  exact run_fnA (us := .ref a :: us) (vs := .ref a :: vs) F hr rfl hx I3 (.cons rfl r) rz l2 q3
theorem pe_methA0 (hr : Room k X.A) (hx : Passes CX X E) (he : PE X o ta) (hkw : PK X kws tk)
    (hall : (backToKw pos (keywordEach kws X.env)).all (·.1.isSome) = true := by rfl) (hks : (backToKw pos (keywordEach kws X.env)).filterMap (·.1) = ks := by rfl)
    (hpl : ((backTo pos (starEach [] X.env)).any (·.1) || (backToKw pos (keywordEach kws X.env)).any (·.1.isNone)) = false := by rfl)
    (ht : eval (.Call (.Attribute o m apos) [] kws pos) X.env = (do
      let ov ← eval o X.env
      standAt apos.atName
      let (f, first) ← holding [ov] (getMethod ov m pl)
      callWith pos f first (backTo pos (starEach [] X.env)) (backToKw pos (keywordEach kws X.env))) := by rfl) :
    PE X (.Call (.Attribute o m apos) [] kws pos) (tMethA X CX k m ks E ta tNil tk) := by
  refine ⟨fun pins s σ H Q I h => ?_⟩
  refine PySem.W.methodCall_KW (pl := pl) (thn (he.run pins s σ H _ I h) fun u s1 ⟨x, H1, I1, rx, a, C, dx, fs, sp, ex, ea, l, M, q⟩ => ?_) ht
  subst ex
  obtain rfl : u = Value.ref a := rx
  obtain ⟨⟨f, hm, F⟩, c⟩ := M
  refine getmeth_ok I1 ea c hm l ?_
  refine PySem.W.callWith_KW0 (first := [.ref a]) (h₀ := X.base) I.ok.mod.kin hm.kp hall ?_ hpl
  refine thn (hkw.run pos pins s1 σ H1 _ I1 q) fun ws s3 ⟨zs, H3, I3, rz, l2, q3⟩ => ⟨I3.kIn, ?_⟩
  rw [hks]
  exact run_fnA (us := [.ref a]) (vs := [.ref a]) F hr rfl hx I3 (.cons rfl .nil) rz l2 q3
end
/-! ### new instances: the name x is the class at C -/
structure MkA (P : Program) (w : World) (K : PySem.W.Frag) (mg : Str → Option Value) (base : Heap) (CX : CXT) (k : Nat) (x : Str) (C : Addr) (ks : List Str) (sp : Sp2) : Prop where
  ex : ∃ f, Mk K C f ∧ FnA P w K mg base CX k f ks sp
  mg : mg x = some (.ref C)
def tMakeA (C : Addr) (ks : List Str) (sp : Sp2) (E : XK) (t tk : TA) : TE := fun σ H Q => t σ H fun vs H1 => tk σ H1 fun zs H2 => zs.length = ks.length ∧ ∀ x dx, H2 x = none → H2 dx = none → dx ≠ x →
  sp (.ref x :: vs) zs (upd (upd H2 dx (.own x)) x (.ins C dx [])) (fun v H3 => v = .non ∧ Q (.ref x) H3) E
section
variable {X : Cx} {CX : CXT} {k j : Nat} {C : Addr} {ks : List Str} {sp : Sp2} {E : XK} {x : Str} {p pos : Pos} {e : Expr} {es : List Expr} {kws : List Keyword} {t tk : TA}
theorem run_makeA {pins : List (Addr × Obj)} {σ : St} {H : Hp} {s : Shared} {Q : VK} {us ws : List Value} {vs zs : List V} (M : MkA X.prog X.w X.K X.mg X.base CX k x C ks sp) (hr : Room (k + 1) X.A) (hx : Passes CX X E) (I : Inv X pins σ H s) (r : Vals vs us) (rz : Vals zs ws) (l : zs.length = ks.length)
    (h : ∀ x dx, H x = none → H dx = none → dx ≠ x → sp (.ref x :: vs) zs (upd (upd H dx (.own x)) x (.ins C dx [])) (fun v H2 => v = .non ∧ Q (.ref x) H2) E) :
    wpAny (model X.prog X.w) X.A (call (.ref C) us (ks.zip ws)) (EP X pins σ Q) X.xe s := by
  obtain ⟨⟨f, M, F⟩, _⟩ := M
  have hq := h (s.heap.objs.size + 1) s.heap.objs.size (I.hok.fresh (Nat.le_succ _)) (I.hok.fresh (Nat.le_refl _)) (Nat.ne_of_lt (Nat.lt_succ_self _))
  have I2 := Inv.made (C := C) I
  have r1 : Vals (V.ref (s.heap.objs.size + 1) :: vs) (Value.ref (s.heap.objs.size + 1) :: us) := .cons rfl r
  refine wpAny_call (make_map (f := f) I.kIn M.makes M.init (beq_iff_eq.mp M.fn) (codeAny_mono (F.run _ X.stack _ _ (Value.ref (s.heap.objs.size + 1) :: us) ws _ _ _ E (hr.make C us (ks.zip ws))
    (I2.env0.make C us (ks.zip ws)) r1 rz l hq) fun r s' hq' => ?_))
  cases r with
  | error e => exact hx pins σ _ _ e s' I2 hq'
  | ok fl =>
    cases fl with
    | ret u =>
      obtain ⟨v, H', I3, rv, ev, q3⟩ := I2.after hq'
      subst ev
      exact ⟨rv, ⟨V.ref (s.heap.objs.size + 1), H', I3, rfl, q3⟩⟩
    | next => exact False.elim hq'
    | brk => exact False.elim hq'
    | cont => exact False.elim hq'
theorem pe_makeA (M : MkA X.prog X.w X.K X.mg X.base CX k x C ks sp) (hr : Room j X.A) (hk : k + 1 ≤ j) (hx : Passes CX X E) (hg : Gl X x) (ha : PA X (e :: es) t) (hkw : PK X kws tk)
    (hall : (backToKw pos (keywordEach kws X.env)).all (·.1.isSome) = true := by rfl) (hks : (backToKw pos (keywordEach kws X.env)).filterMap (·.1) = ks := by rfl)
    (hdb : (x == ("__debug__" : Str)) = false := by decide) (he : starEach (e :: es) X.env = (false, eval e X.env) :: starEach es X.env := by rfl)
    (hpl : ((backTo pos (starEach (e :: es) X.env)).any (·.1) || (backToKw pos (keywordEach kws X.env)).any (·.1.isNone)) = false := by rfl) :
    PE X (.Call (.Name x p) (e :: es) kws pos) (tMakeA C ks sp E t tk) := by
  refine ⟨fun pins s σ H Q I h => ?_⟩
  obtain ⟨f, m, F⟩ := M.ex
  refine wpAny_Call_Name_kw (ld_glob I hg M.mg ?_ hdb)
  refine PySem.W.callWith_KW (h₀ := X.base) I.ok.mod.kin m.kp hall (thn (ha.run pos pins s σ H _ I h) fun us s1 ⟨vs, H1, I1, r, q⟩ => ?_) hpl he
  refine thn (hkw.run pos pins s1 σ H1 _ I1 q) fun ws s2 ⟨zs, H2, I2, rz, l2, q2⟩ => ⟨I2.kIn, ?_⟩
  rw [hks]
  exact run_makeA M (hr.mono hk) hx I2 r rz l2 q2
theorem pe_makeA0 (M : MkA X.prog X.w X.K X.mg X.base CX k x C ks sp) (hr : Room j X.A) (hk : k + 1 ≤ j) (hx : Passes CX X E) (hg : Gl X x) (hkw : PK X kws tk)
    (hall : (backToKw pos (keywordEach kws X.env)).all (·.1.isSome) = true := by rfl) (hks : (backToKw pos (keywordEach kws X.env)).filterMap (·.1) = ks := by rfl) (hdb : (x == ("__debug__" : Str)) = false := by decide)
    (hpl : ((backTo pos (starEach [] X.env)).any (·.1) || (backToKw pos (keywordEach kws X.env)).any (·.1.isNone)) = false := by rfl) :
    PE X (.Call (.Name x p) [] kws pos) (tMakeA C ks sp E tNil tk) := by
  refine ⟨fun pins s σ H Q I h => ?_⟩
  obtain ⟨f, m, F⟩ := M.ex
  refine wpAny_Call_Name_kw (ld_glob I hg M.mg ?_ hdb)
  refine PySem.W.callWith_KW0 (h₀ := X.base) I.ok.mod.kin m.kp hall ?_ hpl
  refine thn (hkw.run pos pins s σ H _ I h) fun ws s2 ⟨zs, H2, I2, rz, l2, q2⟩ => ⟨I2.kIn, ?_⟩
  rw [hks]
  exact run_makeA (us := []) (vs := []) M (hr.mono hk) hx I2 .nil rz l2 q2
end
/-- a class without __init__ -/
structure Mk0 (K : PySem.W.Frag) (mg : Str → Option Value) (x : Str) (C : Addr) : Prop where
  makes : PySem.W.makesIn K C = true
  init : PySem.W.findIn K (.ref C) "__init__" = some (some (.builtin "object.__init__"))
  kp : PySem.W.keepIn K (.ref C) = true
  mg : mg x = some (.ref C)
def tMake0 (C : Addr) : TE := fun _ H Q => ∀ x dx, H x = none → H dx = none → dx ≠ x → Q (.ref x) (upd (upd H dx (.own x)) x (.ins C dx []))
theorem make_plain0 {prog : Program} {w : World} {A : Around} {K : PySem.W.Frag} {C : Addr} {R : Result → Shared → Prop} {s : Shared} (X : K.In s.heap) (hm : PySem.W.makesIn K C = true) (hi : PySem.W.findIn K (.ref C) "__init__" = some (some (.builtin "object.__init__")))
    (h : R (.ok (.ret (.ref (s.heap.objs.size + 1)))) { s with heap := (s.heap.push PySem.W.emptyDict).push (PySem.W.instObj C s.heap.objs.size) }) : codeAny (model prog w) A (.call (.ref C) ⟨[], []⟩) R s := by
  obtain ⟨hh, g, d, t, os⟩ := s
  have Y := PySem.W.makes_of (M := model prog w) X hm
  have e2 : ((hh.push PySem.W.emptyDict).push (PySem.W.instObj C hh.objs.size)).get? (hh.objs.size + 1) = some (PySem.W.instObj C hh.objs.size) := by
    have := Heap.get?_push_size (hh.push PySem.W.emptyDict) (o := PySem.W.instObj C hh.objs.size) rfl
    rwa [Heap.size_push] at this
  refine PySem.W.make_core Y (PySem.W.looks_findIn X hi) (fun self => PySem.W.Looks.of_pure (PySem.W.oi_bind self)) (.inr ⟨rfl, rfl⟩) ?_
  have t1 : PySem.W.Looks (model prog w) ((hh.push PySem.W.emptyDict).push (PySem.W.instObj C hh.objs.size)) (typeOf (.ref (hh.objs.size + 1))) (.ref C) := (PySem.W.Looks.ld e2).andThen .now
  have t2 : PySem.W.Looks (model prog w) ((hh.push PySem.W.emptyDict).push (PySem.W.instObj C hh.objs.size)) (isInstance (.ref (hh.objs.size + 1)) (.type "object")) true := t1.andThen (Y.top.keeps fun b o e => Heap.get?_push_of_some _ (Heap.get?_push_of_some _ e))
  refine codeAny_call_builtin PySem.W.oi_plain PySem.W.entry_oi (@PySem.W.check_slot (model prog w) _ _ _ "object.__init__" "object" "__init__" (.ref (hh.objs.size + 1)) [] [] _ PySem.W.oi_kind PySem.W.oi_split t2 (PySem.W.oi_args (.ref (hh.objs.size + 1))) ?_)
  rw [PySem.W.oi_run]
  exact wpAny_pure (And.intro rfl h)
section
variable {X : Cx} {C : Addr} {x : Str} {p pos : Pos}
theorem pe_make00 (M : Mk0 X.K X.mg x C) (hg : Gl X x) (hdb : (x == ("__debug__" : Str)) = false := by decide) : PE X (.Call (.Name x p) [] [] pos) (tMake0 C) := by
  refine ⟨fun pins s σ H Q I h => ?_⟩
  refine wpAny_Call_Name_kw (ld_glob I hg M.mg ?_ hdb)
  refine PySem.W.callWith_K0 I.kIn M.kp (wpAny_call (make_plain0 I.kIn M.makes M.init ?_))
  exact ⟨.ref (s.heap.objs.size + 1), _, Inv.made (C := C) I, rfl, h _ _ (I.hok.fresh (Nat.le_succ _)) (I.hok.fresh (Nat.le_refl _)) (Nat.ne_of_lt (Nat.lt_succ_self _))⟩
end
/-! ### a value's type as the library looks it up -/
theorem looks_ty {X : Cx} {pins : List (Addr × Obj)} {σ : St} {H : Hp} {s : Shared} {M : Model} {y : V} {u t : Value} (I : Inv X pins σ H s) (ry : RelV y u) (ty : TyOf X.K H y t) : PySem.W.Looks M s.heap (typeOf u) t := by
  cases ty with
  | non => cases (show u = Value.none from ry); exact PySem.W.Looks.of_pure rfl
  | bl y => cases (show u = Value.bool y from ry); exact PySem.W.Looks.of_pure rfl
  | int i => obtain ⟨t, q⟩ := (show ∃ t, u = Value.int i t from ry); cases q; exact PySem.W.Looks.of_pure rfl
  | str y => obtain ⟨t, q⟩ := (show ∃ t, u = Value.str y t from ry); cases q; exact PySem.W.Looks.of_pure rfl
  | flt y => obtain ⟨t, q⟩ := (show ∃ t, u = Value.float y t from ry); cases q; exact PySem.W.Looks.of_pure rfl
  | @lst a xs ea =>
    cases (show u = Value.ref a from ry)
    obtain ⟨_, _, n, _, h1⟩ := (show ObjOk X.prog X.w H s.heap a (.lst xs) from I.hok a _ ea)
    exact (PySem.W.Looks.ld h1).andThen .now
  | @frz a ob xs ea =>
    cases (show u = Value.ref a from ry)
    obtain ⟨_, _, _, n, _, h1⟩ := (show ObjOk X.prog X.w H s.heap a (.frz ob (.lst xs)) from I.hok a _ ea)
    exact (PySem.W.Looks.ld h1).andThen .now
  | @tup a xs ea =>
    cases (show u = Value.ref a from ry)
    obtain ⟨_, _, _, o, h1, h2, _⟩ := (show ObjOk X.prog X.w H s.heap a (.tup xs) from I.hok a _ ea)
    exact h2 ▸ (PySem.W.Looks.ld h1).andThen .now
  | @dK a kvs ea =>
    cases (show u = Value.ref a from ry)
    obtain ⟨_, _, vs, _, o, es, ep, h1, h2, _⟩ := (show ObjOk X.prog X.w H s.heap a (.dK kvs) from I.hok a _ ea)
    exact h2.1 ▸ (PySem.W.Looks.ld h1).andThen .now
  | @dT a kvs ea =>
    cases (show u = Value.ref a from ry)
    obtain ⟨_, _, xs, _, o, es, ep, h1, h2, _⟩ := (show ObjOk X.prog X.w H s.heap a (.dT kvs) from I.hok a _ ea)
    exact h2.1 ▸ (PySem.W.Looks.ld h1).andThen .now
  | @ins a C dx fs ea cl ha hn htk hm =>
    cases (show u = Value.ref a from ry)
    obtain ⟨mA, O, _⟩ := ins_get I.hok ea
    obtain ⟨od, J, _⟩ := O.look
    exact J.type
/-! ### == and != by the class's own __eq__ -/
theorem rel_cmp {Q : Value → Shared → Prop} {v : V} {u : Value} {s' : Shared} (r : RelV v u) (h : Q u s') : PySem.W.CmpBack Q u s' := by
  cases u <;> first | exact h | (cases v <;> first | exact r.elim | (obtain ⟨_, z⟩ := r; cases z) | cases r)
def rEqI (X : Cx) (CX : CXT) (k : Nat) (E : XK) : R2 := fun x y H Q => ∃ a C dx fs sp t, x = .ref a ∧ H a = some (.ins C dx fs) ∧ MtC X.prog X.w X.K X.mg X.base CX k C "__eq__" [] sp ∧ TyOf X.K H y t ∧ PySem.W.notFirst X.K C t = true ∧ sp [x, y] [] H Q E
theorem op_eqI {X : Cx} {CX : CXT} {k : Nat} {E : XK} (hr : Room k X.A) (hx : Passes CX X E) : OpR X (compareOp .Eq) (rEqI X CX k E) := by
  rintro pins s σ H x y u v Q I rx ry ⟨a, C, dx, fs, sp, t, rfl, ha, M, ty, nf, q⟩
  obtain rfl : u = Value.ref a := rx
  obtain ⟨⟨f, hm, F⟩, c⟩ := M
  obtain ⟨mA, J, _⟩ := ins_get I.hok ha
  obtain ⟨od, J, _⟩ := J.look
  obtain ⟨m, hF⟩ := I.fr
  show wpAny (model X.prog X.w) X.A (richCompare .Eq (.ref a) v) (EP X pins σ Q) X.xe s
  refine PySem.W.cmp_K (op := .Eq) hr.units0 hF I.ok.mod.kin J (looks_ty I ry ty) nf hm.at_ hm.fn ?_
  exact wpAny_mono (run_fnA0 (us := [.ref a, v]) (vs := [.ref a, y]) F hr rfl hx I (.cons rfl (.cons ry .nil)) q) (fun r s' h => let ⟨_, _, _, rv, _⟩ := h; rel_cmp rv h) fun _ _ e => e
theorem ifBound_B {M : Model} {A : Around} {E : Value → Shared → Prop} {s : Shared} {K : PySem.W.Frag} {x C : Addr} {ox : Obj} {od : Option Obj} {name : Str} {id : String} {args : List Value} {Q : Option Value → Shared → Prop} (X : K.In s.heap) (I : PySem.W.InstAt s.heap x ox C od)
    (hs : PySem.W.findIn K (.ref C) name = some (some (.builtin id))) (hb : ∀ self, bindSpecial (.builtin id) self = pure (.builtin id, [self]))
    (h : wpAny M A (call (.builtin id) (.ref x :: args)) (fun v => Q (some v)) E s) : wpAny M A (callSpecialIfBound? (.ref x) name args) Q E s := by
  simp only [callSpecialIfBound?, bindSpecialIfBound?]
  refine wpAny_holding (wpAny_bind (wpAny_bind (wpAny_bind (I.type.here ((PySem.W.looks_findIn X hs).here ?_)))))
  refine wpAny_bind (wpAny_askSetting (wpAny_ite ?_))
  have fin : wpAny M A (call (.builtin id) ([.ref x] ++ args) >>= fun v => pure (some v)) Q E s := wpAny_bind (wpAny_mono h (fun v s' h' => wpAny_pure h') fun _ _ h' => h')
  split
  · exact wpAny_bind ((PySem.W.Looks.of_pure (hb _)).here (wpAny_pure (by exact fin)))
  · exact wpAny_tryCatch (wpAny_bind ((PySem.W.Looks.of_pure (hb _)).here (wpAny_pure (by exact fin))))
theorem one_bind (self : Value) : bindSpecial (.builtin "object.__ne__") self = pure (.builtin "object.__ne__", [self]) :=
  (Slot.of (T := "object") (name := "__ne__") (owner := "object") (n := "__ne__") (by rw [typeLookup_type, builtinLookup_eq_fast]; kernel_rfl) (by decide +kernel) (by decide +kernel) (by decide +kernel)
    (.inl (by decide +kernel)) (by rw [isSubtype_type]; kernel_rfl)).bind self
theorem one_plain : plainId "object.__ne__" = true := by decide +kernel
section
variable {prog : Program} {w : World} {A : Around} {E : Value → Shared → Prop} {s : Shared} {K : PySem.W.Frag} {x C f : Addr} {ox : Obj} {od : Option Obj} {b tb : Value}
theorem ne_own {Q : Value → Shared → Prop} (hu : A.units + 1 < cLine) (X : K.In s.heap) (I : PySem.W.InstAt s.heap x ox C od) (hb : PySem.W.Looks (model prog w) s.heap (typeOf b) tb) (hn : PySem.W.notFirst K C tb = true)
    (hne : PySem.W.findIn K (.ref C) "__ne__" = some (some (.builtin "object.__ne__"))) (ho : PySem.W.mroIn K C (.type "object") = some true) (hs : PySem.W.findIn K (.ref C) "__eq__" = some (some (.ref f))) (hf : PySem.W.isFn K (.ref f) = true)
    (h : wpAny (model prog w) A.in1 (call (.ref f) [.ref x, b]) (fun v s' => ∃ c, v = .bool c ∧ Q (.bool (!c)) s') E s) : wpAny (model prog w) A (richCompare .NotEq (.ref x) b) Q E s := by
  have one : wpAny (model prog w) A (tryCompare (.ref x) "__ne__" b) (fun r s' => ∃ v, r = some v ∧ Q v s') E s := by
    unfold tryCompare
    refine wpAny_bind (ifBound_B X I hne one_bind (wpAny_call (codeAny_call_builtin one_plain PySem.F.cmpEntry_ne
      (@PySem.W.check_slot (model prog w) _ _ _ "object.__ne__" "object" "__ne__" (.ref x) [b] [] _ PySem.F.cmpKind_ne PySem.F.cmpSplit_ne (I.type.andThen (PySem.W.looks_mroIn X ho)) (PySem.F.cmpArgs_ne _ _) ?_))))
    have hu1 : A.in1.units < cLine := by show A.units + 1 < cLine; exact hu
    unfold Builtin.«object.__ne__»
    repeat (first
      | with_reducible refine wpAny_cRoomFor hu1 ?_
      | (refine wpAny_bind (m := callSpecialIfBound? (.ref x) (Str.ofString "__eq__") [b])
          (PySem.W.ifBound_K X I hs hf (wpAny_mono h (fun r s' hr => by
            obtain ⟨c, rfl, hq⟩ := hr
            repeat (first | exact ⟨_, rfl, hq⟩ | exact wpAny_pure ⟨_, rfl, hq⟩ | exact wpAny_pure (wpAny_pure ⟨_, rfl, hq⟩) | exact wpAny_truthy_bool ⟨_, rfl, hq⟩ | (refine wpAny_bind (m := truthy (.bool _)) (wpAny_truthy_bool ?_)) | wp_step)) fun _ _ e => e)))
      | wp_step)
  unfold richCompare
  simp only [oneThing_ref]
  refine wpAny_holding (wpAny_bind (wpAny_cRoomFor (Nat.lt_of_succ_lt hu) ?_))
  refine wpAny_bind (I.type.here (wpAny_bind (hb.here ?_)))
  split
  · rename_i q
    have e : PySem.W.subIn K tb (.ref C) = some false := by
      rcases Bool.or_eq_true_iff.mp hn with e | e
      · rw [beq_iff_eq.mp e] at q; simp at q
      · exact beq_iff_eq.mp e
    refine wpAny_bind ((PySem.W.looks_subIn X e).here ?_)
    simp only [Bool.false_eq_true, if_false]
    refine wpAny_bind (wpAny_mono one (fun r s' z => ?_) fun _ _ e => e)
    obtain ⟨v, rfl, hq⟩ := z
    exact wpAny_pure hq
  · refine wpAny_bind (wpAny_pure ?_)
    simp only [Bool.false_eq_true, if_false]
    refine wpAny_bind (wpAny_mono one (fun r s' z => ?_) fun _ _ e => e)
    obtain ⟨v, rfl, hq⟩ := z
    exact wpAny_pure hq
end
/-- the class has no __ne__ of its own -/
structure NoNe (K : PySem.W.Frag) (C : Addr) : Prop where
  ne : PySem.W.findIn K (.ref C) "__ne__" = some (some (.builtin "object.__ne__"))
  ob : PySem.W.mroIn K C (.type "object") = some true
def rNeI (X : Cx) (CX : CXT) (k : Nat) (E : XK) : R2 := fun x y H Q => ∃ a C dx fs sp t, x = .ref a ∧ H a = some (.ins C dx fs) ∧ MtC X.prog X.w X.K X.mg X.base CX k C "__eq__" [] sp ∧ NoNe X.K C ∧ TyOf X.K H y t ∧ PySem.W.notFirst X.K C t = true ∧
  sp [x, y] [] H (fun v H' => ∃ b, v = .bl b ∧ Q (.bl (!b)) H') E
theorem op_neI {X : Cx} {CX : CXT} {k : Nat} {E : XK} (hr : Room (k + 1) X.A) (hx : Passes CX X E) : OpR X (compareOp .NotEq) (rNeI X CX k E) := by
  rintro pins s σ H x y u v Q I rx ry ⟨a, C, dx, fs, sp, t, rfl, ha, M, N, ty, nf, q⟩
  obtain rfl : u = Value.ref a := rx
  obtain ⟨⟨f, hm, F⟩, c⟩ := M
  obtain ⟨mA, J, _⟩ := ins_get I.hok ha
  obtain ⟨od, J, _⟩ := J.look
  obtain ⟨m, hF⟩ := I.fr
  show wpAny (model X.prog X.w) X.A (richCompare .NotEq (.ref a) v) (EP X pins σ Q) X.xe s
  refine ne_own (by have := hr.un; omega) I.kIn J (looks_ty I ry ty) nf N.ne N.ob hm.at_ hm.fn ?_
  refine wpAny_mono (run_fnA0 (us := [.ref a, v]) (vs := [.ref a, y]) (A := X.A.in1) F hr.in1 rfl hx I (.cons rfl (.cons ry .nil)) q) (fun r s' h => ?_) fun _ _ e => e
  obtain ⟨v', H', I', rv, c, ev, q'⟩ := h
  subst ev
  cases (show r = Value.bool c from rv)
  exact ⟨c, rfl, .bl (!c), H', I', rfl, q'⟩
/-! ### in and not in by the class's own __contains__ -/
def rInI (X : Cx) (CX : CXT) (k : Nat) (E : XK) (neg : Bool) : R2 := fun y x H Q => ∃ a C dx fs sp, x = .ref a ∧ H a = some (.ins C dx fs) ∧ MtC X.prog X.w X.K X.mg X.base CX k C "__contains__" [] sp ∧
  sp [x, y] [] H (fun v H' => ∃ b, v = .bl b ∧ Q (.bl (neg != b)) H') E
theorem op_inI {X : Cx} {CX : CXT} {k : Nat} {E : XK} (hr : Room k X.A) (hx : Passes CX X E) : OpR X (compareOp .In) (rInI X CX k E false) := by
  rintro pins s σ H y x v u Q I ry rx ⟨a, C, dx, fs, sp, rfl, ha, M, q⟩
  obtain rfl : u = Value.ref a := rx
  obtain ⟨⟨f, hm, F⟩, c⟩ := M
  obtain ⟨mA, J, _⟩ := ins_get I.hok ha
  obtain ⟨od, J, _⟩ := J.look
  obtain ⟨m, hF⟩ := I.fr
  refine PySem.W.in_K hF I.ok.mod.kin J hm.at_ hm.fn ?_
  refine wpAny_mono (run_fnA0 (us := [.ref a, v]) (vs := [.ref a, y]) F hr rfl hx I (.cons rfl (.cons ry .nil)) q) (fun r s' h => ?_) fun _ _ e => e
  obtain ⟨v', H', I', rv, c, ev, q'⟩ := h
  subst ev
  cases (show r = Value.bool c from rv)
  exact wpAny_truthy_bool ⟨.bl c, H', I', rfl, by simpa using q'⟩
theorem op_notInI {X : Cx} {CX : CXT} {k : Nat} {E : XK} (hr : Room k X.A) (hx : Passes CX X E) : OpR X (compareOp .NotIn) (rInI X CX k E true) := by
  rintro pins s σ H y x v u Q I ry rx ⟨a, C, dx, fs, sp, rfl, ha, M, q⟩
  obtain rfl : u = Value.ref a := rx
  obtain ⟨⟨f, hm, F⟩, c⟩ := M
  obtain ⟨mA, J, _⟩ := ins_get I.hok ha
  obtain ⟨od, J, _⟩ := J.look
  obtain ⟨m, hF⟩ := I.fr
  refine PySem.W.notIn_K hF I.ok.mod.kin J hm.at_ hm.fn ?_
  refine wpAny_mono (run_fnA0 (us := [.ref a, v]) (vs := [.ref a, y]) F hr rfl hx I (.cons rfl (.cons ry .nil)) q) (fun r s' h => ?_) fun _ _ e => e
  obtain ⟨v', H', I', rv, c, ev, q'⟩ := h
  subst ev
  cases (show r = Value.bool c from rv)
  exact wpAny_truthy_bool ⟨.bl (!c), H', I', rfl, by simpa using q'⟩
/-! ### repr(o), len(o), the truth of o by its class's own defs -/
def rReprI (X : Cx) (CX : CXT) (k : Nat) (E : XK) : List V → Hp → VK → Prop := fun xs H Q => ∃ a C dx fs sp, xs = [.ref a] ∧ H a = some (.ins C dx fs) ∧ MtC X.prog X.w X.K X.mg X.base CX k C "__repr__" [] sp ∧ sp [.ref a] [] H (fun v H' => (∃ z, v = .str z) ∧ Q v H') E
theorem call_reprI {X : Cx} {CX : CXT} {k : Nat} {E : XK} (hr : Room (k + 1) X.A) (hx : Passes CX X E) : CallR X (.builtin "repr") (rReprI X CX k E) := by
  rintro pins s σ H xs us Q I r ⟨a, C, dx, fs, sp, rfl, ha, M, q⟩
  obtain ⟨u, rfl, rx⟩ := vals1 r
  obtain rfl : u = Value.ref a := rx
  obtain ⟨⟨f, hm, F⟩, c⟩ := M
  obtain ⟨mA, J, _⟩ := ins_get I.hok ha
  obtain ⟨od, J, _⟩ := J.look
  obtain ⟨m, hF⟩ := I.fr
  refine PySem.W.repr_K (by show X.A.units + 1 < cLine; have := hr.un; omega) hF I.ok.mod.kin J hm.at_ hm.fn ?_
  refine wpAny_mono (run_fnA0 (us := [.ref a]) (vs := [.ref a]) (A := X.A.in1) F hr.in1 rfl hx I (.cons rfl .nil) q) (fun r s' h => ?_) fun _ _ e => e
  obtain ⟨v', H', I', rv, ⟨z, ev⟩, q'⟩ := h
  subst ev
  obtain ⟨t, e⟩ := (show ∃ t, r = Value.str z t from rv)
  subst e
  exact ⟨.str z, H', I', ⟨t, rfl⟩, q'⟩
def rLenI (X : Cx) (CX : CXT) (k : Nat) (E : XK) : List V → Hp → VK → Prop := fun xs H Q => ∃ a C dx fs sp, xs = [.ref a] ∧ H a = some (.ins C dx fs) ∧ MtC X.prog X.w X.K X.mg X.base CX k C "__len__" [] sp ∧ sp [.ref a] [] H (fun v H' => ∃ i : Int, v = .int i ∧ 0 ≤ i ∧ i < 2 ^ 63 ∧ Q v H') E
theorem call_lenI {X : Cx} {CX : CXT} {k : Nat} {E : XK} (hr : Room (k + 1) X.A) (hx : Passes CX X E) : CallR X (.builtin "len") (rLenI X CX k E) := by
  rintro pins s σ H xs us Q I r ⟨a, C, dx, fs, sp, rfl, ha, M, q⟩
  obtain ⟨u, rfl, rx⟩ := vals1 r
  obtain rfl : u = Value.ref a := rx
  obtain ⟨⟨f, hm, F⟩, c⟩ := M
  obtain ⟨mA, J, _⟩ := ins_get I.hok ha
  obtain ⟨od, J, _⟩ := J.look
  obtain ⟨m, hF⟩ := I.fr
  refine PySem.W.len_K hF I.ok.mod.kin J hm.at_ hm.fn ?_
  refine wpAny_mono (run_fnA0 (us := [.ref a]) (vs := [.ref a]) (A := X.A.in1) F hr.in1 rfl hx I (.cons rfl .nil) q) (fun r s' h => ?_) fun _ _ e => e
  obtain ⟨v', H', I', rv, i, ev, h0, h1, q'⟩ := h
  subst ev
  obtain ⟨t, e⟩ := (show ∃ t, r = Value.int i t from rv)
  subst e
  exact ⟨⟨h0, h1⟩, .int i, H', I'.tok _, ⟨_, rfl⟩, q'⟩
end L2
namespace L2
open PySem PySem.Spec PyProof.Rows
/-! ### a def or a method of the text, standing at f -/
structure Fd (K : PySem.W.Frag) (x qual : Str) (st : Stmt) (dvs : List V) (kws : List (Str × V)) (f : Addr) : Prop where
  ex : ∃ fd, FunD K x qual (defArgs st) (defBody st) (defScope st) dvs kws f fd
theorem fd_mk {K : PySem.W.Frag} {x qual : Str} {st : Stmt} {dvs : List V} {kws : List (Str × V)} {f : Addr} {oc dV kV doc pm cdv ct : Value} {od an : Option Addr} {osl : Array (Option Value)}
    (l : K.lookup f = some ⟨oc, od, .func (PySem.W.fnOf x qual (defArgs st) (defBody st) (defScope st) dV kV doc pm an cdv ct), osl⟩) (c : PySem.W.codeIn K cdv qual = true) (k : PySem.W.keepIn K (.ref f) = true) (hd : DflV K dV dvs) (hk : KwdV K kV kws) : Fd K x qual st dvs kws f :=
  ⟨_, ⟨oc, od, dV, kV, doc, pm, an, cdv, ct, osl, rfl, l, c, hd, hk⟩, k⟩
theorem dfl_none {K : PySem.W.Frag} : DflV K .none [] := .inl ⟨rfl, rfl⟩
theorem dfl_of {K : PySem.W.Frag} {T : Addr} {o : Obj} {v : V} {dvs : List V} {its : List Value} {n : Nat} (l : K.lookup T = some o) (h : o.data = .seq its.toArray n) (r : Vals (v :: dvs) its) : DflV K (.ref T) (v :: dvs) := .inr ⟨fun z => (by cases z), T, o, its, n, rfl, l, h, r⟩
theorem kwd_none {K : PySem.W.Frag} {kV : Value} : KwdV K kV [] := .inl rfl
theorem kwd_of {K : PySem.W.Frag} {D : Addr} {kws : List (Str × V)} (h : ∀ q ∈ kws, ∃ u, PySem.W.nsIn K D q.1 = some (some u) ∧ RelV q.2 u) : KwdV K (.ref D) kws := .inr ⟨D, rfl, h⟩
/-- .. with its promise -/
structure Fo (P : Program) (w : World) (K : PySem.W.Frag) (mg : Str → Option Value) (base : Heap) (CX : CXT) (k : Nat) (x qual : Str) (st : Stmt) (dvs : List V) (kws : List (Str × V)) (f : Addr) (ps : List Str) (sp : Sp) : Prop where
  ex : ∃ fd, FunD K x qual (defArgs st) (defBody st) (defScope st) dvs kws f fd ∧ FnOk P w K mg base CX k f fd ps sp
section
variable {P : Program} {w : World} {K : PySem.W.Frag} {mg : Str → Option Value} {base : Heap} {CX : CXT} {k : Nat} {x qual : Str} {st : Stmt} {dvs : List V} {kws : List (Str × V)} {f : Addr} {N ps : List Str} {sp : Sp}
theorem fo_mk (D : Fd K x qual st dvs kws f) (S : FnScope N ps (defScope st)) (len : ∀ vs H Q E, sp vs H Q E → vs.length = ps.length)
    (hbody : ∀ (cdv : Value) (A : Around) (outer : List Env) (s : Shared) (H : Hp) (vs : List V) (Q : VK) (E : XK), Room k (A.deeper (envOfC qual (defScope st) s.heap.objs.size f cdv)) → sp vs H Q E →
      ∃ t, PSs (cxOf CX0 P w K mg base N qual (defScope st) f cdv A outer s H E).nox (defBody st) t ∧ t { nx := fun _ H' => Q .non H', rt := Q } (start N vs) H) : Fo P w K mg base CX0 (k + 1) x qual st dvs kws f ps sp := by
  obtain ⟨fd, F⟩ := D.ex
  exact ⟨fd, F, F.ok S len fun cdv A outer s H vs Q E hr hs => let ⟨t, h, q⟩ := hbody cdv A outer s H vs Q E hr hs; ⟨t, h.nox, q⟩⟩
theorem fo_mkX (D : Fd K x qual st dvs kws f) (S : FnScope N ps (defScope st)) (len : ∀ vs H Q E, sp vs H Q E → vs.length = ps.length)
    (hbody : ∀ (cdv : Value) (A : Around) (outer : List Env) (s : Shared) (H : Hp) (vs : List V) (Q : VK) (E : XK), Room k (A.deeper (envOfC qual (defScope st) s.heap.objs.size f cdv)) → sp vs H Q E →
      ∃ t, PSs (cxOf CX P w K mg base N qual (defScope st) f cdv A outer s H E) (defBody st) t ∧ t { nx := fun _ H' => Q .non H', rt := Q } (start N vs) H) : Fo P w K mg base CX (k + 1) x qual st dvs kws f ps sp := by
  obtain ⟨fd, F⟩ := D.ex
  exact ⟨fd, F, F.ok S len hbody⟩
/-- no defaults, all written -/
theorem Fo.pos (o : Fo P w K mg base CX k x qual st [] kws f ps sp) (h : ∀ (kV doc pm : Value) (an : Option Addr) (cdv ct : Value) (us : List Value), us.length = ps.length → bindArgs (PySem.W.fnOf x qual (defArgs st) (defBody st) (defScope st) .none kV doc pm an cdv ct) ⟨us, []⟩ = pure (ps.zip us)) :
    FnA P w K mg base CX k f [] (fun vs _ => sp vs) := by
  obtain ⟨fd, F, ok⟩ := o.ex
  exact (ok.toA (F.bindsN h) .nil).imp fun vs zs H Q E q => by rw [List.append_nil]; exact q
/-- keywords ks behind n values -/
theorem Fo.key (o : Fo P w K mg base CX k x qual st [] kws f ps sp) (n : Nat) (ks : List Str) (g : {α : Type} → List α → List α → List α) (hr : ∀ {vs us zs ws}, Vals vs us → Vals zs ws → Vals (g vs zs) (g us ws))
    (h : ∀ (kV doc pm : Value) (an : Option Addr) (cdv ct : Value) (us ws : List Value), us.length = n → ws.length = ks.length → bindArgs (PySem.W.fnOf x qual (defArgs st) (defBody st) (defScope st) .none kV doc pm an cdv ct) ⟨us, ks.zip ws⟩ = pure (ps.zip (g us ws))) :
    FnA P w K mg base CX k f ks (fun vs zs H Q E => vs.length = n ∧ sp (g vs zs) H Q E) := by
  obtain ⟨fd, F, ok⟩ := o.ex
  obtain ⟨oc, od, dV, kV, doc, pm, an, cdv, ct, osl, rfl, lk, hcd, hD, hK⟩ := F.ex
  rcases hD with ⟨_, rfl⟩ | ⟨e, _⟩
  · exact ok.toK (ks := ks) (n := n) (g := fun us ws => g us ws) (gV := fun vs zs => g vs zs) ⟨fun s us ws _ l1 l2 => .of_eq (h kV doc pm an cdv ct us ws l1 l2), fun r1 r2 => hr r1 r2⟩
  · exact absurd rfl e
/-- keyword-only defaults -/
theorem Fo.pos0 (o : Fo P w K mg base CX k x qual st [] kws f ps sp) (n : Nat) (hk : kws ≠ []) (hn : n + kws.length = ps.length)
    (h : ∀ (D : Addr) (doc pm : Value) (an : Option Addr) (cdv ct : Value) (us ks : List Value), us.length = n → ks.length = kws.length →
      KwChain D ((kws.map (·.1)).zip ks) (bindArgs (PySem.W.fnOf x qual (defArgs st) (defBody st) (defScope st) .none (.ref D) doc pm an cdv ct) ⟨us, []⟩) (ps.zip (us ++ ks))) :
    FnA P w K mg base CX k f [] (fun vs _ H Q E => sp (vs ++ kws.map (·.2)) H Q E) := by
  obtain ⟨fd, F, ok⟩ := o.ex
  obtain ⟨ds, r, b⟩ := F.binds0 n hk hn h
  exact ok.toA b r
/-- defaults: n values written, the ones behind the first j fill up -/
theorem Fo.pos1 (o : Fo P w K mg base CX k x qual st dvs kws f ps sp) (n j : Nat) (hd : dvs ≠ []) (hn : n + (dvs.length - j) = ps.length)
    (h : ∀ (T : Addr) (kV doc pm : Value) (an : Option Addr) (cdv ct : Value) (us its : List Value), us.length = n → its.length = dvs.length →
      ∃ k, bindArgs (PySem.W.fnOf x qual (defArgs st) (defBody st) (defScope st) (.ref T) kV doc pm an cdv ct) ⟨us, []⟩ = seqItems? (.ref T) >>= k ∧ k (some its.toArray) = pure (ps.zip (us ++ its.drop j))) :
    FnA P w K mg base CX k f [] (fun vs _ H Q E => sp (vs ++ dvs.drop j) H Q E) := by
  obtain ⟨fd, F, ok⟩ := o.ex
  obtain ⟨ds, r, b⟩ := F.binds1 n j hd hn h
  exact ok.toA b r
theorem FnR.toA {sp : Sp} (F : FnR P w K mg base CX k f sp) : FnA P w K mg base CX k f [] (fun vs _ => sp vs) := ⟨fun A o s H us ws vs zs Q E hr he r1 r2 l hs => by
  have := F A o s H us vs Q E hr he r1 hs
  simpa using this⟩
/-- def f(a, .., *v): the promise tells of the tuple of the rest -/
theorem fo_star {pv : Str} (D : Fd K x qual st [] [] f) (S : FnScope N (ps ++ [pv]) (defScope st)) (hCX : StX.CXUp CX)
    (hb : ∀ (kV doc pm : Value) (an : Option Addr) (cdv ct : Value) (us rest : List Value), us.length = ps.length → bindArgs (PySem.W.fnOf x qual (defArgs st) (defBody st) (defScope st) .none kV doc pm an cdv ct) ⟨us ++ rest, []⟩ = (newTuple rest >>= fun t => pure (ps.zip us ++ [(pv, t)])))
    (hbody : ∀ (cdv : Value) (A : Around) (outer : List Env) (s : Shared) (H : Hp) (vs : List V) (Q : VK) (E : XK), Room k (A.deeper (envOfC qual (defScope st) s.heap.objs.size f cdv)) → sp vs H Q E →
      ∃ t, PSs (cxOf CX P w K mg base N qual (defScope st) f cdv A outer s H E) (defBody st) t ∧ t { nx := fun _ H' => Q .non H', rt := Q } (start N vs) H) :
    FnA P w K mg base CX (k + 1) f [] (fun vs _ H Q E => ∃ ws rest, vs = ws ++ rest ∧ ws.length = ps.length ∧ rest.length ≤ sizeLine ∧ ∀ p, H p = Option.none → sp (ws ++ [V.ref p]) (upd H p (.tup rest)) Q E) := by
  obtain ⟨fd, F⟩ := D.ex
  obtain ⟨oc, od, dV, kV, doc, pm, an, cdv, ct, osl, rfl, lk, hcd, hD, hK⟩ := F.ex
  rcases hD with ⟨_, rfl⟩ | ⟨e, _⟩
  · exact FnR.toA (StX.fn_star lk hcd S hCX (hb kV doc pm an cdv ct) fun A outer s H vs Q E hr hs => hbody cdv A outer s H vs Q E hr hs)
  · exact absurd rfl e
/-- .. which lets no exception out -/
theorem fo_star0 {pv : Str} (D : Fd K x qual st [] [] f) (S : FnScope N (ps ++ [pv]) (defScope st))
    (hb : ∀ (kV doc pm : Value) (an : Option Addr) (cdv ct : Value) (us rest : List Value), us.length = ps.length → bindArgs (PySem.W.fnOf x qual (defArgs st) (defBody st) (defScope st) .none kV doc pm an cdv ct) ⟨us ++ rest, []⟩ = (newTuple rest >>= fun t => pure (ps.zip us ++ [(pv, t)])))
    (hbody : ∀ (cdv : Value) (A : Around) (outer : List Env) (s : Shared) (H : Hp) (vs : List V) (Q : VK) (E : XK), Room k (A.deeper (envOfC qual (defScope st) s.heap.objs.size f cdv)) → sp vs H Q E →
      ∃ t, PSs (cxOf CX0 P w K mg base N qual (defScope st) f cdv A outer s H E).nox (defBody st) t ∧ t { nx := fun _ H' => Q .non H', rt := Q } (start N vs) H) :
    FnA P w K mg base CX0 (k + 1) f [] (fun vs _ H Q E => ∃ ws rest, vs = ws ++ rest ∧ ws.length = ps.length ∧ rest.length ≤ sizeLine ∧ ∀ p, H p = Option.none → sp (ws ++ [V.ref p]) (upd H p (.tup rest)) Q E) := by
  obtain ⟨fd, F⟩ := D.ex
  obtain ⟨oc, od, dV, kV, doc, pm, an, cdv, ct, osl, rfl, lk, hcd, hD, hK⟩ := F.ex
  rcases hD with ⟨_, rfl⟩ | ⟨e, _⟩
  · exact FnR.toA (StX.fn_star lk hcd S StX.cxUp_none (hb kV doc pm an cdv ct) fun A outer s H vs Q E hr hs => let ⟨t, h, q⟩ := hbody cdv A outer s H vs Q E hr hs; ⟨t, h.nox, q⟩)
  · exact absurd rfl e
end
/-- a def of the module by its name -/
structure FdG (K : PySem.W.Frag) (mg : Str → Option Value) (x : Str) (st : Stmt) (dvs : List V) (kws : List (Str × V)) (f : Addr) : Prop where
  fd : Fd K x x st dvs kws f
  mg : mg x = some (.ref f)
  kp : PySem.W.keepIn K (.ref f) = true
end L2
namespace L2
open PySem
/-- isinstance against an own class -/
theorem kit_own {K : PySem.W.Frag} {t : Value} {C : Addr} {b : Bool} (h1 : PySem.W.isClsIn K C = true) (h2 : PySem.W.typeIn K (.ref C) = some (.type "type")) (h3 : PySem.W.subIn K (.ref C) (.ref C) = some true) (h4 : PySem.W.subIn K t (.ref C) = some b) : PySem.W.kitOne K t (.ref C) = some b := by
  unfold PySem.W.kitOne
  by_cases e : (t == Value.ref C) = true
  · rw [if_pos e]
    rw [beq_iff_eq.mp e, h3] at h4
    exact h4
  · rw [if_neg e]
    have h1' : (PySem.W.clsIn K C).isSome = true := h1
    show (if ((PySem.W.clsIn K C).isSome && PySem.W.typeIn K (.ref C) == some (.type "type")) = true then PySem.W.subIn K t (.ref C) else none) = some b
    rw [h1', h2, if_pos (by rfl)]
    exact h4
end L2
/-! ### enumerate(tuple) -/
namespace PySem
set_option maxHeartbeats 1000000 in
theorem meets_enumerate_newB1 {v : Value} {o : Obj} {H : Heap → Prop} (B : Begins v o H) :
    Meets (Builtin.«enumerate.__new__» ⟨[.type "enumerate", v], []⟩) (fun _ R s => H s.heap ∧
      R (.ok (.ret (.ref (s.heap.push o).objs.size))) { s with heap := (s.heap.push o).push { cls := .type "enumerate", data := .fields #[.none, .bool false, .ref s.heap.objs.size, rawInt 0, .none, .none] } }) :=
  .of_wp fun prog w A R s h => by
    obtain ⟨hp, g, d, tk, os⟩ := s; obtain ⟨h1, h⟩ := h
    have hsub := sub_enumerate
    have q1 : ∀ {A' : Around} {E : Value → Shared → Prop} {Q : Value → Shared → Prop}, Q (.ref hp.objs.size) ⟨hp.push o, g, d, tk, os⟩ → wpAny (model prog w) A' (pyIter v) Q E ⟨hp, g, d, tk, os⟩ :=
      fun q => B.iter prog w _ _ ⟨hp, g, d, tk, os⟩ _ h1 q
    wp_walk using q1
    refine wpAny_stack_any fun st => wpAny_pure ?_
    split
    · rename_i c _ _ _ _ _
      cases (c == Value.type "enumerate")
      · wp_walk using q1
        exact ⟨_, rfl, h⟩
      · wp_walk using q1
        exact ⟨_, rfl, h⟩
    · wp_walk using q1
      exact ⟨_, rfl, h⟩
theorem enum_begins1 {prog : Program} {w : World} {A : Around} {E : Value → Shared → Prop} {s : Shared} {v : Value} {o : Obj} {H : Heap → Prop} {Q : Value → Shared → Prop} (B : Begins v o H) (h1 : H s.heap)
    (h : ∀ h', IsEnum h' (s.heap.objs.size + 1) s.heap.objs.size 0 .none → h'.get? s.heap.objs.size = some o → h'.objs.size = s.heap.objs.size + 2 →
      (∀ b o, s.heap.get? b = some o → h'.get? b = some o) → Q (.ref (s.heap.objs.size + 1)) { s with heap := h' }) :
    wpAny (model prog w) A (call (.type "enumerate") [v]) Q E s := by
  refine callType_new F.called_enumerate (by decide) (F.typeCall_enumerate_1 _) (F.newCall_enumerate_1 _) (fun obj => F.args_object_init_2 obj _) F.entry_enumerate_new
    (meets_enumerate_newB1 B) ⟨h1, ?_⟩
  have hz : (s.heap.push o).objs.size = s.heap.objs.size + 1 := Heap.size_push ..
  show _ ∧ _
  rw [hz]
  have he : IsEnum ((s.heap.push o).push { cls := .type "enumerate", data := .fields #[.none, .bool false, .ref s.heap.objs.size, rawInt 0, .none, .none] }) (s.heap.objs.size + 1) s.heap.objs.size 0 .none := by
    have := Heap.get?_push_size (s.heap.push o) (o := { cls := .type "enumerate", data := .fields #[.none, .bool false, .ref s.heap.objs.size, rawInt 0, .none, .none] }) rfl
    rw [hz] at this; exact this
  refine ⟨⟨_, he, rfl⟩, h _ he (Heap.get?_push_of_some _ (Heap.get?_push_size _ B.free)) (by rw [Heap.size_push, hz]) fun b o x => Heap.get?_push_of_some _ (Heap.get?_push_of_some _ x)⟩
end PySem
namespace L2
open PySem PySem.Spec PyProof.Rows
def IteT (K : PySem.W.Frag) (a : Addr) : It :=
  ⟨fun i H => ∃ (xs : List V) (x : V), SqT K H a xs ∧ xs[i]? = some x, fun i H v H' => ∃ T x, v = .ref T ∧ H T = none ∧ H' = upd H T (.tup [.int (i : Nat), x]) ∧ ∀ xs, SqT K H a xs → xs[i]? = some x, fun i H => ∃ xs : List V, SqT K H a xs ∧ xs.length ≤ i⟩
theorem turn_enumT {P : Program} {w : World} {K : PySem.W.Frag} {elts : List Expr} {kk : Nat} {tpos : Pos} (a e it : Addr) (hat : a ≠ it) (hae : a ≠ e) :
    Turn P w K (.Tuple elts kk tpos) (IteT K a) [e, it] e (fun i h => (∃ old, IsEnum h e it ((i : Nat) : Int) old) ∧ h.IsTupleIter it a i ∧ e ≠ it) where
  mem := by simp
  obj := fun i h st b hb => by
    obtain ⟨⟨old, he⟩, ⟨o, ho, hc, hd⟩, _⟩ := st
    have e' : b = e ∨ b = it := by simpa using hb
    rcases e' with z | z
    · rw [z]; exact ⟨_, he, fun v q => nomatch q⟩
    · rw [z]; exact ⟨o, ho, fun v q => by rw [hd] at q; cases q⟩
  keep := fun i h h' st k => let ⟨⟨old, he⟩, hi, hne⟩ := st; ⟨⟨old, k e (by simp) _ he⟩, hi.at fun o q => k it (by simp) o q, hne⟩
  item := by
    intro X hP hw hK hc i pins s σ H E I hf st hg
    subst hP hw hK
    obtain ⟨⟨old, he⟩, hit, hne⟩ := st
    obtain ⟨xs, x, hq, hx⟩ := hg
    obtain ⟨its, rv, p, hz⟩ := I.tuple hq
    obtain ⟨u, hu, ru⟩ := rv.get hx
    have hel : e < s.heap.objs.size := Heap.lt_size he
    have hil : it < s.heap.objs.size := by obtain ⟨_, q, _⟩ := hit; exact Heap.lt_size q
    have pT : s.heap.IsTuple a its.toArray := p
    have hlt : i < its.toArray.size := by
      have := (List.getElem?_eq_some_iff.mp hu).1
      simpa using this
    refine wpAny_pyNext_enum_itemD (Draws.tuple (prog := X.prog) (w := X.w) (A := X.A.in1) (I.ok.hd hc) it a hat its.toArray) he ⟨hit, pT⟩ hlt hne (fun z => ?_) fun u' h' tk hP ho st' hT hsz hk => ?_
    · rcases (show e = it ∨ e = a by simpa using z) with z | z
      · exact hne z
      · exact hae z.symm
    have hu' : u' = u := by
      have e1 : its[i]? = some u' := by simpa using hP
      rw [hu] at e1
      injection e1 with e1
      exact e1.symm
    subst hu'
    refine ⟨_, rfl, wpAny_letOwnedTupleGo_enum (s := { s with heap := h', toks := tk + 1 }) ho fun h'' he' sb => ?_⟩
    have hT2 : h''.get? s.heap.objs.size = some { cls := .type "tuple", data := .seq #[.int i tk, u'] } := (sb.2 _ (Nat.ne_of_gt hel)).trans hT
    have new : ObjOk X.prog X.w (upd H s.heap.objs.size (.tup [.int (i : Nat), x])) h'' s.heap.objs.size (.tup [.int (i : Nat), x]) :=
      ⟨by show 2 ≤ sizeLine; decide, [.int i tk, u'], .cons ⟨_, rfl⟩ (.cons ru .nil), ⟨_, hT2, rfl, _, rfl⟩⟩
    have I1 : Inv X pins σ (upd H s.heap.objs.size (.tup [.int (i : Nat), x])) { s with heap := h'', toks := tk + 1 } :=
      I.turnedNew (ch := [e, it]) (fun b ob hb q => (sb.2 b (fun z => hb (by simp [z]))).trans (hk b ob (fun z => hb (by simp [z])) (fun z => hb (by simp [z])) q)) hf (Nat.le_refl _) new
    refine ⟨.ref s.heap.objs.size, _, I1, rfl, ⟨_, x, rfl, I.hok.fresh (Nat.le_refl _), rfl, fun ys hy => by rw [I.tuple_inj hy hq]; exact hx⟩, ⟨⟨u', ?_⟩, st'.1.at fun o q => (sb.2 it (Ne.symm hne)).trans q, hne⟩, fun b hb => ?_⟩
    · have e1 : ((i + 1 : Nat) : Int) = (i : Int) + 1 := by omega
      rw [e1]; exact he'
    · have hb' : b < s.heap.objs.size := by
        have e' : b = e ∨ b = it := by simpa using hb
        rcases e' with z | z
        · rw [z]; exact hel
        · rw [z]; exact hil
      rw [upd_ne (Nat.ne_of_lt hb')]
      exact (hf b hb).1
  done := by
    intro X hP hw hK hc i pins s σ H E I hf st hg
    subst hP hw hK
    obtain ⟨⟨old, he⟩, hit, hne⟩ := st
    obtain ⟨xs, hq, hx⟩ := hg
    obtain ⟨its, rv, p, hz⟩ := I.tuple hq
    obtain ⟨f0, f1, f2, f3, f4, f5⟩ := hf it (by simp)
    have hl := rv.length
    have pT : s.heap.IsTuple a its.toArray := p
    have hT : s.TypeIs (.ref e) "enumerate" := ⟨_, he, rfl⟩
    unfold pyNext
    refine wpAny_bind (wpAny_attempt (wpAny_callSpecial?_slot (name := Str.ofString "__next__") hT F.slot_enumerate_next
      (wpAny_call_entry F.slot_enumerate_next hT F.entry_enumerate_next ?_ (F.args_enumerate_next_1 _))))
    show wpAny _ _ (field (.ref e) 2 >>= _) _ _ _
    refine wpAny_bind (wpAny_field he rfl (x := .ref it) rfl ?_)
    refine wpAny_bind (wpAny_nextOf_tuple_end (I.ok.hd hc) hit pT (by simp; omega) fun h' x he' hx' => ?_)
    obtain ⟨o, ho, hc'⟩ := hx'
    refine wpAny_bind (wpAny_isInstance (T := "StopIteration") (b := true) ⟨o, ho, hc'⟩ isSubtype_stop ?_)
    exact wpAny_pure ⟨rfl, I.turned (t' := s.toks) (fun b o hb q => he' b o hb q) f0 f1 f3 f4 f5⟩
  self := fun A i s Q E st h => let ⟨⟨_, he⟩, _⟩ := st; wpAny_pyIter_enum he h
def iEnumT (K : PySem.W.Frag) (ta : TA) : TI := fun σ H R => ta σ H fun vs H1 => ∃ a xs, vs = [.ref a] ∧ SqT K H1 a xs ∧ R (IteT K a) H1
theorem pi_enumT {X : Cx} {e : Expr} {ta : TA} {p pos tpos : Pos} {elts : List Expr} {kk : Nat} (hg : Gl X "enumerate") (hm : X.mg "enumerate" = none) (ha : PA X [e] ta) (hs : starEach [e] X.env = [(false, eval e X.env)] := by rfl) :
    PI X (.Tuple elts kk tpos) (.Call (.Name "enumerate" p) [e] [] pos) (iEnumT X.K ta) := by
  refine ⟨fun pins s σ H R I h => ?_⟩
  refine Call_ (ld_blt I hg hm boot_enumerate (PyProof.Rows.callWith_type1 (thn (ha.run pos pins s σ H _ I h) fun us s1 ⟨vs, H1, I1, r1, q1⟩ => ?_) hs rfl))
  obtain ⟨a, xs, ex, hq, q⟩ := q1
  subst ex
  cases r1 with
  | cons r rr =>
    cases rr
    cases r
    obtain ⟨its, rv, p', hz⟩ := I1.tuple hq
    have pT : s1.heap.IsTuple a its.toArray := p'
    have hla : a < s1.heap.objs.size := by obtain ⟨_, q, _⟩ := pT; exact Heap.lt_size q
    refine enum_begins1 (begins_tuple a its.toArray) pT fun h' he hit hsz hk => wpAny_pyIter_enum he ?_
    have I2 : Inv X pins σ H1 { s1 with heap := h' } := I1.kept (t' := s1.toks) hk
    refine ⟨s1.heap.objs.size + 1, [s1.heap.objs.size + 1, s1.heap.objs.size], _, _, H1, rfl, I2, turn_enumT a (s1.heap.objs.size + 1) s1.heap.objs.size (Nat.ne_of_lt hla) (Nat.ne_of_lt (Nat.lt_succ_of_lt hla)), ⟨⟨.none, he⟩, ⟨_, hit, rfl, rfl⟩, Nat.succ_ne_self _⟩, fun b hb => ?_, q⟩
    have e' : b = s1.heap.objs.size + 1 ∨ b = s1.heap.objs.size := by simpa using hb
    have hle : s1.heap.objs.size ≤ b := by
      rcases e' with z | z
      · rw [z]; exact Nat.le_add_right _ _
      · rw [z]; exact Nat.le_refl _
    exact I1.fpOk hle (I1.hok.fresh hle)
/-- the loop over enumerate(t): one turn gets the place and the item, in a new pair -/
theorem for_enumT {K : PySem.W.Frag} {a : Addr} {xs : List V} {g : TG} {tb : TS} {D : Ends} {σ : St} {H : Hp} (Pv : Nat → St → Hp → Prop) (h0 : Pv 0 σ H) (hl : ∀ i σ H, Pv i σ H → SqT K H a xs)
    (hs : ∀ i x T σ H, xs[i]? = some x → Pv i σ H → H T = none → g (.ref T) σ (upd H T (.tup [.int (i : Nat), x])) fun σ2 H2 => tb { D with nx := Pv (i + 1), ct := Pv (i + 1), bk := D.nx } σ2 H2) (hd : ∀ σ H, Pv xs.length σ H → D.nx σ H) :
    ∃ W : Nat → Nat → St → Hp → Prop, (∃ m, W 0 m σ H) ∧ ∀ i m σ H, W i m σ H → ((IteT K a).stop i H ∧ D.nx σ H) ∨
      ((IteT K a).go i H ∧ ∃ Nx : St → Hp → Prop, (∀ σ' H', Nx σ' H' → ∃ m', m' < m ∧ W (i + 1) m' σ' H') ∧ ∀ x H', (IteT K a).yld i H x H' → g x σ H' fun σ2 H2 => tb { D with nx := Nx, ct := Nx, bk := D.nx } σ2 H2) := by
  refine ⟨fun i m σ H => m = xs.length - i ∧ i ≤ xs.length ∧ Pv i σ H, ⟨xs.length, by simp, Nat.zero_le _, h0⟩, ?_⟩
  rintro i m σ H ⟨rfl, hi, p⟩
  have hq := hl _ _ _ p
  by_cases hlt : i < xs.length
  · refine .inr ⟨⟨xs, xs[i], hq, by simp [hlt]⟩, Pv (i + 1), fun σ' H' p' => ⟨xs.length - (i + 1), by omega, rfl, hlt, p'⟩, fun v H' y => ?_⟩
    obtain ⟨T, x, rfl, hT, rfl, hx⟩ := y
    exact hs i x T σ H (hx xs hq) p hT
  · have e : i = xs.length := by omega
    subst e
    exact .inl ⟨⟨xs, hq, Nat.le_refl _⟩, hd _ _ p⟩
end L2
namespace G
open PySem PySem.Spec L2
open PyProof.Rows hiding St
/-! ### plain data, runs -/
inductive D where
  | non | bl (b : Bool) | int (i : Int) | str (x : Str) | lst (ds : List D) | tup (ds : List D) | ins (C : Nat) (fs : List D) | feed
  deriving Inhabited
inductive M (α : Type) where
  | ret (a : α) | fail | draw (m : Nat) (k : Nat → M α)
namespace M
variable {α β γ : Type}
def bind : M α → (α → M β) → M β
  | ret a, f => f a
  | fail, _ => fail
  | draw m k, f => draw m fun r => (k r).bind f
def wp : M α → (α → Prop) → Prop
  | ret a, Q => Q a
  | fail, _ => False
  | draw m k, Q => ∀ r, r < m → (k r).wp Q
instance : Monad M where
  pure := ret
  bind := bind
@[simp] theorem bind_ret (a : α) (f : α → M β) : (ret a).bind f = f a := rfl
@[simp] theorem bind_fail (f : α → M β) : (fail : M α).bind f = fail := rfl
@[simp] theorem bind_draw (m : Nat) (k : Nat → M α) (f : α → M β) : (draw m k).bind f = draw m fun r => (k r).bind f := rfl
@[simp] theorem wp_ret (a : α) (Q : α → Prop) : (ret a).wp Q = Q a := rfl
@[simp] theorem wp_fail (Q : α → Prop) : (fail : M α).wp Q = False := rfl
@[simp] theorem wp_draw (m : Nat) (k : Nat → M α) (Q : α → Prop) : (draw m k).wp Q = ∀ r, r < m → (k r).wp Q := rfl
theorem wp_mono {Q R : α → Prop} (h : ∀ a, Q a → R a) : ∀ {m : M α}, m.wp Q → m.wp R
  | ret a, q => h a q
  | draw _ _, q => fun r hr => wp_mono h (q r hr)
theorem wp_bind {f : α → M β} {Q : β → Prop} : ∀ {m : M α}, (m.bind f).wp Q ↔ m.wp fun a => (f a).wp Q
  | ret _ => Iff.rfl
  | fail => Iff.rfl
  | draw _ _ => ⟨fun h r hr => wp_bind.mp (h r hr), fun h r hr => wp_bind.mpr (h r hr)⟩
@[simp] theorem bind_eq (m : M α) (f : α → M β) : (m >>= f) = m.bind f := rfl
@[simp] theorem pure_eq (a : α) : (Pure.pure a : M α) = ret a := rfl
theorem bind_assoc (f : α → M β) (g : β → M γ) : ∀ m : M α, (m.bind f).bind g = m.bind fun a => (f a).bind g
  | ret _ => rfl
  | fail => rfl
  | draw m k => congrArg (draw m) (funext fun r => bind_assoc f g (k r))
theorem bind_ret' : ∀ m : M α, m.bind ret = m
  | ret _ => rfl
  | fail => rfl
  | draw m k => congrArg (draw m) (funext fun r => bind_ret' (k r))
instance : LawfulMonad M := LawfulMonad.mk' (id_map := fun m => bind_ret' m) (pure_bind := fun _ _ => rfl) (bind_assoc := fun m f g => bind_assoc f g m)
/-- of an option: nothing is a failure -/
def of : Option α → M α
  | some a => ret a
  | none => fail
@[simp] theorem of_some (a : α) : of (some a) = ret a := rfl
@[simp] theorem of_none : (of none : M α) = fail := rfl
end M
/-! ### which values stand for which data -/
structure Cf where
  K : PySem.W.Frag
  ad : Nat → Addr
  fl : Nat → List Str
  fd : Option (Addr × Addr)
  self : Option Addr
def Cf.ok0 (g : Cf) (i : Nat) : Prop := i ≠ 0 ∨ g.self = none
/-- an instance's attributes are the class's first ones, in order -/
def FvOk (g : Cf) (C : Nat) (fv : List (Str × V)) : Prop := fv.map Prod.fst = (g.fl C).take fv.length
mutual
inductive Rp (g : Cf) (H : Hp) : V → D → Prop
  | non : Rp g H .non .non
  | bl (b : Bool) : Rp g H (.bl b) (.bl b)
  | int (i : Int) : Rp g H (.int i) (.int i)
  | str (x : Str) : PyData.strOk x = true → Rp g H (.str x) (.str x)
  | lst {a : Addr} {vs : List V} {ds : List D} : H a = some (.lst vs) → RpA g H vs ds → Rp g H (.ref a) (.lst ds)
  | tup {a : Addr} {vs : List V} {ds : List D} : SqT g.K H a vs → RpA g H vs ds → Rp g H (.ref a) (.tup ds)
  | ins {a dx : Addr} {C : Nat} {fv : List (Str × V)} {fs : List D} : H a = some (.ins (g.ad C) dx fv) → FvOk g C fv → RpA g H (fv.map Prod.snd) fs → Rp g H (.ref a) (.ins C fs)
  | feed {p l : Addr} : g.fd = some (p, l) → Rp g H (.ref p) .feed
inductive RpA (g : Cf) (H : Hp) : List V → List D → Prop
  | nil : RpA g H [] []
  | cons {v : V} {d : D} {vs : List V} {ds : List D} : Rp g H v d → RpA g H vs ds → RpA g H (v :: vs) (d :: ds)
end
section
variable {g : Cf} {H H' : Hp}
mutual
theorem Rp.mono (e : Same H H') : ∀ (d : D) {v : V}, Rp g H v d → Rp g H' v d
  | .non, _, h => by cases h; exact .non
  | .bl b, _, h => by cases h; exact .bl b
  | .int i, _, h => by cases h; exact .int i
  | .str x, _, h => by cases h with | str _ h => exact .str x h
  | .lst ds, _, h => by
    cases h with
    | lst hs ha => exact .lst (e _ _ hs) (RpA.mono e ds ha)
  | .tup ds, _, h => by
    cases h with
    | tup hs ha => exact .tup (Same.seqTT e hs) (RpA.mono e ds ha)
  | .ins C fs, _, h => by
    cases h with
    | ins hs hf ha => exact .ins (e _ _ hs) hf (RpA.mono e fs ha)
  | .feed, _, h => by
    cases h with
    | feed h => exact .feed h
theorem RpA.mono (e : Same H H') : ∀ (ds : List D) {vs : List V}, RpA g H vs ds → RpA g H' vs ds
  | [], _, h => by cases h; exact .nil
  | d :: ds, _, h => by
    cases h with
    | cons h1 h2 => exact .cons (Rp.mono e d h1) (RpA.mono e ds h2)
end
mutual
theorem Rp.cg {g' : Cf} (e1 : g.K = g'.K) (e2 : g.ad = g'.ad) (e3 : g.fl = g'.fl) (e4 : g.fd = g'.fd) : ∀ (d : D) {v : V}, Rp g H v d → Rp g' H v d
  | .non, _, h => by cases h; exact .non
  | .bl b, _, h => by cases h; exact .bl b
  | .int i, _, h => by cases h; exact .int i
  | .str x, _, h => by cases h with | str _ h => exact .str x h
  | .lst ds, _, h => by
    cases h with
    | lst hs ha => exact .lst hs (RpA.cg e1 e2 e3 e4 ds ha)
  | .tup ds, _, h => by
    cases h with
    | tup hs ha => exact .tup (e1 ▸ hs) (RpA.cg e1 e2 e3 e4 ds ha)
  | .ins C fs, _, h => by
    cases h with
    | ins hs hf ha => exact .ins (e2 ▸ hs) (by unfold FvOk at hf ⊢; rw [← e3]; exact hf) (RpA.cg e1 e2 e3 e4 fs ha)
  | .feed, _, h => by
    cases h with
    | feed h => exact .feed (e4 ▸ h)
theorem RpA.cg {g' : Cf} (e1 : g.K = g'.K) (e2 : g.ad = g'.ad) (e3 : g.fl = g'.fl) (e4 : g.fd = g'.fd) : ∀ (ds : List D) {vs : List V}, RpA g H vs ds → RpA g' H vs ds
  | [], _, h => by cases h; exact .nil
  | d :: ds, _, h => by
    cases h with
    | cons h1 h2 => exact .cons (Rp.cg e1 e2 e3 e4 d h1) (RpA.cg e1 e2 e3 e4 ds h2)
end
theorem RpA.length : ∀ {vs : List V} {ds : List D}, RpA g H vs ds → vs.length = ds.length
  | _, _, .nil => rfl
  | _, _, .cons _ t => congrArg Nat.succ (RpA.length t)
theorem RpA.get : ∀ {vs : List V} {ds : List D} {i : Nat} {d : D}, RpA g H vs ds → ds[i]? = some d → ∃ v, vs[i]? = some v ∧ Rp g H v d
  | _, _, _, _, .nil, e => by simp at e
  | _, _, 0, _, .cons h _, e => by simp at e; subst e; exact ⟨_, rfl, h⟩
  | _, _, i + 1, _, .cons _ t, e => by
    obtain ⟨v, h1, h2⟩ := RpA.get (i := i) t (by simpa using e)
    exact ⟨v, by simpa using h1, h2⟩
theorem RpA.getV : ∀ {vs : List V} {ds : List D} {i : Nat} {v : V}, RpA g H vs ds → vs[i]? = some v → ∃ d, ds[i]? = some d ∧ Rp g H v d
  | _, _, _, _, .nil, e => by simp at e
  | _, _, 0, _, .cons h _, e => by simp at e; subst e; exact ⟨_, rfl, h⟩
  | _, _, i + 1, _, .cons _ t, e => by
    obtain ⟨v, h1, h2⟩ := RpA.getV (i := i) t (by simpa using e)
    exact ⟨v, by simpa using h1, h2⟩
theorem RpA.append : ∀ {vs us : List V} {ds es : List D}, RpA g H vs ds → RpA g H us es → RpA g H (vs ++ us) (ds ++ es)
  | _, _, _, _, .nil, s => s
  | _, _, _, _, .cons h t, s => .cons h (RpA.append t s)
theorem RpA.take : ∀ {vs : List V} {ds : List D} (n : Nat), RpA g H vs ds → RpA g H (vs.take n) (ds.take n)
  | _, _, 0, _ => by simp only [List.take_zero]; exact .nil
  | _, _, _ + 1, .nil => by simp only [List.take_nil]; exact .nil
  | _, _, n + 1, .cons h t => by simp only [List.take_succ_cons]; exact .cons h (RpA.take n t)
theorem RpA.drop : ∀ {vs : List V} {ds : List D} (n : Nat), RpA g H vs ds → RpA g H (vs.drop n) (ds.drop n)
  | _, _, 0, h => h
  | _, _, _ + 1, .nil => by simp only [List.drop_nil]; exact .nil
  | _, _, n + 1, .cons h t => by simp only [List.drop_succ_cons]; exact RpA.drop n t
theorem RpA.set {v : V} {d : D} (r : Rp g H v d) : ∀ {vs : List V} {ds : List D} (n : Nat), RpA g H vs ds → RpA g H (vs.set n v) (ds.set n d)
  | _, _, _, .nil => .nil
  | _, _, 0, .cons _ t => .cons r t
  | _, _, n + 1, .cons h t => .cons h (RpA.set r n t)
theorem RpA.eraseIdx : ∀ {vs : List V} {ds : List D} (n : Nat), RpA g H vs ds → RpA g H (vs.eraseIdx n) (ds.eraseIdx n)
  | _, _, _, .nil => .nil
  | _, _, 0, .cons _ t => t
  | _, _, n + 1, .cons h t => .cons h (RpA.eraseIdx n t)
theorem RpA.replicate {v : V} {d : D} (r : Rp g H v d) : ∀ n, RpA g H (List.replicate n v) (List.replicate n d)
  | 0 => .nil
  | n + 1 => .cons r (RpA.replicate r n)
theorem RpA.mem {v : V} : ∀ {vs : List V} {ds : List D}, RpA g H vs ds → v ∈ vs → ∃ d ∈ ds, Rp g H v d
  | _, _, .cons h t, e => by
    rcases List.mem_cons.mp e with rfl | e
    · exact ⟨_, List.mem_cons_self, h⟩
    · obtain ⟨d, h1, h2⟩ := RpA.mem t e
      exact ⟨d, List.mem_cons_of_mem _ h1, h2⟩
end
/-! ### what a run leaves: all objects but the feed's -/
def Ext (fd : Option (Addr × Addr)) (H H' : Hp) : Prop :=
  (∀ b o, (∀ p l, fd = some (p, l) → b ≠ p) → H b = some o → H' b = some o) ∧ ∀ p l, fd = some (p, l) → Feed H' p l
section
variable {fd : Option (Addr × Addr)} {H H1 H2 : Hp}
theorem Ext.trans (a : Ext fd H H1) (b : Ext fd H1 H2) : Ext fd H H2 := ⟨fun x o n e => b.1 x o n (a.1 x o n e), b.2⟩
theorem Ext.same (a : Ext fd H H1) (e : Same H1 H2) : Ext fd H H2 := ⟨fun x o n h => e _ _ (a.1 x o n h), fun p l h => (a.2 p l h).same e⟩
theorem Ext.of_same (e : Same H H1) (f : ∀ p l, fd = some (p, l) → Feed H p l) : Ext fd H H1 := ⟨fun x o _ h => e _ _ h, fun p l h => (f p l h).same e⟩
theorem Ext.none_of (e : Ext none H H1) : Same H H1 := fun b o h => e.1 b o (fun _ _ q => by cases q) h
theorem Ext.to (e : Ext none H H1) (f : ∀ p l, fd = some (p, l) → Feed H p l) : Ext fd H H1 := Ext.of_same e.none_of f
/-- what is untracked behind it was so ahead -/
theorem Ext.free (e : Ext fd H H1) {a : Addr} (h : H1 a = none) (n : ∀ p l, fd = some (p, l) → a ≠ p) : H a = none := by
  cases q : H a with
  | none => rfl
  | some o => rw [e.1 a o n q] at h; cases h
theorem Ext.off {T : List Addr} (e : Ext fd H H1) (t : ∀ p l, fd = some (p, l) → p ∈ T) : Same (off H T) (off H1 T) := fun b o h => by
  by_cases q : b ∈ T
  · rw [off_in q] at h; cases h
  · rw [off_ne q] at h ⊢
    exact e.1 b o (fun p l hp z => q (z ▸ t p l hp)) h
theorem Ext.at {a : Addr} {o : HO} {T : List Addr} (e : Ext fd H H1) (t : ∀ p l, fd = some (p, l) → p ∈ T) (n : a ∉ T) (h : H a = some o) : H1 a = some o := e.1 a o (fun p l hp z => n (z ▸ t p l hp)) h
end
/-! ### objects of a frame's own, results of expressions, the frame's names -/
inductive O where
  | l (ds : List D) | i (C : Nat) (fs : List D)
def O.toD : O → D
  | .l ds => .lst ds
  | .i C fs => .ins C fs
def RpO (g : Cf) (T : List Addr) (H : Hp) (a : Addr) : O → Prop
  | .l ds => ∃ vs, H a = some (.lst vs) ∧ RpA g (off H T) vs ds
  | .i C fs => ∃ dx fv, H a = some (.ins (g.ad C) dx fv) ∧ FvOk g C fv ∧ RpA g (off H T) (fv.map Prod.snd) fs
/-- plain, a new object, one of the frame's own, something that leans on such -/
inductive X where
  | p (d : D) | c (o : O) | b (o : O) | t (d : D)
def X.toD : X → D
  | .p d => d
  | .c o => o.toD
  | .b o => o.toD
  | .t d => d
def X.tn : X → Bool
  | .p _ => false
  | .c _ => false
  | .b _ => true
  | .t _ => true
def RpX (g : Cf) (T S : List Addr) (H0 H : Hp) (v : V) : X → Prop
  | .p d => Rp g (off H (T ++ S)) v d
  | .c o => ∃ a, v = .ref a ∧ H0 a = none ∧ a ∉ T ++ S ∧ RpO g (a :: (T ++ S)) H a o
  | .b o => ∃ a, v = .ref a ∧ a ∈ S ∧ a ∉ T ∧ RpO g (T ++ S) H a o
  | .t d => Rp g (off H T) v d
inductive Sl where
  | no | v (d : D) | c (o : O)
def SlOk (g : Cf) (T S : List Addr) (H : Hp) (x : Option V) : Sl → Prop
  | .no => True
  | .v d => ∃ v, x = some v ∧ Rp g (off H (T ++ S)) v d
  | .c o => ∃ a, x = some (.ref a) ∧ a ∈ S ∧ RpO g (T ++ S) H a o
/-- the frame: T are others' addresses; He the heap at its entry; S the frame's own objects -/
structure Rl (g : Cf) (T : List Addr) (He : Hp) (S : List Addr) (H : Hp) (Γ : List Sl) (σ : St) : Prop where
  len : Γ.length = σ.length
  sl : ∀ (i : Nat) (s : Sl), Γ[i]? = some s → SlOk g T S H (σ[i]?.join) s
  ne : ∀ (i j : Nat) (o o' : O) (a : Addr), Γ[i]? = some (.c o) → Γ[j]? = some (.c o') → σ[i]? = some (some (.ref a)) → σ[j]? = some (some (.ref a)) → i = j
  tk : ∀ a ∈ S, H a ≠ none
  nw : ∀ a ∈ S, He a = none
  ft : ∀ p l, g.fd = some (p, l) → p ∈ T ∧ He l ≠ none
  tt : ∀ a ∈ T, He a ≠ none
  ex : Ext g.fd He H
  s0 : ∀ a, g.self = some a → σ[0]? = some (some (.ref a))
section
variable {g : Cf} {T S : List Addr} {H0 He H H' : Hp} {v : V} {a : Addr} {o : O} {x : X} {Γ : List Sl} {σ : St}
theorem off_off {H : Hp} {S T : List Addr} (h : ∀ b ∈ S, b ∈ T) {v : V} {d : D} (r : Rp g (off H T) v d) : Rp g (off H S) v d := r.mono (off_sub h) d
theorem Rp.on {d : D} (r : Rp g (off H T) v d) : Rp g H v d := r.mono (off_same H T) d
theorem RpO.mono {T' : List Addr} (r : RpO g T H a o) (h : ∀ o', H a = some o' → H' a = some o') (e : Same (off H T) (off H' T')) : RpO g T' H' a o := by
  cases o with
  | l ds => obtain ⟨vs, h1, h2⟩ := r; exact ⟨vs, h _ h1, h2.mono e⟩
  | i C fs => obtain ⟨dx, fv, h1, hf, h2⟩ := r; exact ⟨dx, fv, h _ h1, hf, RpA.mono e _ h2⟩
theorem RpO.sub {T' : List Addr} (r : RpO g T' H a o) (h : ∀ b ∈ T, b ∈ T') : RpO g T H a o := by
  cases o with
  | l ds => obtain ⟨vs, h1, h2⟩ := r; exact ⟨vs, h1, h2.mono (off_sub h)⟩
  | i C fs => obtain ⟨dx, fv, h1, hf, h2⟩ := r; exact ⟨dx, fv, h1, hf, RpA.mono (off_sub h) _ h2⟩
theorem RpO.toD {T' : List Addr} (r : RpO g T' H a o) (h : ∀ b ∈ T, b ∈ T') (n : a ∉ T) : Rp g (off H T) (.ref a) o.toD := by
  cases o with
  | l ds => obtain ⟨vs, h1, h2⟩ := r; exact .lst (by rw [off_ne n]; exact h1) (h2.mono (off_sub h))
  | i C fs => obtain ⟨dx, fv, h1, hf, h2⟩ := r; exact .ins (by rw [off_ne n]; exact h1) hf (RpA.mono (off_sub h) _ h2)
/-- a result as data -/
theorem RpX.toD (r : RpX g T S H0 H v x) : Rp g (off H T) v x.toD := by
  cases x with
  | p d => exact off_off (fun b h => List.mem_append_left _ h) r
  | c o => obtain ⟨a, rfl, _, n, r⟩ := r; exact r.toD (fun b h => List.mem_cons_of_mem _ (List.mem_append_left _ h)) fun z => n (List.mem_append_left _ z)
  | b o => obtain ⟨a, rfl, _, n, r⟩ := r; exact r.toD (fun b h => List.mem_append_left _ h) n
  | t d => exact r
theorem RpX.toD' (r : RpX g T S H0 H v x) (h : x.tn = false) : Rp g (off H (T ++ S)) v x.toD := by
  cases x with
  | p d => exact r
  | c o => obtain ⟨a, rfl, _, n, r⟩ := r; exact r.toD (fun b h => List.mem_cons_of_mem _ h) n
  | b o => cases h
  | t d => cases h
theorem RpX.on (r : RpX g T S H0 H v x) : Rp g H v x.toD := r.toD.on
theorem RpX.mono (r : RpX g T S H0 H v x) (e : Ext g.fd H H') (t : ∀ p l, g.fd = some (p, l) → p ∈ T) : RpX g T S H0 H' v x := by
  have t' : ∀ p l, g.fd = some (p, l) → p ∈ T ++ S := fun p l h => List.mem_append_left _ (t p l h)
  cases x with
  | p d => exact Rp.mono (e.off t') d r
  | c o =>
    obtain ⟨a, rfl, n0, n, r⟩ := r
    exact ⟨a, rfl, n0, n, r.mono (fun o' h => e.at t' n h) (e.off fun p l h => List.mem_cons_of_mem _ (t' p l h))⟩
  | b o => obtain ⟨a, rfl, m, n, r⟩ := r; exact ⟨a, rfl, m, n, r.mono (fun o' h => e.at t n h) (e.off t')⟩
  | t d => exact Rp.mono (e.off t) d r
/-- from a later start -/
theorem RpX.early (r : RpX g T S H H' v x) (e : Ext g.fd H0 H) (t : ∀ p l, g.fd = some (p, l) → p ∈ T) : RpX g T S H0 H' v x := by
  cases x with
  | p d => exact r
  | b o => exact r
  | t d => exact r
  | c o =>
    obtain ⟨a, rfl, n0, n, r⟩ := r
    exact ⟨a, rfl, e.free n0 fun p l h z => n (by rw [z]; exact List.mem_append_left _ (t p l h)), n, r⟩
theorem Rl.t (r : Rl g T He S H Γ σ) : ∀ p l, g.fd = some (p, l) → p ∈ T := fun p l h => (r.ft p l h).1
theorem Rl.nT (r : Rl g T He S H Γ σ) (h : a ∈ S) : a ∉ T := fun z => r.tt a z (r.nw a h)
theorem Rl.mono (r : Rl g T He S H Γ σ) (e : Ext g.fd H H') : Rl g T He S H' Γ σ where
  len := r.len
  sl := fun i s h => by
    have t' : ∀ p l, g.fd = some (p, l) → p ∈ T ++ S := fun p l h => List.mem_append_left _ (r.t p l h)
    have q := r.sl i s h
    cases s with
    | no => trivial
    | v d => obtain ⟨v, h1, h2⟩ := q; exact ⟨v, h1, Rp.mono (e.off t') d h2⟩
    | c o => obtain ⟨a, h1, h2, h3⟩ := q; exact ⟨a, h1, h2, h3.mono (fun o' h => e.at r.t (r.nT h2) h) (e.off t')⟩
  ne := r.ne
  tk := fun a h => by
    cases q : H a with
    | none => exact absurd q (r.tk a h)
    | some o => rw [e.at r.t (r.nT h) q]; intro z; cases z
  nw := r.nw
  ft := r.ft
  tt := r.tt
  ex := r.ex.trans e
  s0 := r.s0
theorem Rl.feed (r : Rl g T He S H Γ σ) {p l : Addr} (h : g.fd = some (p, l)) : Feed H p l := r.ex.2 p l h
theorem Rl.tkT (r : Rl g T He S H Γ σ) (h : a ∈ T) : H a ≠ none := by
  cases q : He a with
  | none => exact absurd q (r.tt a h)
  | some o =>
    by_cases z : ∃ p l, g.fd = some (p, l) ∧ a = p
    · obtain ⟨p, l, hp, rfl⟩ := z; exact (r.feed hp).tk
    · rw [r.ex.1 a o (fun p l hp e => z ⟨p, l, hp, e⟩) q]; intro z; cases z
theorem Rl.tkTS (r : Rl g T He S H Γ σ) (h : a ∈ T ++ S) : H a ≠ none := (List.mem_append.mp h).elim r.tkT (r.tk a)
theorem Rl.freeTS (r : Rl g T He S H Γ σ) (h : H a = none) : a ∉ T ++ S := fun z => r.tkTS z h
theorem Rl.same (r : Rl g T He S H Γ σ) (e : Same H H') : Ext g.fd H H' := Ext.of_same e fun _ _ h => r.feed h
/-- a new object laid -/
theorem Rl.ext_new (r : Rl g T He S H Γ σ) {o : HO} (h : H a = none) : Ext g.fd H (upd H a o) := r.same (Same.newT h)
/-! slots -/
theorem s0_set {i : Nat} {v : Option V} (h0 : g.ok0 i) (h : ∀ a, g.self = some a → σ[0]? = some (some (.ref a))) : ∀ a, g.self = some a → (σ.set i v)[0]? = some (some (.ref a)) := fun a e => by
  rcases h0 with z | z
  · rw [List.getElem?_set_ne z]; exact h a e
  · rw [z] at e; cases e
theorem Rl.set_v {i : Nat} {d : D} (r : Rl g T He S H Γ σ) (h0 : g.ok0 i) (h : Rp g (off H (T ++ S)) v d) : Rl g T He S H (Γ.set i (.v d)) (σ.set i (some v)) where
  len := by rw [List.length_set, List.length_set]; exact r.len
  sl := fun j s e => by
    by_cases q : i = j
    · subst q
      have hi : i < Γ.length := by
        have := (List.getElem?_eq_some_iff.mp e).1
        simpa using this
      rw [List.getElem?_set_self hi] at e
      cases e
      rw [List.getElem?_set_self (by rw [← r.len]; exact hi)]
      exact ⟨v, rfl, h⟩
    · rw [List.getElem?_set_ne q] at e ⊢
      exact r.sl j s e
  ne := fun j k o o' a h1 h2 h3 h4 => by
    have nj : i ≠ j := fun q => by
      subst q
      have hi : i < Γ.length := by have := (List.getElem?_eq_some_iff.mp h1).1; simpa using this
      rw [List.getElem?_set_self hi] at h1; cases h1
    have nk : i ≠ k := fun q => by
      subst q
      have hi : i < Γ.length := by have := (List.getElem?_eq_some_iff.mp h2).1; simpa using this
      rw [List.getElem?_set_self hi] at h2; cases h2
    rw [List.getElem?_set_ne nj] at h1 h3
    rw [List.getElem?_set_ne nk] at h2 h4
    exact r.ne j k o o' a h1 h2 h3 h4
  tk := r.tk
  nw := r.nw
  ft := r.ft
  tt := r.tt
  ex := r.ex
  s0 := s0_set h0 r.s0
/-- a new object comes to a name -/
theorem off_free (h : H a = none) : Same (off H (T ++ S)) (off H (T ++ (a :: S))) := fun b o e => by
  by_cases q : b ∈ T ++ (a :: S)
  · have : b ∈ T ++ S := by
      rcases List.mem_append.mp q with z | z
      · exact List.mem_append_left _ z
      · rcases List.mem_cons.mp z with rfl | z
        · exact absurd (off_same H _ _ _ e) (by rw [h]; intro z; cases z)
        · exact List.mem_append_right _ z
    rw [off_in this] at e; cases e
  · rw [off_ne q]; exact off_same H _ _ _ e
theorem mem_mid {b : Addr} : b ∈ a :: (T ++ S) ↔ b ∈ T ++ (a :: S) := by
  simp only [List.mem_cons, List.mem_append]
  exact ⟨fun h => h.elim (fun e => .inr (.inl e)) fun h => h.elim .inl fun h => .inr (.inr h), fun h => h.elim (fun e => .inr (.inl e)) fun h => h.elim .inl fun h => .inr (.inr h)⟩
theorem Rl.set_c {i : Nat} {o : O} (r : Rl g T He S H0 Γ σ) (h0 : g.ok0 i) (e : Ext g.fd H0 H) (hn : H0 a = none) (ho : RpO g (a :: (T ++ S)) H a o) : Rl g T He (a :: S) H (Γ.set i (.c o)) (σ.set i (some (.ref a))) := by
  have t' : ∀ p l, g.fd = some (p, l) → p ∈ T ++ (a :: S) := fun p l h => List.mem_append_left _ (r.t p l h)
  have sm : Same (off H0 (T ++ S)) (off H (T ++ (a :: S))) := (off_free hn).trans (e.off t')
  have old : ∀ (j : Nat) (o' : O), Γ[j]? = some (.c o') → σ[j]? ≠ some (some (.ref a)) := fun j o' h1 h2 => by
    obtain ⟨b, h3, h4, _⟩ := r.sl j _ h1
    rw [h2] at h3
    cases h3
    exact r.tk a h4 hn
  have len : ∀ {j : Nat} {s : Sl} {t : Sl}, (Γ.set j s)[j]? = some t → j < Γ.length := fun {j s t} h => by
    have := (List.getElem?_eq_some_iff.mp h).1
    simpa using this
  refine ⟨by rw [List.length_set, List.length_set]; exact r.len, fun j s q => ?_, fun j k o1 o2 b h1 h2 h3 h4 => ?_, fun b h => ?_, fun b h => ?_, r.ft, r.tt, r.ex.trans e, s0_set h0 r.s0⟩
  · by_cases z : i = j
    · subst z
      have hi := len q
      rw [List.getElem?_set_self hi] at q
      cases q
      rw [List.getElem?_set_self (by rw [← r.len]; exact hi)]
      exact ⟨a, rfl, List.mem_cons_self, ho.sub fun b hb => mem_mid.mpr hb⟩
    · rw [List.getElem?_set_ne z] at q ⊢
      have y := r.sl j s q
      cases s with
      | no => trivial
      | v d => obtain ⟨v, h1, h2⟩ := y; exact ⟨v, h1, h2.mono sm⟩
      | c o' => obtain ⟨b, h1, h2, h3⟩ := y; exact ⟨b, h1, List.mem_cons_of_mem _ h2, h3.mono (fun o' h => e.at r.t (r.nT h2) h) sm⟩
  · by_cases nj : i = j
    · subst nj
      by_cases nk : i = k
      · exact nk
      · rw [List.getElem?_set_self (by rw [← r.len]; exact len h1)] at h3
        cases h3
        rw [List.getElem?_set_ne nk] at h2 h4
        exact absurd h4 (old k o2 h2)
    · by_cases nk : i = k
      · subst nk
        rw [List.getElem?_set_self (by rw [← r.len]; exact len h2)] at h4
        cases h4
        rw [List.getElem?_set_ne nj] at h1 h3
        exact absurd h3 (old j o1 h1)
      · rw [List.getElem?_set_ne nj] at h1 h3
        rw [List.getElem?_set_ne nk] at h2 h4
        exact r.ne j k o1 o2 b h1 h2 h3 h4
  · rcases List.mem_cons.mp h with rfl | h
    · cases o with
      | l ds => obtain ⟨vs, h1, _⟩ := ho; rw [h1]; intro z; cases z
      | i C fs => obtain ⟨dx, fv, h1, _⟩ := ho; rw [h1]; intro z; cases z
    · cases q : H0 b with
      | none => exact absurd q (r.tk b h)
      | some u => rw [e.at r.t (r.nT h) q]; intro z; cases z
  · rcases List.mem_cons.mp h with rfl | h
    · exact r.ex.free hn fun p l h z => by
        have := (r.feed h).tk
        rw [← z] at this
        exact this hn
    · exact r.nw b h
/-- one of the frame's own objects is written anew -/
theorem Rl.put {i : Nat} {o o' : O} {u : HO} (r : Rl g T He S H Γ σ) (h1 : Γ[i]? = some (.c o)) (h2 : σ[i]? = some (some (.ref a))) (ho : RpO g (T ++ S) (upd H a u) a o') : Rl g T He S (upd H a u) (Γ.set i (.c o')) σ := by
  obtain ⟨b, h3, h4, h5⟩ := r.sl i _ h1
  rw [h2] at h3
  cases h3
  have hT := r.nT h4
  have mem : a ∈ T ++ S := List.mem_append_right _ h4
  have oe : off (upd H a u) (T ++ S) = off H (T ++ S) := off_upd mem
  have ext : Ext g.fd He (upd H a u) := by
    refine ⟨fun b ob n hb => ?_, fun p l hp => ?_⟩
    · rw [upd_ne (ne_of_none hb (r.nw a h4))]
      exact r.ex.1 b ob n hb
    · obtain ⟨ns, i', c, s, q1, q2, q⟩ := r.ex.2 p l hp
      have n1 : p ≠ a := fun z => hT (z ▸ r.t p l hp)
      have n2 : l ≠ a := fun z => (r.ft p l hp).2 (by rw [z]; exact r.nw a h4)
      exact ⟨ns, i', c, s, by rw [upd_ne n1]; exact q1, by rw [upd_ne n2]; exact q2, q⟩
  refine ⟨by rw [List.length_set]; exact r.len, fun j s q => ?_, fun j k o1 o2 b h6 h7 h8 h9 => ?_, fun b h => ?_, r.nw, r.ft, r.tt, ext, r.s0⟩
  · by_cases z : i = j
    · subst z
      have hi : i < Γ.length := by
        have := (List.getElem?_eq_some_iff.mp q).1
        simpa using this
      rw [List.getElem?_set_self hi] at q
      cases q
      rw [h2]
      exact ⟨a, rfl, h4, ho⟩
    · rw [List.getElem?_set_ne z] at q
      have y := r.sl j s q
      cases s with
      | no => trivial
      | v d => obtain ⟨v, y1, y2⟩ := y; exact ⟨v, y1, by rw [oe]; exact y2⟩
      | c o3 =>
        obtain ⟨b, y1, y2, y3⟩ := y
        have y1' : σ[j]? = some (some (.ref b)) := by
          cases w : σ[j]? with
          | none => rw [w] at y1; cases y1
          | some x => rw [w] at y1; exact congrArg some y1
        have nb : b ≠ a := fun e => z (r.ne i j o o3 a h1 q h2 (e ▸ y1'))
        exact ⟨b, y1, y2, y3.mono (fun o' h => by rw [upd_ne nb]; exact h) (by rw [oe]; exact Same.refl _)⟩
  · have down : ∀ {m : Nat} {o3 : O}, (Γ.set i (.c o'))[m]? = some (.c o3) → ∃ o4, Γ[m]? = some (.c o4) := fun {m o3} h => by
      by_cases z : i = m
      · subst z; exact ⟨o, h1⟩
      · rw [List.getElem?_set_ne z] at h; exact ⟨_, h⟩
    obtain ⟨o3, q1⟩ := down h6
    obtain ⟨o4, q2⟩ := down h7
    exact r.ne j k o3 o4 b q1 q2 h8 h9
  · by_cases z : b = a
    · rw [z, upd_same]; intro y; cases y
    · rw [upd_ne z]; exact r.tk b h
end
end G
namespace G
open PySem PySem.Spec L2
open PyProof.Rows hiding St
/-! ### readings of runs -/
abbrev Se (α : Type) := List Sl → M α
inductive RpXs (g : Cf) (T S : List Addr) (H0 H : Hp) : List V → List X → Prop
  | nil : RpXs g T S H0 H [] []
  | cons {v : V} {x : X} {vs : List V} {xs : List X} : RpX g T S H0 H v x → RpXs g T S H0 H vs xs → RpXs g T S H0 H (v :: vs) (x :: xs)
def rdE (g : Cf) (T : List Addr) (He : Hp) (f : Se X) : TE := fun σ H Q => ∃ Γ S, Rl g T He S H Γ σ ∧ (f Γ).wp fun x => ∀ v H', Ext g.fd H H' → RpX g T S H H' v x → Q v H'
def rdT (g : Cf) (T : List Addr) (He : Hp) (f : Se Bool) : TT := fun σ H Q => ∃ Γ S, Rl g T He S H Γ σ ∧ (f Γ).wp fun b => ∀ H', Ext g.fd H H' → Q b H'
def rdA (g : Cf) (T : List Addr) (He : Hp) (f : Se (List X)) : TA := fun σ H Q => ∃ Γ S, Rl g T He S H Γ σ ∧ (f Γ).wp fun xs => ∀ vs H', Ext g.fd H H' → RpXs g T S H H' vs xs → Q vs H'
abbrev EV (Z : Cx) (g : Cf) (T : List Addr) (He : Hp) (e : Expr) (f : Se X) : Prop := PE Z e (rdE g T He f)
abbrev EB (Z : Cx) (g : Cf) (T : List Addr) (He : Hp) (e : Expr) (f : Se Bool) : Prop := PT Z e (rdT g T He f)
abbrev EA (Z : Cx) (g : Cf) (T : List Addr) (He : Hp) (es : List Expr) (f : Se (List X)) : Prop := PA Z es (rdA g T He f)
theorem pe_w {Z : Cx} {e : Expr} {t t' : TE} (h : PE Z e t) (k : ∀ σ H Q, t' σ H Q → t σ H Q) : PE Z e t' := ⟨fun pins s σ H Q I q => h.run pins s σ H Q I (k _ _ _ q)⟩
theorem pt_w {Z : Cx} {e : Expr} {t t' : TT} (h : PT Z e t) (k : ∀ σ H Q, t' σ H Q → t σ H Q) : PT Z e t' := ⟨fun pins s σ H Q I q => h.run pins s σ H Q I (k _ _ _ q)⟩
theorem pw_w {Z : Cx} {e : Expr} {t t' : TT} (h : PW Z e t) (k : ∀ σ H Q, t' σ H Q → t σ H Q) : PW Z e t' := ⟨fun wh pins s σ H Q I q => h.run wh pins s σ H Q I (k _ _ _ q)⟩
theorem pa_w {Z : Cx} {es : List Expr} {t t' : TA} (h : PA Z es t) (k : ∀ σ H Q, t' σ H Q → t σ H Q) : PA Z es t' := ⟨fun pos pins s σ H Q I q => h.run pos pins s σ H Q I (k _ _ _ q)⟩
section
variable {g : Cf} {T S : List Addr} {H0 He H H' : Hp} {v : V} {a : Addr} {o : O} {x : X} {Γ : List Sl} {σ : St}
theorem RpXs.mono : ∀ {vs : List V} {xs : List X}, RpXs g T S H0 H vs xs → Ext g.fd H H' → (∀ p l, g.fd = some (p, l) → p ∈ T) → RpXs g T S H0 H' vs xs
  | _, _, .nil, _, _ => .nil
  | _, _, .cons h t, e, f => .cons (h.mono e f) (RpXs.mono t e f)
theorem RpXs.early : ∀ {vs : List V} {xs : List X}, RpXs g T S H H' vs xs → Ext g.fd H0 H → (∀ p l, g.fd = some (p, l) → p ∈ T) → RpXs g T S H0 H' vs xs
  | _, _, .nil, _, _ => .nil
  | _, _, .cons h t, e, f => .cons (h.early e f) (RpXs.early t e f)
theorem rdE.use {f : Se X} {R : VK} (r : Rl g T He S H Γ σ) (w : (f Γ).wp fun x => ∀ v H', Ext g.fd H H' → Rl g T He S H' Γ σ → RpX g T S H H' v x → R v H') : rdE g T He f σ H R :=
  ⟨Γ, S, r, M.wp_mono (fun x q v H' e rx => q v H' e (r.mono e) rx) w⟩
theorem rdT.use {f : Se Bool} {R : Bool → Hp → Prop} (r : Rl g T He S H Γ σ) (w : (f Γ).wp fun b => ∀ H', Ext g.fd H H' → Rl g T He S H' Γ σ → R b H') : rdT g T He f σ H R :=
  ⟨Γ, S, r, M.wp_mono (fun x q H' e => q H' e (r.mono e)) w⟩
theorem rdA.use {f : Se (List X)} {R : List V → Hp → Prop} (r : Rl g T He S H Γ σ) (w : (f Γ).wp fun xs => ∀ vs H', Ext g.fd H H' → Rl g T He S H' Γ σ → RpXs g T S H H' vs xs → R vs H') : rdA g T He f σ H R :=
  ⟨Γ, S, r, M.wp_mono (fun x q v H' e rx => q v H' e (r.mono e) rx) w⟩
end
/-! ### operations by values -/
/-- an argument: data, or an object whose items are data -/
inductive Rp1 (g : Cf) (T : List Addr) (H : Hp) : V → D → Prop
  | of {v : V} {d : D} : Rp g (off H T) v d → Rp1 g T H v d
  | l {a : Addr} {vs : List V} {ds : List D} : H a = some (.lst vs) → RpA g (off H T) vs ds → Rp1 g T H (.ref a) (.lst ds)
  | i {a dx : Addr} {C : Nat} {fv : List (Str × V)} {fs : List D} : H a = some (.ins (g.ad C) dx fv) → FvOk g C fv → RpA g (off H T) (fv.map Prod.snd) fs → Rp1 g T H (.ref a) (.ins C fs)
inductive Rp1s (g : Cf) (T : List Addr) (H : Hp) : List V → List D → Prop
  | nil : Rp1s g T H [] []
  | cons {v : V} {d : D} {vs : List V} {ds : List D} : Rp1 g T H v d → Rp1s g T H vs ds → Rp1s g T H (v :: vs) (d :: ds)
/-- a result: an atom, a new object, data -/
inductive R where
  | at (d : D) | nw (o : O) | dt (d : D)
inductive AtR : V → D → Prop
  | non : AtR .non .non
  | bl (b : Bool) : AtR (.bl b) (.bl b)
  | int (i : Int) : AtR (.int i) (.int i)
  | str (x : Str) : PyData.strOk x = true → AtR (.str x) (.str x)
theorem AtR.rp {g : Cf} {H : Hp} {v : V} {d : D} (h : AtR v d) : Rp g H v d := by
  cases h with
  | non => exact .non
  | bl b => exact .bl b
  | int i => exact .int i
  | str x h => exact .str x h
def D.flat : D → Bool
  | .non => true
  | .bl _ => true
  | .int _ => true
  | .str _ => true
  | _ => false
theorem Rp.flatAny {g : Cf} {H H' : Hp} {v : V} {d : D} (r : Rp g H v d) (h : d.flat = true) : Rp g H' v d := by
  cases r <;> first | (cases h; done) | constructor
  rename_i z; exact z
def RpR (g : Cf) (T : List Addr) (H0 H : Hp) (v : V) : R → Prop
  | .at d => AtR v d
  | .nw o => ∃ a, v = .ref a ∧ H0 a = none ∧ a ∉ T ∧ RpO g (a :: T) H a o
  | .dt d => Rp g (off H T) v d
def X.tt : X → Bool
  | .t _ => true
  | _ => false
def R.fin (tt : Bool) : R → X
  | .at d => .p d
  | .nw o => if tt then .t o.toD else .c o
  | .dt d => if tt && !d.flat then .t d else .p d
@[simp] theorem fin_at {tt : Bool} {d : D} : (R.at d).fin tt = .p d := rfl
@[simp] theorem fin_nw {o : O} : (R.nw o).fin false = .c o := rfl
@[simp] theorem fin_dt {d : D} : (R.dt d).fin false = .p d := rfl
@[simp] theorem fin_dtf {tt : Bool} {d : D} (h : d.flat = true) : (R.dt d).fin tt = .p d := by show (if (tt && !d.flat) = true then X.t d else X.p d) = _; rw [h]; simp
@[simp] theorem tt_p {d : D} : (X.p d).tt = false := rfl
@[simp] theorem tt_c {o : O} : (X.c o).tt = false := rfl
@[simp] theorem tt_b {o : O} : (X.b o).tt = false := rfl
@[simp] theorem tt_t {d : D} : (X.t d).tt = true := rfl
@[simp] theorem toD_p {d : D} : (X.p d).toD = d := rfl
@[simp] theorem toD_c {o : O} : (X.c o).toD = o.toD := rfl
@[simp] theorem toD_b {o : O} : (X.b o).toD = o.toD := rfl
@[simp] theorem toD_t {d : D} : (X.t d).toD = d := rfl
@[simp] theorem O_l {ds : List D} : (O.l ds).toD = .lst ds := rfl
@[simp] theorem O_i {C : Nat} {fs : List D} : (O.i C fs).toD = .ins C fs := rfl
structure FdOk (g : Cf) (T : List Addr) (H : Hp) : Prop where
  tk : ∀ a ∈ T, H a ≠ none
  fd : ∀ p l, g.fd = some (p, l) → p ∈ T ∧ Feed H p l
section
variable {g : Cf} {T S : List Addr} {H0 He H H' : Hp} {v : V} {a : Addr} {o : O} {x : X} {Γ : List Sl} {σ : St}
theorem FdOk.same (f : FdOk g T H) (e : Same H H') : Ext g.fd H H' := Ext.of_same e fun p l h => (f.fd p l h).2
theorem FdOk.new (f : FdOk g T H) {u : HO} (h : H a = none) : Ext g.fd H (upd H a u) := f.same (Same.newT h)
theorem FdOk.refl (f : FdOk g T H) : Ext g.fd H H := f.same (Same.refl _)
theorem FdOk.nin (f : FdOk g T H) (h : H a = none) : a ∉ T := fun z => f.tk a z h
theorem Rl.fok (r : Rl g T He S H Γ σ) : FdOk g (T ++ S) H := ⟨fun _ h => r.tkTS h, fun p l h => ⟨List.mem_append_left _ (r.t p l h), r.feed h⟩⟩
theorem Rl.fokT (r : Rl g T He S H Γ σ) : FdOk g T H := ⟨fun _ h => r.tkT h, fun p l h => ⟨r.t p l h, r.feed h⟩⟩
/-- a frame of T, or of T and S, as the results are tainted -/
def TS (T S : List Addr) (tt : Bool) : List Addr := if tt then T else T ++ S
theorem Rl.fokB (r : Rl g T He S H Γ σ) (tt : Bool) : FdOk g (TS T S tt) H := by
  cases tt
  · exact r.fok
  · exact r.fokT
theorem RpX.r1 {tt : Bool} (r : RpX g T S H0 H v x) (h : x.tt = true → tt = true) : Rp1 g (TS T S tt) H v x.toD := by
  have sub : ∀ b ∈ TS T S tt, b ∈ T ++ S := fun b hb => by
    cases tt
    · exact hb
    · exact List.mem_append_left _ hb
  cases x with
  | p d => exact .of (off_off sub r)
  | c o =>
    obtain ⟨a, rfl, _, n, r⟩ := r
    exact .of (r.toD (fun b h => List.mem_cons_of_mem _ (sub b h)) fun z => n (sub a z))
  | b o =>
    obtain ⟨a, rfl, _, n, r⟩ := r
    cases o with
    | l ds => obtain ⟨vs, h1, h2⟩ := r; exact .l h1 (h2.mono (off_sub sub))
    | i C fs => obtain ⟨dx, fv, h1, hf, h2⟩ := r; exact .i h1 hf (RpA.mono (off_sub sub) _ h2)
  | t d =>
    have := h rfl
    subst this
    exact .of r
theorem RpXs.r1 {tt : Bool} : ∀ {vs : List V} {xs : List X}, RpXs g T S H0 H vs xs → (xs.any X.tt = true → tt = true) → Rp1s g (TS T S tt) H vs (xs.map X.toD)
  | _, _, .nil, _ => .nil
  | _, _, .cons h t, e => .cons (h.r1 fun z => e (by rw [List.any_cons, z]; rfl)) (RpXs.r1 t fun z => e (by rw [List.any_cons, z, Bool.or_true]))
theorem RpR.fin {tt : Bool} {z : R} (r : RpR g (TS T S tt) H0 H v z) : RpX g T S H0 H v (z.fin tt) := by
  cases z with
  | «at» d => exact AtR.rp r
  | nw o =>
    obtain ⟨a, rfl, n0, n, r⟩ := r
    cases tt
    · exact ⟨a, rfl, n0, n, r⟩
    · exact r.toD (T := T) (fun b h => List.mem_cons_of_mem _ h) n
  | dt d =>
    cases tt
    · exact r
    · cases h : d.flat with
      | true => rw [fin_dtf h]; exact Rp.flatAny r h
      | false => show RpX g T S H0 H v (if (true && !d.flat) = true then X.t d else X.p d); rw [h]; exact r
end
def Pr2 (g : Cf) (r : R2) (sem : D → D → M R) : Prop := ∀ T H v1 v2 d1 d2 Q, FdOk g T H → Rp1 g T H v1 d1 → Rp1 g T H v2 d2 → (sem d1 d2).wp (fun z => ∀ v H', Ext g.fd H H' → RpR g T H H' v z → Q v H') → r v1 v2 H Q
def PrN (g : Cf) (r : List V → Hp → VK → Prop) (sem : List D → M R) : Prop := ∀ T H vs ds Q, FdOk g T H → Rp1s g T H vs ds → (sem ds).wp (fun z => ∀ v H', Ext g.fd H H' → RpR g T H H' v z → Q v H') → r vs H Q
def PrM (g : Cf) (r : V → List V → Hp → VK → Prop) (sem : D → List D → M R) : Prop := ∀ T H u vs d ds Q, FdOk g T H → Rp1 g T H u d → Rp1s g T H vs ds → (sem d ds).wp (fun z => ∀ v H', Ext g.fd H H' → RpR g T H H' v z → Q v H') → r u vs H Q
def s2 (sem : D → D → M R) (f1 f2 : Se X) : Se X := fun Γ => (f1 Γ).bind fun x => (f2 Γ).bind fun y => (sem x.toD y.toD).bind fun z => .ret (z.fin (x.tt || y.tt))
def sN (sem : List D → M R) (f : Se (List X)) : Se X := fun Γ => (f Γ).bind fun xs => (sem (xs.map X.toD)).bind fun z => .ret (z.fin (xs.any X.tt))
def sM (sem : D → List D → M R) (f1 : Se X) (f : Se (List X)) : Se X := fun Γ => (f1 Γ).bind fun x => (f Γ).bind fun xs => (sem x.toD (xs.map X.toD)).bind fun z => .ret (z.fin (x.tt || xs.any X.tt))
section
variable {Z : Cx} {g : Cf} {T : List Addr} {He : Hp} {a b c : Expr} {f1 f2 f3 : Se X} {fs : Se (List X)} {sem : D → D → M R} {semN : List D → M R} {r : R2} {pos : Pos}
theorem rd2 {S : List Addr} {σ : St} {H : Hp} {Γ : List Sl} {Q : VK} (hp : Pr2 g r sem) (rl : Rl g T He S H Γ σ) (w : (s2 sem f1 f2 Γ).wp fun x => ∀ v H', Ext g.fd H H' → RpX g T S H H' v x → Q v H') : tOp r (rdE g T He f1) (rdE g T He f2) σ H Q := by
  simp only [s2, M.wp_bind, M.wp_ret] at w
  refine rdE.use rl (M.wp_mono (fun x w v1 H1 e1 l1 x1 => ?_) w)
  refine rdE.use l1 (M.wp_mono (fun y w v2 H2 e2 l2 x2 => ?_) w)
  refine hp (TS T S (x.tt || y.tt)) H2 v1 v2 x.toD y.toD Q (l2.fokB _) ((x1.mono e2 l1.t).r1 fun h => by rw [h]; rfl) (x2.r1 fun h => by rw [h, Bool.or_true]) (M.wp_mono (fun z w v H' e h => ?_) w)
  exact w v H' ((e1.trans e2).trans e) (h.fin.early (e1.trans e2) l2.t)
theorem ev_bin {op : Operator} (ho : OpR Z (binaryOp op) r) (hp : Pr2 g r sem) (ha : EV Z g T He a f1) (hb : EV Z g T He b f2) : EV Z g T He (.BinOp a op b pos) (s2 sem f1 f2) :=
  pe_w (pe_op ho ha hb) fun _ _ _ ⟨_, _, rl, w⟩ => rd2 hp rl w
theorem ev_cmp {op : CmpOp} (ho : OpR Z (compareOp op) r) (hp : Pr2 g r sem) (ha : EV Z g T He a f1) (hb : EV Z g T He b f2) (hm : behindInMarks op b = false) : EV Z g T He (.Compare a [op] [b] pos) (s2 sem f1 f2) :=
  pe_w (pe_cmpR ho ha hb hm) fun _ _ _ ⟨_, _, rl, w⟩ => rd2 hp rl w
/-- a value as a test -/
def sB (f : Se X) : Se Bool := fun Γ => (f Γ).bind fun x => match x.toD with | .bl b => .ret b | _ => .fail
theorem sB_wp {S : List Addr} {H : Hp} {Γ : List Sl} {Q : Bool → Hp → Prop} {f : Se X} (w : (sB f Γ).wp fun b => ∀ H', Ext g.fd H H' → Q b H') : (f Γ).wp fun x => ∀ v H', Ext g.fd H H' → RpX g T S H H' v x → ∃ k, v = .bl k ∧ Q k H' := by
  simp only [sB, M.wp_bind] at w
  refine M.wp_mono (fun x w v H' e rx => ?_) w
  have q := rx.on
  cases h : x.toD <;> rw [h] at w q <;> first | exact w.elim | skip
  cases q
  exact ⟨_, rfl, w H' e⟩
theorem et_cmp {op : CmpOp} (ho : OpR Z (compareOp op) r) (hp : Pr2 g r sem) (ha : EV Z g T He a f1) (hb : EV Z g T He b f2) (hm : behindInMarks op b = false) : EB Z g T He (.Compare a [op] [b] pos) (sB (s2 sem f1 f2)) :=
  pt_w (pt_cmpR ho ha hb hm) fun _ _ _ ⟨_, _, rl, w⟩ => rd2 hp rl (sB_wp w)
theorem et_val {e : Expr} (h : EV Z g T He e f1) (he : ∀ whole, isTrue e Z.env whole = (do let v ← whole; standAt e.pos; holding [v] (truthy v)) := by intro _; rfl) : EB Z g T He e (sB f1) :=
  pt_w (pt_val h he) fun _ _ _ ⟨Γ, S, rl, w⟩ => ⟨Γ, S, rl, sB_wp w⟩
/-! chains -/
def sCh (s1 s2 : D → D → M R) (f1 f2 f3 : Se X) : Se X := fun Γ => (f1 Γ).bind fun x => (f2 Γ).bind fun y => (s1 x.toD y.toD).bind fun z =>
  match z with
  | .at (.bl true) => (f3 Γ).bind fun x3 => (s2 y.toD x3.toD).bind fun z => .ret (z.fin (y.tt || x3.tt))
  | .at (.bl false) => .ret (.p (.bl false))
  | _ => .fail
theorem rdCh {r' : R2} {sem' : D → D → M R} {S : List Addr} {σ : St} {H : Hp} {Γ : List Sl} {Q : VK} (hp : Pr2 g r sem) (hp' : Pr2 g r' sem') (rl : Rl g T He S H Γ σ) (w : (sCh sem sem' f1 f2 f3 Γ).wp fun x => ∀ v H', Ext g.fd H H' → RpX g T S H H' v x → Q v H') :
    tChain r r' (rdE g T He f1) (rdE g T He f2) (rdE g T He f3) σ H Q := by
  simp only [sCh, M.wp_bind, M.wp_ret] at w
  refine rdE.use rl (M.wp_mono (fun x w v1 H1 e1 l1 x1 => ?_) w)
  refine rdE.use l1 (M.wp_mono (fun y w v2 H2 e2 l2 x2 => ?_) w)
  refine hp (TS T S (x.tt || y.tt)) H2 v1 v2 x.toD y.toD _ (l2.fokB _) ((x1.mono e2 l1.t).r1 fun h => by rw [h]; rfl) (x2.r1 fun h => by rw [h, Bool.or_true]) (M.wp_mono (fun z w v H3 e3 h => ?_) w)
  have l3 := l2.mono e3
  cases z with
  | nw o => exact w.elim
  | dt d => exact w.elim
  | «at» d =>
    cases d with
    | bl k =>
      cases h
      cases k with
      | false =>
        refine ⟨false, rfl, ?_⟩
        rw [if_neg (by decide)]
        exact w _ H3 ((e1.trans e2).trans e3) (Rp.bl false)
      | true =>
        refine ⟨true, rfl, ?_⟩
        rw [if_pos rfl]
        simp only [M.wp_bind, M.wp_ret] at w
        refine rdE.use l3 (M.wp_mono (fun y3 w v3 H4 e4 l4 x3 => ?_) w)
        have e24 := e3.trans e4
        refine hp' (TS T S (y.tt || y3.tt)) H4 v2 v3 y.toD y3.toD Q (l4.fokB _) ((x2.mono e24 l1.t).r1 fun h => by rw [h]; rfl) (x3.r1 fun h => by rw [h, Bool.or_true]) (M.wp_mono (fun z w v H' e h => ?_) w)
        exact w v H' (((e1.trans e2).trans e24).trans e) (h.fin.early ((e1.trans e2).trans e24) l4.t)
    | _ => exact w.elim
theorem ev_chain {op op' : CmpOp} {r' : R2} {sem' : D → D → M R} (ho : OpR Z (compareOp op) r) (ho' : OpR Z (compareOp op') r') (hp : Pr2 g r sem) (hp' : Pr2 g r' sem') (ha : EV Z g T He a f1) (hb : EV Z g T He b f2) (hc : EV Z g T He c f3)
    (hm : lastMarks [op, op'] [b, c] = false := by with_unfolding_all rfl) : EV Z g T He (.Compare a [op, op'] [b, c] pos) (sCh sem sem' f1 f2 f3) :=
  pe_w (pe_chain ho ho' ha hb hc hm) fun _ _ _ ⟨_, _, rl, w⟩ => rdCh hp hp' rl w
theorem et_chain {op op' : CmpOp} {r' : R2} {sem' : D → D → M R} (ho : OpR Z (compareOp op) r) (ho' : OpR Z (compareOp op') r') (hp : Pr2 g r sem) (hp' : Pr2 g r' sem') (ha : EV Z g T He a f1) (hb : EV Z g T He b f2) (hc : EV Z g T He c f3)
    (hm : lastMarks [op, op'] [b, c] = false := by with_unfolding_all rfl) : EB Z g T He (.Compare a [op, op'] [b, c] pos) (sB (sCh sem sem' f1 f2 f3)) :=
  pt_w (pt_chain ho ho' ha hb hc hm) fun _ _ _ ⟨_, _, rl, w⟩ => rdCh hp hp' rl (sB_wp w)
/-! ### arguments, calls of built-ins -/
def sNil : Se (List X) := fun _ => .ret []
def sCons (f : Se X) (fs : Se (List X)) : Se (List X) := fun Γ => (f Γ).bind fun x => (fs Γ).bind fun xs => .ret (x :: xs)
theorem ea_nil : EA Z g T He [] sNil := pa_w pa_nil fun _ H Q ⟨Γ, S, rl, w⟩ => w [] H rl.fok.refl .nil
theorem ea_cons {e : Expr} {es : List Expr} (he : EV Z g T He e f1) (hr : EA Z g T He es fs) (hs : starEach (e :: es) Z.env = (false, eval e Z.env) :: starEach es Z.env := by rfl) : EA Z g T He (e :: es) (sCons f1 fs) :=
  pa_w (pa_cons he hr hs) fun σ H Q ⟨Γ, S, rl, w⟩ => by
    simp only [sCons, M.wp_bind, M.wp_ret] at w
    refine rdE.use rl (M.wp_mono (fun x w v1 H1 e1 l1 x1 => ?_) w)
    refine rdA.use l1 (M.wp_mono (fun xs w vs H2 e2 l2 xx => ?_) w)
    exact w (v1 :: vs) H2 (e1.trans e2) (.cons (x1.mono e2 l1.t) (xx.early e1 l1.t))
theorem rdN {rN : List V → Hp → VK → Prop} {S : List Addr} {σ : St} {H : Hp} {Γ : List Sl} {Q : VK} (hp : PrN g rN semN) (rl : Rl g T He S H Γ σ) (w : (sN semN fs Γ).wp fun x => ∀ v H', Ext g.fd H H' → RpX g T S H H' v x → Q v H') : rdA g T He fs σ H fun vs H1 => rN vs H1 Q := by
  simp only [sN, M.wp_bind, M.wp_ret] at w
  refine rdA.use rl (M.wp_mono (fun xs w vs H1 e1 l1 xx => ?_) w)
  refine hp (TS T S (xs.any X.tt)) H1 vs _ Q (l1.fokB _) (xx.r1 fun h => h) (M.wp_mono (fun z w v H' e h => ?_) w)
  exact w v H' (e1.trans e) (h.fin.early e1 l1.t)
end
end G
namespace G
open PySem PySem.Spec L2
open PyProof.Rows hiding St
/-! ### names, constants -/
def sNm (i : Nat) : Se X := fun Γ => match Γ[i]? with | some (.v d) => .ret (.p d) | some (.c o) => .ret (.b o) | _ => .fail
def sK (d : D) : Se X := fun _ => .ret (.p d)
section
variable {Z : Cx} {g : Cf} {T : List Addr} {He : Hp} {a b c : Expr} {f1 f2 f3 : Se X} {fs : Se (List X)} {pos : Pos} {es rest : List Expr}
theorem join_some {σ : St} {i : Nat} {v : V} (h : σ[i]?.join = some v) : σ[i]? = some (some v) := by
  cases q : σ[i]? with
  | none => rw [q] at h; cases h
  | some x => rw [q] at h; exact congrArg some h
theorem ev_nm {i : Nat} {x : Str} (hN : Z.N[i]? = some x) (hv : Vis Z.env.scope x) (hd : (x == ("__debug__" : Str)) = false := by decide) (hcd : (x == ("__classdict__" : Str)) = false := by decide) : EV Z g T He (.Name x pos) (sNm i) :=
  pe_w (pe_var hN hv hd hcd) fun σ H Q ⟨Γ, S, rl, w⟩ => by
    unfold sNm at w
    cases q : Γ[i]? with
    | none => rw [q] at w; exact w.elim
    | some s =>
      rw [q] at w
      have y := rl.sl i s q
      cases s with
      | no => exact w.elim
      | v d => obtain ⟨v, h1, h2⟩ := y; exact ⟨v, join_some h1, w v H rl.fok.refl h2⟩
      | c o => obtain ⟨a, h1, h2, h3⟩ := y; exact ⟨_, join_some h1, w _ H rl.fok.refl ⟨a, rfl, h2, rl.nT h2, h3⟩⟩
theorem ev_k {e : Expr} {v : V} {d : D} (h : PE Z e (tC v)) (r : AtR v d) : EV Z g T He e (sK d) := pe_w h fun σ H Q ⟨Γ, S, rl, w⟩ => w v H rl.fok.refl (AtR.rp r)
theorem ev_int {i j : _} : EV Z g T He (.Constant (.int i) j pos) (sK (.int i)) := ev_k pe_int (.int i)
theorem ev_bl {b j : _} : EV Z g T He (.Constant (.bool b) j pos) (sK (.bl b)) := ev_k pe_bl (.bl b)
theorem ev_non {j : _} : EV Z g T He (.Constant .none j pos) (sK .non) := ev_k pe_non .non
theorem ev_str {x : Str} {j : _} (h : PyData.strOk x = true := by decide +kernel) : EV Z g T He (.Constant (.str x) j pos) (sK (.str x)) := ev_k pe_str (.str x h)
/-! ### and, or, not, if -/
def sAnd (f1 f2 : Se X) : Se X := fun Γ => (f1 Γ).bind fun x => match x.toD with | .bl true => f2 Γ | .bl false => .ret (.p (.bl false)) | _ => .fail
def sOr (f1 f2 : Se X) : Se X := fun Γ => (f1 Γ).bind fun x => match x.toD with | .bl true => .ret (.p (.bl true)) | .bl false => f2 Γ | _ => .fail
def sNot (f : Se X) : Se X := fun Γ => (f Γ).bind fun x => match x.toD with | .bl b => .ret (.p (.bl !b)) | _ => .fail
def tAndB (f1 f2 : Se Bool) : Se Bool := fun Γ => (f1 Γ).bind fun x => if x then f2 Γ else .ret false
def tOrB (f1 f2 : Se Bool) : Se Bool := fun Γ => (f1 Γ).bind fun x => if x then .ret true else f2 Γ
def tNotB (f : Se Bool) : Se Bool := fun Γ => (f Γ).bind fun x => .ret !x
def sIf (t : Se Bool) (f1 f2 : Se X) : Se X := fun Γ => (t Γ).bind fun x => if x then f1 Γ else f2 Γ
theorem RpX.ear {S : List Addr} {H H1 H' : Hp} {v : V} {x : X} {Γ : List Sl} {σ : St} (r : RpX g T S H1 H' v x) (e : Ext g.fd H H1) (l : Rl g T He S H1 Γ σ) : RpX g T S H H' v x := r.early e l.t
theorem late {S : List Addr} {H H1 : Hp} {Γ : List Sl} {σ : St} {Q : VK} {x : X} (e : Ext g.fd H H1) (l : Rl g T He S H1 Γ σ) (q : ∀ v H', Ext g.fd H H' → RpX g T S H H' v x → Q v H') : ∀ v H', Ext g.fd H1 H' → RpX g T S H1 H' v x → Q v H' :=
  fun v H' e' r => q v H' (e.trans e') (r.early e l.t)
theorem ev_one {op} (h : EV Z g T He a f1) : EV Z g T He (.BoolOp op [a] pos) f1 := pe_one h
theorem ev_and (ha : EV Z g T He a f1) (hb : EV Z g T He (.BoolOp .And (b :: rest) pos) f2) : EV Z g T He (.BoolOp .And (a :: b :: rest) pos) (sAnd f1 f2) :=
  pe_w (pe_and ha hb) fun σ H Q ⟨Γ, S, rl, w⟩ => by
    simp only [sAnd, M.wp_bind] at w
    refine rdE.use rl (M.wp_mono (fun x w v1 H1 e1 l1 x1 => ?_) w)
    have q := x1.on
    cases h : x.toD <;> rw [h] at w q <;> first | exact w.elim | skip
    rename_i k
    cases q
    refine ⟨k, rfl, ?_⟩
    cases k with
    | true => rw [if_pos rfl]; exact ⟨Γ, S, l1, M.wp_mono (fun x q => late e1 l1 q) w⟩
    | false => rw [if_neg (by decide)]; exact w _ H1 e1 (Rp.bl false)
theorem ev_or (ha : EV Z g T He a f1) (hb : EV Z g T He (.BoolOp .Or (b :: rest) pos) f2) : EV Z g T He (.BoolOp .Or (a :: b :: rest) pos) (sOr f1 f2) :=
  pe_w (pe_or ha hb) fun σ H Q ⟨Γ, S, rl, w⟩ => by
    simp only [sOr, M.wp_bind] at w
    refine rdE.use rl (M.wp_mono (fun x w v1 H1 e1 l1 x1 => ?_) w)
    have q := x1.on
    cases h : x.toD <;> rw [h] at w q <;> first | exact w.elim | skip
    rename_i k
    cases q
    refine ⟨k, rfl, ?_⟩
    cases k with
    | true => rw [if_pos rfl]; exact w _ H1 e1 (Rp.bl true)
    | false => rw [if_neg (by decide)]; exact ⟨Γ, S, l1, M.wp_mono (fun x q => late e1 l1 q) w⟩
theorem ev_not (ha : EV Z g T He a f1) : EV Z g T He (.UnaryOp .Not a pos) (sNot f1) :=
  pe_w (pe_not ha) fun σ H Q ⟨Γ, S, rl, w⟩ => by
    simp only [sNot, M.wp_bind] at w
    refine rdE.use rl (M.wp_mono (fun x w v1 H1 e1 l1 x1 => ?_) w)
    have q := x1.on
    cases h : x.toD <;> rw [h] at w q <;> first | exact w.elim | skip
    rename_i k
    cases q
    exact ⟨k, rfl, w _ H1 e1 (Rp.bl _)⟩
variable {t1 t2 : Se Bool}
abbrev EW (Z : Cx) (g : Cf) (T : List Addr) (He : Hp) (e : Expr) (f : Se Bool) : Prop := PW Z e (rdT g T He f)
theorem ew_and1 (h : EB Z g T He a t1) : EW Z g T He (.BoolOp .And [a] pos) t1 := pw_and1 h
theorem ew_or1 (h : EB Z g T He a t1) : EW Z g T He (.BoolOp .Or [a] pos) t1 := pw_or1 h
theorem ew_and (ha : EB Z g T He a t1) (hb : EW Z g T He (.BoolOp .And (b :: rest) pos) t2) : EW Z g T He (.BoolOp .And (a :: b :: rest) pos) (tAndB t1 t2) :=
  pw_w (pw_and ha hb) fun σ H Q ⟨Γ, S, rl, w⟩ => by
    simp only [tAndB, M.wp_bind] at w
    refine rdT.use rl (M.wp_mono (fun x w H1 e1 l1 => ?_) w)
    cases x with
    | true => rw [if_pos rfl] at w ⊢; exact ⟨Γ, S, l1, M.wp_mono (fun x q H' e => q H' (e1.trans e)) w⟩
    | false => rw [if_neg (by decide)] at w ⊢; exact w H1 e1
theorem ew_or (ha : EB Z g T He a t1) (hb : EW Z g T He (.BoolOp .Or (b :: rest) pos) t2) : EW Z g T He (.BoolOp .Or (a :: b :: rest) pos) (tOrB t1 t2) :=
  pw_w (pw_or ha hb) fun σ H Q ⟨Γ, S, rl, w⟩ => by
    simp only [tOrB, M.wp_bind] at w
    refine rdT.use rl (M.wp_mono (fun x w H1 e1 l1 => ?_) w)
    cases x with
    | false => rw [if_neg (by decide)] at w ⊢; exact ⟨Γ, S, l1, M.wp_mono (fun x q H' e => q H' (e1.trans e)) w⟩
    | true => rw [if_pos rfl] at w ⊢; exact w H1 e1
theorem et_w (h : EW Z g T He a t1) : EB Z g T He a t1 := h.pt
theorem et_not (h : EB Z g T He a t1) : EB Z g T He (.UnaryOp .Not a pos) (tNotB t1) :=
  pt_w (pt_not h) fun σ H Q ⟨Γ, S, rl, w⟩ => by
    simp only [tNotB, M.wp_bind, M.wp_ret] at w
    exact rdT.use rl (M.wp_mono (fun x w H1 e1 l1 => w H1 e1) w)
theorem ev_if (hc : EB Z g T He c t1) (ha : EV Z g T He a f1) (hb : EV Z g T He b f2) : EV Z g T He (.IfExp c a b pos) (sIf t1 f1 f2) :=
  pe_w (pe_ifExp hc ha hb) fun σ H Q ⟨Γ, S, rl, w⟩ => by
    simp only [sIf, M.wp_bind] at w
    refine rdT.use rl (M.wp_mono (fun x w H1 e1 l1 => ?_) w)
    cases x with
    | true => rw [if_pos rfl] at w ⊢; exact ⟨Γ, S, l1, M.wp_mono (fun x q => late e1 l1 q) w⟩
    | false => rw [if_neg (by decide)] at w ⊢; exact ⟨Γ, S, l1, M.wp_mono (fun x q => late e1 l1 q) w⟩
/-! ### displays -/
def sLst (fs : Se (List X)) : Se X := fun Γ => (fs Γ).bind fun xs => if xs.length ≤ 100000 then .ret (if xs.any X.tn then .t (.lst (xs.map X.toD)) else .c (.l (xs.map X.toD))) else .fail
def sTup (fs : Se (List X)) : Se X := fun Γ => (fs Γ).bind fun xs => if xs.length ≤ 100000 then .ret (if xs.any X.tn then .t (.tup (xs.map X.toD)) else .p (.tup (xs.map X.toD))) else .fail
theorem RpXs.toD {S : List Addr} {H0 H : Hp} : ∀ {vs : List V} {xs : List X}, RpXs g T S H0 H vs xs → RpA g (off H T) vs (xs.map X.toD)
  | _, _, .nil => .nil
  | _, _, .cons h t => .cons h.toD t.toD
theorem RpXs.toD' {S : List Addr} {H0 H : Hp} : ∀ {vs : List V} {xs : List X}, RpXs g T S H0 H vs xs → xs.any X.tn = false → RpA g (off H (T ++ S)) vs (xs.map X.toD)
  | _, _, .nil, _ => .nil
  | _, _, .cons h t, e => by
    rw [List.any_cons, Bool.or_eq_false_iff] at e
    exact .cons (h.toD' e.1) (t.toD' e.2)
theorem RpXs.length {S : List Addr} {H0 H : Hp} : ∀ {vs : List V} {xs : List X}, RpXs g T S H0 H vs xs → vs.length = xs.length
  | _, _, .nil => rfl
  | _, _, .cons _ t => congrArg Nat.succ t.length
theorem big {n : Nat} (h : n ≤ 100000) : n ≤ sizeLine := Nat.le_trans h (by decide)
theorem same_new_off {H : Hp} {p : Addr} {o : HO} {U : List Addr} (h : H p = none) : Same (off H U) (off (upd H p o) U) := (Same.newT h).offT U
theorem RpA.new {H : Hp} {p : Addr} {o : HO} {U : List Addr} {vs : List V} {ds : List D} (r : RpA g (off H U) vs ds) (h : H p = none) : RpA g (off (upd H p o) U) vs ds := RpA.mono (same_new_off h) _ r
/-- a new list whose items stood before -/
theorem new_lst {H : Hp} {p : Addr} {U : List Addr} {vs : List V} {ds : List D} (f : FdOk g U H) (h : H p = none) (r : RpA g (off H U) vs ds) : RpR g U H (upd H p (.lst vs)) (.ref p) (.nw (.l ds)) :=
  ⟨p, rfl, h, f.nin h, vs, upd_same, RpA.mono ((off_free (T := []) h).trans (same_new_off h)) _ r⟩
theorem new_tup {H : Hp} {p : Addr} {U : List Addr} {vs : List V} {ds : List D} (f : FdOk g U H) (h : H p = none) (r : RpA g (off H U) vs ds) : Rp g (off (upd H p (.tup vs)) U) (.ref p) (.tup ds) :=
  .tup (SqT.of (by rw [off_ne (f.nin h)]; exact upd_same)) (r.new h)
theorem ev_lst (h : EA Z g T He es fs) : EV Z g T He (.List es pos) (sLst fs) :=
  pe_w (pe_lst h) fun σ H Q ⟨Γ, S, rl, w⟩ => by
    simp only [sLst, M.wp_bind] at w
    refine rdA.use rl (M.wp_mono (fun xs w vs H1 e1 l1 xx => ?_) w)
    split at w
    · rename_i hz
      refine ⟨big (by rw [xx.length]; exact hz), fun p hp => w (.ref p) _ (e1.trans (l1.ext_new hp)) ?_⟩
      split
      · exact .lst (by rw [off_ne (l1.fokT.nin hp)]; exact upd_same) (xx.toD.new hp)
      · rename_i ht
        obtain ⟨a, e, _, n, r⟩ := new_lst l1.fok hp (xx.toD' (by simpa using ht))
        cases e
        exact ⟨p, rfl, e1.free hp fun p' l h z => n (by rw [z]; exact List.mem_append_left _ (l1.t p' l h)), n, r⟩
    · exact w.elim
theorem ev_tup {k : _} (h : EA Z g T He es fs) : EV Z g T He (.Tuple es k pos) (sTup fs) :=
  pe_w (pe_tup h) fun σ H Q ⟨Γ, S, rl, w⟩ => by
    simp only [sTup, M.wp_bind] at w
    refine rdA.use rl (M.wp_mono (fun xs w vs H1 e1 l1 xx => ?_) w)
    split at w
    · rename_i hz
      refine ⟨big (by rw [xx.length]; exact hz), fun p hp => w (.ref p) _ (e1.trans (l1.ext_new hp)) ?_⟩
      split
      · exact new_tup l1.fokT hp xx.toD
      · rename_i ht
        exact new_tup l1.fok hp (xx.toD' (by simpa using ht))
    · exact w.elim
/-! ### arguments read -/
section
variable {H : Hp} {v : V}
theorem Rp1.int {i : Int} (r : Rp1 g T H v (.int i)) : v = .int i := by cases r with | of r => cases r; rfl
theorem Rp1.bl {i : Bool} (r : Rp1 g T H v (.bl i)) : v = .bl i := by cases r with | of r => cases r; rfl
theorem Rp1.non (r : Rp1 g T H v .non) : v = .non := by cases r with | of r => cases r; rfl
theorem Rp1.str {i : Str} (r : Rp1 g T H v (.str i)) : v = .str i ∧ PyData.strOk i = true := by cases r with | of r => cases r with | str _ h => exact ⟨rfl, h⟩
theorem Rp1.lst {ds : List D} (r : Rp1 g T H v (.lst ds)) : ∃ a vs, v = .ref a ∧ H a = some (.lst vs) ∧ RpA g (off H T) vs ds := by
  cases r with
  | of r => cases r with | lst h1 h2 => exact ⟨_, _, rfl, off_same _ _ _ _ h1, h2⟩
  | l h1 h2 => exact ⟨_, _, rfl, h1, h2⟩
theorem Rp1.tup {ds : List D} (r : Rp1 g T H v (.tup ds)) : ∃ a vs, v = .ref a ∧ SqT g.K H a vs ∧ RpA g (off H T) vs ds ∧ Rp g (off H T) v (.tup ds) := by
  cases r with
  | of r => cases r with | tup h1 h2 => exact ⟨_, _, rfl, Same.seqTT (off_same _ _) h1, h2, .tup h1 h2⟩
theorem Rp1.ins {C : Nat} {fs : List D} (r : Rp1 g T H v (.ins C fs)) : ∃ a dx fv, v = .ref a ∧ H a = some (.ins (g.ad C) dx fv) ∧ FvOk g C fv ∧ RpA g (off H T) (fv.map Prod.snd) fs := by
  cases r with
  | of r => cases r with | ins h1 hf h2 => exact ⟨_, _, _, rfl, off_same _ _ _ _ h1, hf, h2⟩
  | i h1 hf h2 => exact ⟨_, _, _, rfl, h1, hf, h2⟩
end
end
end G
namespace G
open PySem PySem.Spec L2
open PyProof.Rows hiding St
theorem OpR.or {X : Cx} {f : Value → Value → Sem Value} {r r' : R2} (h : OpR X f r) (h' : OpR X f r') : OpR X f (fun x y H Q => r x y H Q ∨ r' x y H Q) := by
  intro pins s σ H x y u v Q I rx ry q
  rcases q with q | q
  · exact h pins s σ H x y u v Q I rx ry q
  · exact h' pins s σ H x y u v Q I rx ry q
theorem CallR.or' {X : Cx} {f : Value} {r r' : List V → Hp → VK → Prop} (h : CallR X f r) (h' : CallR X f r') : CallR X f (fun xs H Q => r xs H Q ∨ r' xs H Q) := by
  intro pins s σ H xs us Q I rx q
  rcases q with q | q
  · exact h pins s σ H xs us Q I rx q
  · exact h' pins s σ H xs us Q I rx q
/-! ### data as the library's data -/
mutual
def D.py : D → Option PyData
  | .non => some .none
  | .bl b => some (.bool b)
  | .int i => some (.int i)
  | .str x => some (.str x)
  | .lst ds => (D.pys ds).map .list
  | .tup ds => (D.pys ds).map .tuple
  | .ins _ _ => none
  | .feed => none
def D.pys : List D → Option (List PyData)
  | [] => some []
  | d :: ds => match D.py d, D.pys ds with
    | some x, some xs => some (x :: xs)
    | _, _ => none
end
section
variable {g : Cf} {H : Hp}
mutual
theorem Rp.dp : ∀ (d : D) {v : V} {pd : PyData}, Rp g H v d → d.py = some pd → Dp g.K H v pd ∧ pd.canLay0 = true
  | .non, _, _, h, e => by cases h; simp only [D.py, Option.some.injEq] at e; subst e; exact ⟨.non, by simp only [PyData.canLay0]⟩
  | .bl b, _, _, h, e => by cases h; simp only [D.py, Option.some.injEq] at e; subst e; exact ⟨.bl b, by simp only [PyData.canLay0]⟩
  | .int i, _, _, h, e => by cases h; simp only [D.py, Option.some.injEq] at e; subst e; exact ⟨.int i, by simp only [PyData.canLay0]⟩
  | .str x, _, _, h, e => by
    cases h with
    | str _ hx => simp only [D.py, Option.some.injEq] at e; subst e; exact ⟨.str x, by simpa only [PyData.canLay0] using hx⟩
  | .lst ds, _, _, h, e => by
    cases h with
    | lst h1 h2 =>
      simp only [D.py, Option.map_eq_some_iff] at e
      obtain ⟨pds, e1, rfl⟩ := e
      obtain ⟨q1, q2⟩ := RpA.dp ds h2 e1
      exact ⟨.lst (SqL.of h1) q1, by simpa only [PyData.canLay0] using q2⟩
  | .tup ds, _, _, h, e => by
    cases h with
    | tup h1 h2 =>
      simp only [D.py, Option.map_eq_some_iff] at e
      obtain ⟨pds, e1, rfl⟩ := e
      obtain ⟨q1, q2⟩ := RpA.dp ds h2 e1
      exact ⟨.tup h1 q1, by simpa only [PyData.canLay0] using q2⟩
  | .ins _ _, _, _, _, e => by simp only [D.py] at e; cases e
  | .feed, _, _, _, e => by simp only [D.py] at e; cases e
theorem RpA.dp : ∀ (ds : List D) {vs : List V} {pds : List PyData}, RpA g H vs ds → D.pys ds = some pds → DpAll g.K H vs pds ∧ PyData.canLayAll0 pds = true
  | [], _, _, h, e => by cases h; simp only [D.pys, Option.some.injEq] at e; subst e; exact ⟨.nil, by simp only [PyData.canLayAll0]⟩
  | d :: ds, _, _, h, e => by
    cases h with
    | cons h1 h2 =>
      simp only [D.pys] at e
      cases e1 : d.py with
      | none => rw [e1] at e; cases e
      | some x =>
        cases e2 : D.pys ds with
        | none => rw [e1, e2] at e; cases e
        | some xs =>
          rw [e1, e2] at e
          simp only [Option.some.injEq] at e
          subst e
          obtain ⟨q1, q2⟩ := Rp.dp d h1 e1
          obtain ⟨q3, q4⟩ := RpA.dp ds h2 e2
          exact ⟨.cons q1 q3, by simp only [PyData.canLayAll0, q2, q4, Bool.and_self]⟩
end
theorem Rp1.on {T : List Addr} {v : V} {d : D} (r : Rp1 g T H v d) : Rp g H v d := by
  cases r with
  | of r => exact r.on
  | l h1 h2 => exact .lst h1 (RpA.mono (off_same _ _) _ h2)
  | i h1 hf h2 => exact .ins h1 hf (RpA.mono (off_same _ _) _ h2)
end
/-! ### operators -/
def lim (n : Nat) (m : M R) : M R := if n ≤ 100000 then m else .fail
theorem lim_wp {n : Nat} {m : M R} {Q : R → Prop} (h : (lim n m).wp Q) : n ≤ 100000 ∧ m.wp Q := by
  unfold lim at h
  split at h
  · exact ⟨by assumption, h⟩
  · exact h.elim
@[simp] theorem lim_ok {n : Nat} {m : M R} (h : n ≤ 100000) : lim n m = m := if_pos h
theorem strOk_app {a b : Str} (ha : PyData.strOk a = true) (hb : PyData.strOk b = true) : PyData.strOk (a ++ b) = true := by
  unfold PyData.strOk at *
  show (a.cps ++ b.cps).all _ = true
  rw [Array.all_append, ha, hb]; rfl
def addD : D → D → M R
  | .int i, .int j => .ret (.at (.int (i + j)))
  | .str a, .str b => lim (a.length + b.length) (.ret (.at (.str (a ++ b))))
  | .lst a, .lst b => lim (a.length + b.length) (.ret (.nw (.l (a ++ b))))
  | .tup a, .tup b => lim (a.length + b.length) (.ret (.dt (.tup (a ++ b))))
  | _, _ => .fail
section
variable {Z : Cx} {g : Cf}
def rAdd (K : PySem.W.Frag) : R2 := fun x y H Q => rI0 (fun i j => .int (i + j)) x y H Q ∨ (∃ i j, x = .str i ∧ y = .str j ∧ i.length + j.length ≤ sizeLine ∧ Q (.str (i ++ j)) H) ∨ rCat x y H Q ∨ rCatA K x y H Q
theorem op_Add : OpR Z (binaryOp .Add) (rAdd Z.K) := OpR.or op_add (OpR.or op_add_str (OpR.or op_cat op_catA))
theorem pr_add : Pr2 g (rAdd g.K) addD := fun T H v1 v2 d1 d2 Q f r1 r2 w => by
  cases d1 <;> cases d2 <;> first | exact w.elim | skip
  · exact .inl ⟨_, _, r1.int, r2.int, w _ H f.refl (.int _)⟩
  · obtain ⟨h, w⟩ := lim_wp w
    obtain ⟨e1, o1⟩ := r1.str
    obtain ⟨e2, o2⟩ := r2.str
    exact .inr (.inl ⟨_, _, e1, e2, big h, w _ H f.refl (.str _ (strOk_app o1 o2))⟩)
  · obtain ⟨h, w⟩ := lim_wp w
    obtain ⟨a, vs, rfl, h1, q1⟩ := r1.lst
    obtain ⟨b, us, rfl, h2, q2⟩ := r2.lst
    exact .inr (.inr (.inl ⟨_, _, _, _, rfl, rfl, h1, h2, big (by rw [q1.length, q2.length]; exact h), fun p hp => w _ _ (f.new hp) (new_lst f hp (q1.append q2))⟩))
  · obtain ⟨h, w⟩ := lim_wp w
    obtain ⟨a, vs, rfl, h1, q1, z1⟩ := r1.tup
    obtain ⟨b, us, rfl, h2, q2, z2⟩ := r2.tup
    have l1 := q1.length
    have l2 := q2.length
    refine .inr (.inr (.inr ⟨_, _, _, _, rfl, rfl, h1, h2, big (by rw [l1, l2]; exact h), fun e => ?_, fun _ e => ?_, fun _ _ p hp => w _ _ (f.new hp) (new_tup f hp (q1.append q2))⟩))
    · subst e
      cases q1
      exact w _ H f.refl z2
    · subst e
      cases q2
      rw [List.append_nil] at w
      exact w _ H f.refl z1
def subD : D → D → M R
  | .int i, .int j => .ret (.at (.int (i - j)))
  | _, _ => .fail
theorem pr_sub : Pr2 g (rI0 fun i j => .int (i - j)) subD := fun T H v1 v2 d1 d2 Q f r1 r2 w => by
  cases d1 <;> cases d2 <;> first | exact w.elim | skip
  exact ⟨_, _, r1.int, r2.int, w _ H f.refl (.int _)⟩
/-! ### order of ints -/
def ltD : D → D → M R
  | .int i, .int j => .ret (.at (.bl (decide (i < j))))
  | _, _ => .fail
def leD : D → D → M R
  | .int i, .int j => .ret (.at (.bl (decide (i ≤ j))))
  | _, _ => .fail
def gtD : D → D → M R
  | .int i, .int j => .ret (.at (.bl (decide (j < i))))
  | _, _ => .fail
def geD : D → D → M R
  | .int i, .int j => .ret (.at (.bl (decide (j ≤ i))))
  | _, _ => .fail
theorem pr_lt : Pr2 g (rI0 fun i j => .bl (decide (i < j))) ltD := fun T H v1 v2 d1 d2 Q f r1 r2 w => by
  cases d1 <;> cases d2 <;> first | exact w.elim | exact ⟨_, _, r1.int, r2.int, w _ H f.refl (.bl _)⟩
theorem pr_le : Pr2 g (rI0 fun i j => .bl (decide (i ≤ j))) leD := fun T H v1 v2 d1 d2 Q f r1 r2 w => by
  cases d1 <;> cases d2 <;> first | exact w.elim | exact ⟨_, _, r1.int, r2.int, w _ H f.refl (.bl _)⟩
theorem pr_gt : Pr2 g (rI0 fun i j => .bl (decide (j < i))) gtD := fun T H v1 v2 d1 d2 Q f r1 r2 w => by
  cases d1 <;> cases d2 <;> first | exact w.elim | exact ⟨_, _, r1.int, r2.int, w _ H f.refl (.bl _)⟩
theorem pr_ge : Pr2 g (rI0 fun i j => .bl (decide (j ≤ i))) geD := fun T H v1 v2 d1 d2 Q f r1 r2 w => by
  cases d1 <;> cases d2 <;> first | exact w.elim | exact ⟨_, _, r1.int, r2.int, w _ H f.refl (.bl _)⟩
/-! ### == of data, is, in -/
def eqPy (neg : Bool) (d1 d2 : D) : M R :=
  match d1.py, d2.py with
  | some x, some y => if x.depth ≤ 60 ∧ y.depth ≤ 60 then .ret (.at (.bl (neg != PyData.eqv x y))) else .fail
  | _, _ => .fail
theorem eqPy_use {neg : Bool} {T : List Addr} {H : Hp} {v1 v2 : V} {d1 d2 : D} {Q : VK} (f : FdOk g T H) (r1 : Rp1 g T H v1 d1) (r2 : Rp1 g T H v2 d2) (w : (eqPy neg d1 d2).wp (fun z => ∀ v H', Ext g.fd H H' → RpR g T H H' v z → Q v H')) :
    ∃ d e, Dp g.K H v1 d ∧ Dp g.K H v2 e ∧ SeqAt.shaped d = true ∧ SeqAt.shaped e = true ∧ Q (.bl (neg != PyData.eqv d e)) H := by
  unfold eqPy at w
  cases e1 : d1.py with
  | none => rw [e1] at w; exact w.elim
  | some x =>
    cases e2 : d2.py with
    | none => rw [e1, e2] at w; exact w.elim
    | some y =>
      rw [e1, e2] at w
      simp only at w
      split at w
      · rename_i hd
        obtain ⟨p1, c1⟩ := Rp.dp _ r1.on e1
        obtain ⟨p2, c2⟩ := Rp.dp _ r2.on e2
        exact ⟨x, y, p1, p2, by unfold SeqAt.shaped; rw [c1, decide_eq_true (by omega)]; rfl, by unfold SeqAt.shaped; rw [c2, decide_eq_true (by omega)]; rfl, w _ H f.refl (.bl _)⟩
      · exact w.elim
theorem pr_eq : Pr2 g (rEqD g.K) (eqPy false) := fun T H v1 v2 d1 d2 Q f r1 r2 w => by
  obtain ⟨d, e, h1, h2, h3, h4, q⟩ := eqPy_use f r1 r2 w
  exact ⟨d, e, h1, h2, h3, h4, by simpa using q⟩
theorem pr_ne : Pr2 g (rNeD g.K) (eqPy true) := fun T H v1 v2 d1 d2 Q f r1 r2 w => by
  obtain ⟨d, e, h1, h2, h3, h4, q⟩ := eqPy_use f r1 r2 w
  exact ⟨d, e, h1, h2, h3, h4, by simpa using q⟩
def D.isN : D → Bool
  | .non => true
  | _ => false
def isND (neg : Bool) : D → D → M R
  | d, .non => .ret (.at (.bl (neg != d.isN)))
  | _, _ => .fail
theorem Rp.isN {H : Hp} {v : V} {d : D} (r : Rp g H v d) : decide (v = .non) = d.isN := by cases r <;> simp [D.isN]
theorem pr_isN : Pr2 g (fun x y H Q => y = .non ∧ Q (.bl (decide (x = .non))) H) (isND false) := fun T H v1 v2 d1 d2 Q f r1 r2 w => by
  cases d2 <;> first | exact w.elim | skip
  refine ⟨r2.non, ?_⟩
  rw [r1.on.isN]
  simpa using w _ H f.refl (.bl _)
theorem pr_notN : Pr2 g (fun x y H Q => y = .non ∧ Q (.bl (!decide (x = .non))) H) (isND true) := fun T H v1 v2 d1 d2 Q f r1 r2 w => by
  cases d2 <;> first | exact w.elim | skip
  refine ⟨r2.non, ?_⟩
  rw [r1.on.isN]
  simpa using w _ H f.refl (.bl _)
def isBD (neg : Bool) : D → D → M R
  | .bl a, .bl b => .ret (.at (.bl (neg != decide (a = b))))
  | _, _ => .fail
theorem pr_isB : Pr2 g rIsB (isBD false) := fun T H v1 v2 d1 d2 Q f r1 r2 w => by
  cases d1 <;> cases d2 <;> first | exact w.elim | skip
  exact ⟨_, _, r1.bl, r2.bl, by simpa using w _ H f.refl (.bl _)⟩
theorem pr_notB : Pr2 g rNotB (isBD true) := fun T H v1 v2 d1 d2 Q f r1 r2 w => by
  cases d1 <;> cases d2 <;> first | exact w.elim | skip
  exact ⟨_, _, r1.bl, r2.bl, by simpa using w _ H f.refl (.bl _)⟩
def D.eqf : D → D → Bool
  | .non, .non => true
  | .bl a, .bl b => a == b
  | .bl a, .int b => (if a then 1 else 0) == b
  | .int a, .bl b => a == (if b then 1 else 0)
  | .int a, .int b => a == b
  | .str a, .str b => a == b
  | _, _ => false
theorem Rp.flat {H : Hp} {v : V} {d : D} (r : Rp g H v d) (h : d.flat = true) : flatV v = true := by cases r <;> first | rfl | cases h
theorem Rp.eqf {H : Hp} {v u : V} {d e : D} (r : Rp g H v d) (s : Rp g H u e) (h : d.flat = true) (h' : e.flat = true) : eqV v u = d.eqf e := by
  cases r <;> first | cases h; done | (cases s <;> first | rfl | (cases h'; done))
def strIn (a b : Str) : Bool := !(Builtin.Str.occurrences b a 0 b.length 1).isEmpty
def inD (neg : Bool) (d e : D) : M R :=
  match e with
  | .lst ds => if d.flat && ds.all D.flat then .ret (.at (.bl (neg != ds.any fun y => y.eqf d))) else .fail
  | .tup ds => if d.flat && ds.all D.flat then .ret (.at (.bl (neg != ds.any fun y => y.eqf d))) else .fail
  | .str b => match d with
    | .str a => .ret (.at (.bl (neg != strIn a b)))
    | _ => .fail
  | _ => .fail
def rInA (K : PySem.W.Frag) (neg : Bool) : R2 := fun x y H Q => rIn K neg x y H Q ∨ ∃ i j, x = .str i ∧ y = .str j ∧ Q (.bl (neg != strIn i j)) H
theorem op_In : OpR Z (compareOp .In) (rInA Z.K false) := OpR.or op_in_seq fun pins s σ H x y u v Q I rx ry ⟨i, j, e1, e2, q⟩ => op_in_str pins s σ H x y u v Q I rx ry ⟨i, j, e1, e2, by simpa [strIn] using q⟩
theorem op_NotIn : OpR Z (compareOp .NotIn) (rInA Z.K true) := OpR.or op_notIn_seq fun pins s σ H x y u v Q I rx ry ⟨i, j, e1, e2, q⟩ => op_notin_str pins s σ H x y u v Q I rx ry ⟨i, j, e1, e2, by simpa [strIn] using q⟩
theorem RpA.flat {H : Hp} : ∀ {vs : List V} {ds : List D}, RpA g H vs ds → ds.all D.flat = true → vs.all flatV = true
  | _, _, .nil, _ => rfl
  | _, _, .cons h t, e => by
    rw [List.all_cons, Bool.and_eq_true] at e ⊢
    exact ⟨h.flat e.1, t.flat e.2⟩
theorem RpA.inV {H : Hp} {v : V} {d : D} (r : Rp g H v d) (hd : d.flat = true) : ∀ {vs : List V} {ds : List D}, RpA g H vs ds → ds.all D.flat = true → inV v vs = ds.any fun y => y.eqf d
  | _, _, .nil, _ => rfl
  | _, _, .cons h t, e => by
    rw [List.all_cons, Bool.and_eq_true] at e
    have ih := RpA.inV r hd t e.2
    unfold L2.inV at ih ⊢
    rw [List.any_cons, List.any_cons, ih, h.eqf r e.1 hd]
theorem neg_if {neg b : Bool} : (if neg then !b else b) = (neg != b) := by cases neg <;> cases b <;> rfl
theorem pr_in {neg : Bool} : Pr2 g (rInA g.K neg) (inD neg) := fun T H v1 v2 d1 d2 Q f r1 r2 w => by
  cases d2 <;> first | exact w.elim | skip
  · cases d1 <;> first | exact w.elim | skip
    exact .inr ⟨_, _, r1.str.1, r2.str.1, w _ H f.refl (.bl _)⟩
  · unfold inD at w
    simp only at w
    split at w
    · rename_i hf
      rw [Bool.and_eq_true] at hf
      obtain ⟨a, vs, rfl, h1, q1⟩ := r2.lst
      have q1' := RpA.mono (off_same H T) _ q1
      refine .inl ⟨a, vs, rfl, .inl (SqL.of h1), r1.on.flat hf.1, q1.flat hf.2, ?_⟩
      rw [q1'.inV r1.on hf.1 hf.2, neg_if]
      exact w _ H f.refl (.bl _)
    · exact w.elim
  · unfold inD at w
    simp only at w
    split at w
    · rename_i hf
      rw [Bool.and_eq_true] at hf
      obtain ⟨a, vs, rfl, h1, q1, _⟩ := r2.tup
      have q1' := RpA.mono (off_same H T) _ q1
      refine .inl ⟨a, vs, rfl, .inr h1, r1.on.flat hf.1, q1.flat hf.2, ?_⟩
      rw [q1'.inV r1.on hf.1 hf.2, neg_if]
      exact w _ H f.refl (.bl _)
    · exact w.elim
/-! ### subscripts, slices -/
def sgn (c : Nat) : Str := ⟨#[c]⟩
def ixD : D → D → M R
  | .lst ds, .int i => .of ((atI ds i).map .dt)
  | .tup ds, .int i => .of ((atI ds i).map .dt)
  | .str z, .int i => lim z.length (.of ((atI z.cps.toList i).map fun c => .at (.str (sgn c))))
  | _, _ => .fail
theorem RpA.atI {H : Hp} {vs : List V} {ds : List D} {i : Int} {d : D} (r : RpA g H vs ds) (h : atI ds i = some d) : ∃ v, L2.atI vs i = some v ∧ Rp g H v d := by
  unfold L2.atI at h ⊢
  rw [r.length]
  cases q : ixN ds.length i with
  | none => rw [q] at h; cases h
  | some j => rw [q] at h; exact r.get h
theorem strOk_sgn {z : Str} {c : Nat} (h : PyData.strOk z = true) (hc : c ∈ z.cps.toList) : PyData.strOk (sgn c) = true := by
  unfold PyData.strOk at h ⊢
  rw [Array.all_eq_true_iff_forall_mem] at h
  have := h c (by simpa using hc)
  simpa [sgn] using this
theorem atI_mem {α : Type} {xs : List α} {i : Int} {x : α} (h : atI xs i = some x) : x ∈ xs := by
  unfold L2.atI at h
  cases q : ixN xs.length i with
  | none => rw [q] at h; cases h
  | some j => rw [q] at h; exact List.mem_of_getElem? h
theorem pr_ix : Pr2 g (rIx g.K) ixD := fun T H v1 v2 d1 d2 Q f r1 r2 w => by
  cases d1 <;> cases d2 <;> first | exact w.elim | skip
  · rename_i z i
    obtain ⟨hz, w⟩ := lim_wp w
    obtain ⟨rfl, ok⟩ := r1.str
    cases e : atI z.cps.toList i with
    | none => rw [e] at w; exact w.elim
    | some c =>
      rw [e] at w
      exact .inr (.inr ⟨z, i, c, rfl, r2.int, big hz, e, w _ H f.refl (.str _ (strOk_sgn ok (atI_mem e)))⟩)
  · rename_i ds i
    obtain ⟨a, vs, rfl, h1, q1⟩ := r1.lst
    unfold ixD at w
    simp only at w
    cases e : atI ds i with
    | none => rw [e] at w; exact w.elim
    | some d =>
      rw [e] at w
      obtain ⟨v, h2, h3⟩ := q1.atI e
      exact .inl ⟨a, vs, i, v, rfl, r2.int, SqL.of h1, h2, w _ H f.refl h3⟩
  · rename_i ds i
    obtain ⟨a, vs, rfl, h1, q1, _⟩ := r1.tup
    unfold ixD at w
    simp only at w
    cases e : atI ds i with
    | none => rw [e] at w; exact w.elim
    | some d =>
      rw [e] at w
      obtain ⟨v, h2, h3⟩ := q1.atI e
      exact .inr (.inl ⟨a, vs, i, v, rfl, r2.int, h1, h2, w _ H f.refl h3⟩)
end
section
variable {Z : Cx} {g : Cf} {T : List Addr} {He : Hp} {a b c : Expr} {f1 f2 f3 : Se X} {fs : Se (List X)} {pos p2 : Pos}
theorem ev_ix (hK : Z.K = g.K) (ha : EV Z g T He a f1) (hb : EV Z g T He b f2) (hs : PlainIx b := by exact fun _ _ => rfl) : EV Z g T He (.Subscript a b pos) (s2 ixD f1 f2) :=
  pe_w (pe_ix (hK ▸ ix_seq) ha hb hs) fun _ _ _ ⟨_, _, rl, w⟩ => rd2 pr_ix rl w
def cutD {α : Type} (xs : List α) (lo hi : Option Int) : List α := (xs.drop (HT.sIx xs.length 0 lo)).take (HT.sIx xs.length xs.length hi - HT.sIx xs.length 0 lo)
def slD (d : D) (lo hi : Option Int) : M R :=
  match d with
  | .lst ds => .ret (.nw (.l (cutD ds lo hi)))
  | .tup ds => .ret (.dt (.tup (cutD ds lo hi)))
  | .str z => lim z.length (.ret (.at (.str (cutS z lo hi))))
  | _ => .fail
def sPo (f : Option (Se X)) : Se (Option Int) := match f with
  | none => fun _ => .ret none
  | some f => fun Γ => (f Γ).bind fun x => match x.toD with | .int i => .ret (some i) | _ => .fail
def sSl (f : Se X) (lo hi : Option (Se X)) : Se X := fun Γ => (f Γ).bind fun x => (sPo lo Γ).bind fun l => (sPo hi Γ).bind fun h => (slD x.toD l h).bind fun z => .ret (z.fin x.tt)
def rdO (g : Cf) (T : List Addr) (He : Hp) (f : Se (Option Int)) : TO := fun σ H Q => ∃ Γ S, Rl g T He S H Γ σ ∧ (f Γ).wp fun x => ∀ H', Ext g.fd H H' → Q x H'
abbrev EO (Z : Cx) (g : Cf) (T : List Addr) (He : Hp) (e : Option Expr) (f : Option (Se X)) : Prop := PO Z e (rdO g T He (sPo f))
theorem po_w {e : Option Expr} {t t' : TO} (h : PO Z e t) (k : ∀ σ H Q, t' σ H Q → t σ H Q) : PO Z e t' := ⟨fun pins s σ H Q I q => h.run pins s σ H Q I (k _ _ _ q)⟩
theorem eo_none : EO Z g T He none none := po_w po_none fun σ H Q ⟨Γ, S, rl, w⟩ => w H rl.fok.refl
theorem eo_some (h : EV Z g T He a f1) : EO Z g T He (some a) (some f1) := po_w (po_some h) fun σ H Q ⟨Γ, S, rl, w⟩ => by
  simp only [sPo, M.wp_bind] at w
  refine rdE.use rl (M.wp_mono (fun x w v1 H1 e1 l1 x1 => ?_) w)
  have q := x1.on
  cases h : x.toD <;> rw [h] at w q <;> first | exact w.elim | skip
  cases q
  exact ⟨_, rfl, w H1 e1⟩
theorem RpA.cut {H : Hp} {vs : List V} {ds : List D} (r : RpA g H vs ds) (lo hi : Option Int) : RpA g H (cutV vs lo hi) (cutD ds lo hi) := by
  unfold cutV cutD
  rw [r.length]
  exact (r.drop _).take _
theorem strOk_cut {z : Str} {lo hi : Option Int} (h : PyData.strOk z = true) : PyData.strOk (cutS z lo hi) = true := by
  unfold PyData.strOk at h ⊢
  rw [Array.all_eq_true_iff_forall_mem] at h ⊢
  intro c hc
  refine h c ?_
  unfold cutS at hc
  simp only [List.mem_toArray] at hc
  have := List.mem_of_mem_drop (List.mem_of_mem_take hc)
  simpa using this
def rSlAny (K : PySem.W.Frag) : V → Option Int → Option Int → Hp → VK → Prop := fun x lo hi H Q => rSlL K x lo hi H Q ∨ rSlA K x lo hi H Q ∨ rSlS x lo hi H Q
theorem cutD_all {α : Type} {xs : List α} {lo hi : Option Int} (h : HT.sIx xs.length 0 lo = 0 ∧ HT.sIx xs.length xs.length hi = xs.length) : cutD xs lo hi = xs := by
  unfold cutD
  rw [h.1, h.2]
  simp
theorem pr_sl {T : List Addr} {H : Hp} {v : V} {d : D} {Q : VK} {lo hi : Option Int} (f : FdOk g T H) (r1 : Rp1 g T H v d) (w : (slD d lo hi).wp (fun z => ∀ v H', Ext g.fd H H' → RpR g T H H' v z → Q v H')) : rSlAny g.K v lo hi H Q := by
  cases d <;> first | exact w.elim | skip
  · obtain ⟨hz, w⟩ := lim_wp w
    obtain ⟨rfl, ok⟩ := r1.str
    exact .inr (.inr ⟨_, rfl, big hz, w _ H f.refl (.str _ (strOk_cut ok))⟩)
  · obtain ⟨a, vs, rfl, h1, q1⟩ := r1.lst
    exact .inl ⟨a, vs, rfl, SqL.of h1, fun p hp => w _ _ (f.new hp) (new_lst f hp (q1.cut lo hi))⟩
  · obtain ⟨a, vs, rfl, h1, q1, z1⟩ := r1.tup
    refine .inr (.inl ⟨a, vs, rfl, h1, fun e => ?_, fun _ p hp => w _ _ (f.new hp) (new_tup f hp (q1.cut lo hi))⟩)
    rw [q1.length] at e
    unfold slD at w
    simp only [cutD_all e] at w
    exact w _ H f.refl z1
theorem sl_Any (hK : Z.K = g.K) : SlR Z (rSlAny g.K) := hK ▸ SlR.or sl_list (SlR.or sl_tupA sl_str)
theorem ev_sl {lo hi : Option Expr} {l h : Option (Se X)} (hK : Z.K = g.K) (ha : EV Z g T He a f1) (hl : EO Z g T He lo l) (hh : EO Z g T He hi h) : EV Z g T He (.Subscript a (.Slice lo hi none p2) pos) (sSl f1 l h) :=
  pe_w (pe_slice (sl_Any hK) ha hl hh) fun σ H Q ⟨Γ, S, rl, w⟩ => by
    simp only [sSl, M.wp_bind, M.wp_ret] at w
    refine rdE.use rl (M.wp_mono (fun x w v1 H1 e1 l1 x1 => ?_) w)
    refine ⟨Γ, S, l1, M.wp_mono (fun lv w H2 e2 => ?_) w⟩
    have l2 := l1.mono e2
    refine ⟨Γ, S, l2, M.wp_mono (fun hv w H3 e3 => ?_) w⟩
    have l3 := l2.mono e3
    have e := (e1.trans e2).trans e3
    refine pr_sl (l3.fokB x.tt) ((x1.mono (e2.trans e3) l1.t).r1 fun h => h) (M.wp_mono (fun z w v H' e' h => ?_) w)
    exact w v H' (e.trans e') (h.fin.early e l3.t)
end
end G
namespace G
open PySem PySem.Spec L2
open PyProof.Rows hiding St
/-! ### attributes -/
theorem lookup_ix {f : Str} {v : V} : ∀ {fv : List (Str × V)} {i : Nat}, (fv.map Prod.fst).Nodup → fv[i]? = some (f, v) → fv.lookup f = some v
  | [], _, _, e => by simp at e
  | (n, u) :: fv, 0, _, e => by
    simp only [List.getElem?_cons_zero, Option.some.injEq, Prod.mk.injEq] at e
    obtain ⟨rfl, rfl⟩ := e
    simp
  | (n, u) :: fv, i + 1, h, e => by
    simp only [List.map_cons, List.nodup_cons] at h
    simp only [List.getElem?_cons_succ] at e
    have hm : f ∈ fv.map Prod.fst := List.mem_map.mpr ⟨_, List.mem_of_getElem? e, rfl⟩
    have hne : (f == n) = false := by
      rw [beq_eq_false_iff_ne]
      intro q
      rw [q] at hm
      exact h.1 hm
    rw [List.lookup_cons, hne]
    exact lookup_ix h.2 e
structure FlOk (g : Cf) (f : Str) (ix : Nat → Option Nat) : Prop where
  ok : ∀ C i, ix C = some i → Cls g.K (g.ad C) ∧ NoAttr g.K (g.ad C) f ∧ (g.fl C)[i]? = some f ∧ (g.fl C).Nodup
theorem FvOk.lookup {g : Cf} {C : Nat} {fv : List (Str × V)} {i : Nat} {f : Str} {v : V} (h : FvOk g C fv) (hi : (g.fl C)[i]? = some f) (nd : (g.fl C).Nodup) (hv : (fv.map Prod.snd)[i]? = some v) : fv.lookup f = some v := by
  rw [List.getElem?_map, Option.map_eq_some_iff] at hv
  obtain ⟨⟨n, u⟩, h1, rfl⟩ := hv
  have hn : n = f := by
    have e : (fv.map Prod.fst)[i]? = some n := by rw [List.getElem?_map, h1]; rfl
    unfold FvOk at h
    rw [h, List.getElem?_take] at e
    split at e
    · rw [hi] at e; cases e; rfl
    · cases e
  subst hn
  refine lookup_ix ?_ h1
  unfold FvOk at h
  rw [h]
  exact nd.sublist (List.take_sublist _ _)
def flD (ix : Nat → Option Nat) : D → M R
  | .ins C fs => match ix C with
    | some i => .of (fs[i]?.map .dt)
    | none => .fail
  | _ => .fail
def sFl (ix : Nat → Option Nat) (f : Se X) : Se X := fun Γ => (f Γ).bind fun x => (flD ix x.toD).bind fun z => .ret (z.fin x.tt)
section
variable {Z : Cx} {g : Cf} {T : List Addr} {He : Hp} {a b c : Expr} {f1 f2 f3 : Se X} {fs : Se (List X)} {pos p2 : Pos}
theorem ev_fl {f : Str} {ix : Nat → Option Nat} (hK : Z.K = g.K) (ok : FlOk g f ix) (ha : EV Z g T He a f1) (hb : attributeBase a f Z.env (eval a Z.env) = eval a Z.env := by rfl) : EV Z g T He (.Attribute a f pos) (sFl ix f1) :=
  pe_w (pe_fld ha hb) fun σ H Q ⟨Γ, S, rl, w⟩ => by
    simp only [sFl, M.wp_bind, M.wp_ret] at w
    refine rdE.use rl (M.wp_mono (fun x w v1 H1 e1 l1 x1 => ?_) w)
    have r := x1.r1 (tt := x.tt) fun h => h
    cases h : x.toD <;> rw [h] at w r <;> first | exact w.elim | skip
    rename_i C fs
    unfold flD at w
    simp only at w
    cases hi : ix C with
    | none => rw [hi] at w; exact w.elim
    | some i =>
      rw [hi] at w
      simp only at w
      cases hd : fs[i]? with
      | none => rw [hd] at w; exact w.elim
      | some d =>
        rw [hd] at w
        obtain ⟨ad, dx, fv, rfl, h1, hf, h2⟩ := r.ins
        obtain ⟨v, h3, h4⟩ := h2.get hd
        obtain ⟨o1, o2, o3, o4⟩ := ok.ok C i hi
        refine ⟨ad, _, dx, fv, v, rfl, h1, hK ▸ o1, hK ▸ o2, hf.lookup o3 o4 h3, ?_⟩
        have q := (show RpR g (TS T S x.tt) H1 H1 v (.dt d) from h4).fin
        exact w v H1 e1 (q.early e1 l1.t)
/-! ### built-ins called -/
theorem ev_cB {id : String} {x : Str} {e : Expr} {es : List Expr} {p : Pos} {r : List V → Hp → VK → Prop} {sem : List D → M R} (hc : CallR Z (.builtin id) r) (hp : PrN g r sem) (hg : Gl Z x) (hm : Z.mg x = none) (hv : bootBuiltins x = some (.builtin id)) (ha : EA Z g T He (e :: es) fs)
    (hn : x ≠ "__name__" := by decide) (hdb : (x == ("__debug__" : Str)) = false := by decide) (he : starEach (e :: es) Z.env = (false, eval e Z.env) :: starEach es Z.env := by rfl) (hpl : (backTo pos (starEach es Z.env)).any (·.1) = false := by rfl) :
    EV Z g T He (.Call (.Name x p) (e :: es) [] pos) (sN sem fs) :=
  pe_w (pe_callB hc hg hm hv ha hn hdb he hpl) fun _ _ _ ⟨_, _, rl, w⟩ => rdN hp rl w
theorem ev_cT {t : String} {x : Str} {e : Expr} {es : List Expr} {p : Pos} {r : List V → Hp → VK → Prop} {sem : List D → M R} (hc : CallR Z (.type t) r) (hp : PrN g r sem) (hg : Gl Z x) (hm : Z.mg x = none) (hv : bootBuiltins x = some (.type t)) (ha : EA Z g T He (e :: es) fs)
    (hn : x ≠ "__name__" := by decide) (hdb : (x == ("__debug__" : Str)) = false := by decide) (he : starEach (e :: es) Z.env = (false, eval e Z.env) :: starEach es Z.env := by rfl) (hpl : (backTo pos (starEach es Z.env)).any (·.1) = false := by rfl) :
    EV Z g T He (.Call (.Name x p) (e :: es) [] pos) (sN sem fs) :=
  pe_w (pe_callTy hc hg hm hv ha hn hdb he hpl) fun _ _ _ ⟨_, _, rl, w⟩ => rdN hp rl w
theorem Rp1s.one {T : List Addr} {H : Hp} {vs : List V} {d : D} (r : Rp1s g T H vs [d]) : ∃ v, vs = [v] ∧ Rp1 g T H v d := by
  cases r with
  | cons h t => cases t; exact ⟨_, rfl, h⟩
def lenD : List D → M R
  | [.str z] => lim z.length (.ret (.at (.int z.length)))
  | [.lst ds] => .ret (.at (.int ds.length))
  | [.tup ds] => .ret (.at (.int ds.length))
  | _ => .fail
theorem pr_len : PrN g (fun xs H Q => ∃ x n, xs = [x] ∧ LenV g.K x H n ∧ Q (.int n) H) lenD := fun T H vs ds Q f r w => by
  match ds, r, w with
  | [.str z], r, w =>
    obtain ⟨v, rfl, r1⟩ := r.one
    obtain ⟨hz, w⟩ := lim_wp w
    exact ⟨v, z.length, rfl, by rw [r1.str.1]; exact ⟨big hz, rfl⟩, w _ H f.refl (.int _)⟩
  | [.lst ds], r, w =>
    obtain ⟨v, rfl, r1⟩ := r.one
    obtain ⟨a, vs, rfl, h1, h2⟩ := r1.lst
    exact ⟨_, _, rfl, .inl ⟨vs, SqL.of h1, rfl⟩, w _ H f.refl (by rw [h2.length]; exact .int _)⟩
  | [.tup ds], r, w =>
    obtain ⟨v, rfl, r1⟩ := r.one
    obtain ⟨a, vs, rfl, h1, h2, _⟩ := r1.tup
    exact ⟨_, _, rfl, .inr ⟨vs, h1, rfl⟩, w _ H f.refl (by rw [h2.length]; exact .int _)⟩
def D.bools : List D → Option (List Bool)
  | [] => some []
  | .bl b :: ds => (D.bools ds).map (b :: ·)
  | _ => none
theorem RpA.bools {H : Hp} : ∀ {vs : List V} {ds : List D} {bs : List Bool}, RpA g H vs ds → D.bools ds = some bs → vs = bs.map V.bl
  | _, _, bs, .nil, e => by cases e; rfl
  | _, _, bs, .cons h t, e => by
    cases h <;> first | (cases e; done) | skip
    simp only [D.bools, Option.map_eq_some_iff] at e
    obtain ⟨cs, e, rfl⟩ := e
    rw [RpA.bools t e]; rfl
def allD : List D → M R
  | [.lst ds] => .of ((D.bools ds).map fun bs => .at (.bl (bs.all id)))
  | _ => .fail
def anyD : List D → M R
  | [.lst ds] => .of ((D.bools ds).map fun bs => .at (.bl (bs.any id)))
  | _ => .fail
theorem pr_all : PrN g (rAll g.K) allD := fun T H vs ds Q f r w => by
  match ds, r, w with
  | [.lst ds], r, w =>
    obtain ⟨v, rfl, r1⟩ := r.one
    obtain ⟨a, vs, rfl, h1, h2⟩ := r1.lst
    unfold allD at w
    cases e : D.bools ds with
    | none => simp only [e] at w; exact w.elim
    | some bs =>
      simp only [e] at w
      rw [h2.bools e] at h1
      exact ⟨a, bs, rfl, SqL.of h1, w _ H f.refl (.bl _)⟩
theorem pr_any : PrN g (rAny g.K) anyD := fun T H vs ds Q f r w => by
  match ds, r, w with
  | [.lst ds], r, w =>
    obtain ⟨v, rfl, r1⟩ := r.one
    obtain ⟨a, vs, rfl, h1, h2⟩ := r1.lst
    unfold anyD at w
    cases e : D.bools ds with
    | none => simp only [e] at w; exact w.elim
    | some bs =>
      simp only [e] at w
      rw [h2.bools e] at h1
      exact ⟨a, bs, rfl, SqL.of h1, w _ H f.refl (.bl _)⟩
def listD : List D → M R
  | [.lst ds] => .ret (.nw (.l ds))
  | [.tup ds] => .ret (.nw (.l ds))
  | _ => .fail
theorem pr_list : PrN g (fun xs H Q => ∃ p ys, xs = [.ref p] ∧ (SqL g.K H p ys ∨ SqT g.K H p ys) ∧ ∀ l, H l = none → Q (.ref l) (upd H l (.lst ys))) listD := fun T H vs ds Q f r w => by
  match ds, r, w with
  | [.lst ds], r, w =>
    obtain ⟨v, rfl, r1⟩ := r.one
    obtain ⟨a, vs, rfl, h1, h2⟩ := r1.lst
    exact ⟨a, vs, rfl, .inl (SqL.of h1), fun p hp => w _ _ (f.new hp) (new_lst f hp h2)⟩
  | [.tup ds], r, w =>
    obtain ⟨v, rfl, r1⟩ := r.one
    obtain ⟨a, vs, rfl, h1, h2, _⟩ := r1.tup
    exact ⟨a, vs, rfl, .inr h1, fun p hp => w _ _ (f.new hp) (new_lst f hp h2)⟩
def tupleD : List D → M R
  | [.lst ds] => .ret (.dt (.tup ds))
  | [.tup ds] => .ret (.dt (.tup ds))
  | _ => .fail
theorem pr_tuple : PrN g (fun xs H Q => ∃ p ys, xs = [.ref p] ∧ ((SqL g.K H p ys ∧ ∀ l, H l = none → Q (.ref l) (upd H l (.tup ys))) ∨ (SqT g.K H p ys ∧ Q (.ref p) H))) tupleD := fun T H vs ds Q f r w => by
  match ds, r, w with
  | [.lst ds], r, w =>
    obtain ⟨v, rfl, r1⟩ := r.one
    obtain ⟨a, vs, rfl, h1, h2⟩ := r1.lst
    exact ⟨a, vs, rfl, .inl ⟨SqL.of h1, fun p hp => w _ _ (f.new hp) (new_tup f hp h2)⟩⟩
  | [.tup ds], r, w =>
    obtain ⟨v, rfl, r1⟩ := r.one
    obtain ⟨a, vs, rfl, h1, h2, h3⟩ := r1.tup
    exact ⟨a, vs, rfl, .inr ⟨h1, w _ H f.refl h3⟩⟩
/-! sorted texts -/
def D.strs : List D → Option (List Str)
  | [] => some []
  | .str b :: ds => (D.strs ds).map (b :: ·)
  | _ => none
theorem RpA.strs {H : Hp} : ∀ {vs : List V} {ds : List D} {bs : List Str}, RpA g H vs ds → D.strs ds = some bs → vs = bs.map V.str ∧ ∀ b ∈ bs, PyData.strOk b = true
  | _, _, bs, .nil, e => by cases e; exact ⟨rfl, fun b h => by cases h⟩
  | _, _, bs, .cons h t, e => by
    cases h <;> first | (cases e; done) | skip
    rename_i x hx
    simp only [D.strs, Option.map_eq_some_iff] at e
    obtain ⟨cs, e, rfl⟩ := e
    obtain ⟨q1, q2⟩ := RpA.strs t e
    refine ⟨by rw [q1]; rfl, fun b hb => ?_⟩
    rcases List.mem_cons.mp hb with rfl | hb
    · exact hx
    · exact q2 b hb
theorem RpA.ofStrs {H : Hp} : ∀ {bs : List Str}, (∀ b ∈ bs, PyData.strOk b = true) → RpA g H (bs.map V.str) (bs.map D.str)
  | [], _ => .nil
  | b :: bs, h => .cons (.str b (h b List.mem_cons_self)) (RpA.ofStrs fun c hc => h c (List.mem_cons_of_mem _ hc))
def leS (a b : Str) : Bool := !ltCps b.cps.toList a.cps.toList
def insS (a : Str) : List Str → List Str
  | [] => [a]
  | b :: bs => if leS a b then a :: b :: bs else b :: insS a bs
def sortS : List Str → List Str
  | [] => []
  | a :: as => insS a (sortS as)
theorem ltCps_tr : ∀ {a b c : List Nat}, ltCps b a = false → ltCps c b = false → ltCps c a = false
  | [], b, [], _, _ => by unfold ltCps; rfl
  | [], [], c :: cs, _, h => by simp [ltCps] at h ⊢
  | [], b :: bs, c :: cs, _, _ => by simp [ltCps]
  | a :: as, [], c, h, _ => by simp [ltCps] at h
  | a :: as, b :: bs, [], _, h => by simp [ltCps] at h
  | a :: as, b :: bs, c :: cs, h1, h2 => by
    simp only [ltCps, Bool.or_eq_false_iff, Bool.and_eq_false_iff, decide_eq_false_iff_not, beq_eq_false_iff_ne] at h1 h2 ⊢
    refine ⟨by omega, ?_⟩
    by_cases q : c = a
    · right
      rcases h1.2 with z | z
      · omega
      · rcases h2.2 with y | y
        · omega
        · exact ltCps_tr z y
    · exact .inl q
theorem ltCps_anti : ∀ {a b : List Nat}, ltCps b a = false → ltCps a b = false → a = b
  | [], [], _, _ => rfl
  | [], b :: bs, _, h => by simp [ltCps] at h
  | a :: as, [], h, _ => by simp [ltCps] at h
  | a :: as, b :: bs, h1, h2 => by
    simp only [ltCps, Bool.or_eq_false_iff, Bool.and_eq_false_iff, decide_eq_false_iff_not, beq_eq_false_iff_ne] at h1 h2
    have e : a = b := by omega
    subst e
    rw [ltCps_anti (h1.2.resolve_left fun z => z rfl) (h2.2.resolve_left fun z => z rfl)]
theorem ltCps_total : ∀ (a b : List Nat), ltCps b a = false ∨ ltCps a b = false
  | [], [] => .inl rfl
  | [], b :: bs => .inl rfl
  | a :: as, [] => .inr rfl
  | a :: as, b :: bs => by
    simp only [ltCps, Bool.or_eq_false_iff, Bool.and_eq_false_iff, decide_eq_false_iff_not, beq_eq_false_iff_ne]
    rcases ltCps_total as bs with h | h
    · by_cases q : b < a
      · exact .inr ⟨by omega, .inl (by omega)⟩
      · exact .inl ⟨q, .inr h⟩
    · by_cases q : a < b
      · exact .inl ⟨by omega, .inl (by omega)⟩
      · exact .inr ⟨q, .inr h⟩
theorem leS_iff {a b : Str} : leS a b = true ↔ ltCps b.cps.toList a.cps.toList = false := by unfold leS; simp
theorem leS_tr {a b c : Str} (h1 : leS a b = true) (h2 : leS b c = true) : leS a c = true := leS_iff.mpr (ltCps_tr (leS_iff.mp h1) (leS_iff.mp h2))
theorem leS_anti {a b : Str} (h1 : leS a b = true) (h2 : leS b a = true) : a = b := by
  have := ltCps_anti (leS_iff.mp h1) (leS_iff.mp h2)
  cases a; cases b
  congr
  exact Array.toList_inj.mp this
theorem leS_total (a b : Str) : (leS a b || leS b a) = true := by
  rw [Bool.or_eq_true, leS_iff, leS_iff]
  exact ltCps_total _ _
theorem rising_pw : ∀ {p : Str} {xs : List Str}, risingS p xs = true → (p :: xs).Pairwise fun a b => leS a b = true
  | p, [], _ => by simp
  | p, x :: xs, h => by
    unfold risingS at h
    rw [Bool.and_eq_true] at h
    have ih := rising_pw h.2
    refine List.pairwise_cons.mpr ⟨fun b hb => ?_, ih⟩
    have hx : leS p x = true := h.1
    rcases List.mem_cons.mp hb with rfl | hb
    · exact hx
    · exact leS_tr hx ((List.pairwise_cons.mp ih).1 b hb)
theorem sorted_pw {xs : List Str} (h : sortedS xs = true) : xs.Pairwise fun a b => leS a b = true := by
  cases xs with
  | nil => exact .nil
  | cons x xs => exact rising_pw h
theorem insS_perm (a : Str) : ∀ xs : List Str, (insS a xs).Perm (a :: xs)
  | [] => .refl _
  | b :: bs => by
    unfold insS
    split
    · exact .refl _
    · exact ((insS_perm a bs).cons b).trans (List.Perm.swap a b bs)
theorem insS_pw (a : Str) : ∀ xs : List Str, xs.Pairwise (fun a b => leS a b = true) → (insS a xs).Pairwise fun a b => leS a b = true
  | [], _ => by unfold insS; simp
  | b :: bs, h => by
    unfold insS
    split
    · rename_i h1
      refine List.pairwise_cons.mpr ⟨fun c hc => ?_, h⟩
      rcases List.mem_cons.mp hc with rfl | hc
      · exact h1
      · exact leS_tr h1 ((List.pairwise_cons.mp h).1 c hc)
    · rename_i h1
      have hba : leS b a = true := by
        have := leS_total a b
        rw [Bool.or_eq_true] at this
        exact this.resolve_left h1
      refine List.pairwise_cons.mpr ⟨fun c hc => ?_, insS_pw a bs (List.pairwise_cons.mp h).2⟩
      rcases List.mem_cons.mp ((insS_perm a bs).mem_iff.mp hc) with rfl | hc
      · exact hba
      · exact (List.pairwise_cons.mp h).1 c hc
theorem sortS_perm : ∀ xs : List Str, (sortS xs).Perm xs
  | [] => .refl _
  | a :: as => (insS_perm a _).trans ((sortS_perm as).cons a)
theorem sortS_pw : ∀ xs : List Str, (sortS xs).Pairwise fun a b => leS a b = true
  | [] => .nil
  | a :: as => insS_pw a _ (sortS_pw as)
/-- what is sorted is the one -/
theorem sortS_eq {xs ys : List Str} (hp : ys.Perm xs) (h : ys.Pairwise fun a b => leS a b = true) : ys = sortS xs :=
  List.Perm.eq_of_pairwise (fun a b _ _ h1 h2 => leS_anti h1 h2) h (sortS_pw xs) (hp.trans (sortS_perm xs).symm)
def sortedD : List D → M R
  | [.lst ds] => match D.strs ds with
    | some ss => if ss.length < 64 then .ret (.nw (.l ((sortS ss).map .str))) else .fail
    | none => .fail
  | _ => .fail
theorem pr_sorted : PrN g (rSortedS g.K) sortedD := fun T H vs ds Q f r w => by
  match ds, r, w with
  | [.lst ds], r, w =>
    obtain ⟨v, rfl, r1⟩ := r.one
    obtain ⟨a, vs, rfl, h1, h2⟩ := r1.lst
    unfold sortedD at w
    cases e : D.strs ds with
    | none => simp only [e] at w; exact w.elim
    | some ss =>
      simp only [e] at w
      split at w
      · rename_i hz
        obtain ⟨q1, q2⟩ := h2.strs e
        rw [q1] at h1
        refine ⟨a, ss, rfl, SqL.of h1, hz, fun ys p hp hs hn => ?_⟩
        have ey := sortS_eq hp (sorted_pw hs)
        subst ey
        exact w _ _ (f.new hn) (new_lst f hn (RpA.ofStrs fun b hb => q2 b ((sortS_perm ss).mem_iff.mp hb)))
      · exact w.elim
/-! numbers and texts -/
def strD : List D → M R
  | [.int i] => if i.natAbs.log2 < 1920 then .ret (.at (.str (toString i))) else .fail
  | [.str z] => .ret (.at (.str z))
  | _ => .fail
theorem strOk_ofString (z : String) : PyData.strOk (Str.ofString z) = true := by
  unfold PyData.strOk
  rw [Str.ofString_eq_toList, Array.all_eq_true_iff_forall_mem]
  intro c hc
  simp only [List.mem_toArray, List.mem_map] at hc
  obtain ⟨ch, _, rfl⟩ := hc
  have h := ch.valid
  apply decide_eq_true
  show ch.val.toNat < 1114112
  rcases h with h | h
  · exact Nat.lt_trans h (by decide)
  · exact h.2
def rStr : List V → Hp → VK → Prop := fun xs H Q => (∃ i, xs = [.int i] ∧ i.natAbs.log2 < 1920 ∧ Q (.str (toString i)) H) ∨ ∃ a, xs = [.str a] ∧ Q (.str a) H
theorem call_str : CallR Z (.type "str") rStr := CallR.or' call_str_int SkE.call_str_str
theorem pr_str : PrN g rStr strD := fun T H vs ds Q f r w => by
  match ds, r, w with
  | [.int i], r, w =>
    obtain ⟨v, rfl, r1⟩ := r.one
    unfold strD at w
    simp only at w
    split at w
    · rename_i hz
      exact .inl ⟨i, by rw [r1.int], hz, w _ H f.refl (.str _ (strOk_ofString _))⟩
    · exact w.elim
  | [.str z], r, w =>
    obtain ⟨v, rfl, r1⟩ := r.one
    exact .inr ⟨z, by rw [r1.str.1], w _ H f.refl (.str _ r1.str.2)⟩
def b2I (b : Bool) : Int := if b then 1 else 0
def intD : List D → M R
  | [.str a] => match PySem.intText? a with
    | some n => if a.length ≤ 640 then .ret (.at (.int n)) else .fail
    | none => .fail
  | [.int i] => .ret (.at (.int i))
  | [.bl b] => .ret (.at (.int (b2I b)))
  | _ => .fail
def rInt : List V → Hp → VK → Prop := fun xs H Q => (∃ a n, xs = [.str a] ∧ PySem.intText? a = some n ∧ a.length ≤ 640 ∧ Q (.int n) H) ∨ (∃ i, xs = [.int i] ∧ Q (.int i) H) ∨ ∃ k, xs = [.bl k] ∧ Q (.int (if k then 1 else 0)) H
theorem call_int : CallR Z (.type "int") rInt := CallR.or' call_int_str call_int1
theorem pr_int : PrN g rInt intD := fun T H vs ds Q f r w => by
  match ds, r, w with
  | [.str a], r, w =>
    obtain ⟨v, rfl, r1⟩ := r.one
    unfold intD at w
    cases e : PySem.intText? a with
    | none => simp only [e] at w; exact w.elim
    | some n =>
      simp only [e] at w
      split at w
      · rename_i hz
        exact .inl ⟨a, n, by rw [r1.str.1], e, hz, w _ H f.refl (.int _)⟩
      · exact w.elim
  | [.int i], r, w =>
    obtain ⟨v, rfl, r1⟩ := r.one
    exact .inr (.inl ⟨i, by rw [r1.int], w _ H f.refl (.int _)⟩)
  | [.bl b], r, w =>
    obtain ⟨v, rfl, r1⟩ := r.one
    exact .inr (.inr ⟨b, by rw [r1.bl], w _ H f.refl (.int _)⟩)
def D.ints : List D → Option (List Int)
  | [] => some []
  | .int b :: ds => (D.ints ds).map (b :: ·)
  | _ => none
theorem RpA.ints {H : Hp} : ∀ {vs : List V} {ds : List D} {bs : List Int}, RpA g H vs ds → D.ints ds = some bs → vs = bs.map V.int
  | _, _, bs, .nil, e => by cases e; rfl
  | _, _, bs, .cons h t, e => by
    cases h <;> first | (cases e; done) | skip
    simp only [D.ints, Option.map_eq_some_iff] at e
    obtain ⟨cs, e, rfl⟩ := e
    rw [RpA.ints t e]; rfl
def maxI : List Int → Int
  | [] => 0
  | n :: ns => ns.foldl max n
def minI : List Int → Int
  | [] => 0
  | n :: ns => ns.foldl min n
theorem foldl_max : ∀ (ns : List Int) (n : Int), (ns.foldl max n = n ∨ ns.foldl max n ∈ ns) ∧ n ≤ ns.foldl max n ∧ ∀ y ∈ ns, y ≤ ns.foldl max n
  | [], n => ⟨.inl rfl, Int.le_refl _, fun y h => by cases h⟩
  | m :: ns, n => by
    obtain ⟨h1, h2, h3⟩ := foldl_max ns (max n m)
    simp only [List.foldl_cons]
    refine ⟨?_, by omega, fun y hy => ?_⟩
    · rcases h1 with h1 | h1
      · rw [h1]
        by_cases q : n ≤ m
        · right; rw [Int.max_eq_right q]; exact List.mem_cons_self
        · left; exact Int.max_eq_left (by omega)
      · exact .inr (List.mem_cons_of_mem _ h1)
    · rcases List.mem_cons.mp hy with rfl | hy
      · omega
      · exact h3 y hy
theorem foldl_min : ∀ (ns : List Int) (n : Int), (ns.foldl min n = n ∨ ns.foldl min n ∈ ns) ∧ ns.foldl min n ≤ n ∧ ∀ y ∈ ns, ns.foldl min n ≤ y
  | [], n => ⟨.inl rfl, Int.le_refl _, fun y h => by cases h⟩
  | m :: ns, n => by
    obtain ⟨h1, h2, h3⟩ := foldl_min ns (min n m)
    simp only [List.foldl_cons]
    refine ⟨?_, by omega, fun y hy => ?_⟩
    · rcases h1 with h1 | h1
      · rw [h1]
        by_cases q : m ≤ n
        · right; rw [Int.min_eq_right q]; exact List.mem_cons_self
        · left; exact Int.min_eq_left (by omega)
      · exact .inr (List.mem_cons_of_mem _ h1)
    · rcases List.mem_cons.mp hy with rfl | hy
      · omega
      · exact h3 y hy
def maxD : List D → M R
  | [.lst ds] => match D.ints ds with
    | some (n :: ns) => .ret (.at (.int (maxI (n :: ns))))
    | _ => .fail
  | _ => .fail
def minD : List D → M R
  | [.lst ds] => match D.ints ds with
    | some (n :: ns) => .ret (.at (.int (minI (n :: ns))))
    | _ => .fail
  | _ => .fail
def sumD : List D → M R
  | [.lst ds] => match D.ints ds with
    | some ns => .ret (.at (.int ns.sum))
    | _ => .fail
  | _ => .fail
theorem pr_max : PrN g (rMax g.K) maxD := fun T H vs ds Q f r w => by
  match ds, r, w with
  | [.lst ds], r, w =>
    obtain ⟨v, rfl, r1⟩ := r.one
    obtain ⟨a, vs, rfl, h1, h2⟩ := r1.lst
    unfold maxD at w
    cases e : D.ints ds with
    | none => simp only [e] at w; exact w.elim
    | some ns =>
      cases ns with
      | nil => simp only [e] at w; exact w.elim
      | cons n ns =>
        simp only [e] at w
        rw [h2.ints e] at h1
        refine ⟨a, n :: ns, rfl, SqL.of h1, Nat.succ_pos _, fun m hm hle => ?_⟩
        obtain ⟨q1, q2, q3⟩ := foldl_max ns n
        have em : m = maxI (n :: ns) := by
          show m = ns.foldl max n
          have h4 : ns.foldl max n ∈ n :: ns := q1.elim (fun z => by rw [z]; exact List.mem_cons_self) fun z => List.mem_cons_of_mem _ z
          have h5 := hle _ h4
          rcases List.mem_cons.mp hm with rfl | hm
          · omega
          · have := q3 m hm; omega
        subst em
        exact w _ H f.refl (.int _)
theorem pr_min : PrN g (fun vs H Q => ∃ (a : Addr) (ns : List Int), vs = [V.ref a] ∧ SqL g.K H a (ns.map V.int) ∧ 0 < ns.length ∧ ∀ m, m ∈ ns → (∀ y, y ∈ ns → m ≤ y) → Q (.int m) H) minD := fun T H vs ds Q f r w => by
  match ds, r, w with
  | [.lst ds], r, w =>
    obtain ⟨v, rfl, r1⟩ := r.one
    obtain ⟨a, vs, rfl, h1, h2⟩ := r1.lst
    unfold minD at w
    cases e : D.ints ds with
    | none => simp only [e] at w; exact w.elim
    | some ns =>
      cases ns with
      | nil => simp only [e] at w; exact w.elim
      | cons n ns =>
        simp only [e] at w
        rw [h2.ints e] at h1
        refine ⟨a, n :: ns, rfl, SqL.of h1, Nat.succ_pos _, fun m hm hle => ?_⟩
        obtain ⟨q1, q2, q3⟩ := foldl_min ns n
        have em : m = minI (n :: ns) := by
          show m = ns.foldl min n
          have h4 : ns.foldl min n ∈ n :: ns := q1.elim (fun z => by rw [z]; exact List.mem_cons_self) fun z => List.mem_cons_of_mem _ z
          have h5 := hle _ h4
          rcases List.mem_cons.mp hm with rfl | hm
          · omega
          · have := q3 m hm; omega
        subst em
        exact w _ H f.refl (.int _)
theorem pr_sum : PrN g (rSum g.K) sumD := fun T H vs ds Q f r w => by
  match ds, r, w with
  | [.lst ds], r, w =>
    obtain ⟨v, rfl, r1⟩ := r.one
    obtain ⟨a, vs, rfl, h1, h2⟩ := r1.lst
    unfold sumD at w
    cases e : D.ints ds with
    | none => simp only [e] at w; exact w.elim
    | some ns =>
      simp only [e] at w
      rw [h2.ints e] at h1
      exact ⟨a, ns, rfl, SqL.of h1, w _ H f.refl (.int _)⟩
/-! join, f-strings -/
def joinD : D → D → M R
  | .str a, .lst ds => match D.strs ds with
    | some ys => if (ys.map (·.length)).sum + ys.length * a.length ≤ 16777216 then .ret (.at (.str (Str.join a ys))) else .fail
    | none => .fail
  | .str a, .tup ds => match D.strs ds with
    | some ys => if (ys.map (·.length)).sum + ys.length * a.length ≤ 16777216 then .ret (.at (.str (Str.join a ys))) else .fail
    | none => .fail
  | _, _ => .fail
end
end G
namespace G
open PySem PySem.Spec L2
open PyProof.Rows hiding St
section
variable {Z : Cx} {g : Cf} {T : List Addr} {He : Hp} {a b c : Expr} {f1 f2 f3 : Se X} {fs : Se (List X)} {pos p2 : Pos}
/-! ### texts' methods -/
theorem strOk_join {a : Str} (ha : PyData.strOk a = true) : ∀ {ys : List Str}, (∀ y ∈ ys, PyData.strOk y = true) → PyData.strOk (Str.join a ys) = true
  | [], _ => (by decide +kernel : PyData.strOk Str.empty = true)
  | [x], h => h x List.mem_cons_self
  | x :: y :: r, h => by
    have ih := strOk_join ha (ys := y :: r) fun z hz => h z (List.mem_cons_of_mem _ hz)
    show PyData.strOk ((x ++ a) ++ Str.join a (y :: r)) = true
    exact strOk_app (strOk_app (h x List.mem_cons_self) ha) ih
def rJoinV (K : PySem.W.Frag) : R2 := fun x y H Q => ∃ a p, ∃ ys : List Str, x = .str a ∧ y = .ref p ∧ (SqL K H p (ys.map V.str) ∨ SqT K H p (ys.map V.str)) ∧ (ys.map (·.length)).sum + ys.length * a.length ≤ 16777216 ∧ Q (.str (Str.join a ys)) H
theorem pr_join : Pr2 g (rJoinV g.K) joinD := fun T H v1 v2 d1 d2 Q f r1 r2 w => by
  cases d1 <;> cases d2 <;> first | exact w.elim | skip
  · rename_i z ds
    obtain ⟨a, vs, rfl, h1, h2⟩ := r2.lst
    unfold joinD at w
    cases e : D.strs ds with
    | none => simp only [e] at w; exact w.elim
    | some ys =>
      simp only [e] at w
      split at w
      · rename_i hz
        obtain ⟨q1, q2⟩ := h2.strs e
        rw [q1] at h1
        exact ⟨z, a, ys, r1.str.1, rfl, .inl (SqL.of h1), hz, w _ H f.refl (.str _ (strOk_join r1.str.2 q2))⟩
      · exact w.elim
  · rename_i z ds
    obtain ⟨a, vs, rfl, h1, h2, _⟩ := r2.tup
    unfold joinD at w
    cases e : D.strs ds with
    | none => simp only [e] at w; exact w.elim
    | some ys =>
      simp only [e] at w
      split at w
      · rename_i hz
        obtain ⟨q1, q2⟩ := h2.strs e
        rw [q1] at h1
        exact ⟨z, a, ys, r1.str.1, rfl, .inr h1, hz, w _ H f.refl (.str _ (strOk_join r1.str.2 q2))⟩
      · exact w.elim
/-- o.m(e), o a text: s2 with a check that o is one -/
def sTm (sem : D → D → M R) (f1 f2 : Se X) : Se X := fun Γ => (f1 Γ).bind fun x => match x.toD with
  | .str z => (f2 Γ).bind fun y => (sem (.str z) y.toD).bind fun z => .ret (z.fin y.tt)
  | _ => .fail
theorem rdTm {r : V → List V → Hp → VK → Prop} {r2 : R2} {sem : D → D → M R} {S : List Addr} {σ : St} {H : Hp} {Γ : List Sl} {Q : VK} (hr : ∀ x y H Q, r2 x y H Q → r x [y] H Q) (hp : Pr2 g r2 sem) (rl : Rl g T He S H Γ σ)
    (w : (sTm sem f1 f2 Γ).wp fun x => ∀ v H', Ext g.fd H H' → RpX g T S H H' v x → Q v H') : tM1 r (rdE g T He f1) (rdE g T He f2) σ H Q := by
  simp only [sTm, M.wp_bind] at w
  refine rdE.use rl (M.wp_mono (fun x w v1 H1 e1 l1 x1 => ?_) w)
  have q := x1.on
  cases h : x.toD <;> rw [h] at w q <;> first | exact w.elim | skip
  rename_i z
  cases q with
  | str _ ok =>
    refine ⟨⟨z, rfl⟩, ?_⟩
    simp only [M.wp_bind, M.wp_ret] at w
    refine rdE.use l1 (M.wp_mono (fun y w v2 H2 e2 l2 x2 => ?_) w)
    refine hr _ _ _ _ (hp (TS T S y.tt) H2 _ v2 (.str z) y.toD Q (l2.fokB _) (.of (.str z ok)) (x2.r1 fun h => h) (M.wp_mono (fun z w v H' e h => ?_) w))
    exact w v H' ((e1.trans e2).trans e) (h.fin.early (e1.trans e2) l2.t)
theorem ev_join {o e : Expr} {apos : Pos} (hK : Z.K = g.K) (ho : EV Z g T He o f1) (he : EV Z g T He e f2) (hs : starEach [e] Z.env = [(false, eval e Z.env)] := by rfl) (hbase : attributeBase o "join" Z.env (eval o Z.env) = eval o Z.env := by rfl) (hline : (apos.endLine == pos.line) = true := by rfl) :
    EV Z g T He (.Call (.Attribute o "join" apos) [e] [] pos) (sTm joinD f1 f2) :=
  pe_w (pe_join ho he hs hbase hline) fun _ _ _ ⟨_, _, rl, w⟩ => rdTm (r2 := rJoinV g.K) (fun x y H Q ⟨a, p, ys, h1, h2, h3, h4, h5⟩ => ⟨a, p, ys, h1, by rw [h2], hK ▸ h3, h4, by rw [show Txt.join a ys = Str.join a ys from TL.join_eq a ys]; exact h5⟩) pr_join rl w
/-! ### f-strings -/
def fmtD : D → M Str
  | .str z => if z.length ≤ 100000 then .ret z else .fail
  | .int i => if i.natAbs.log2 < 1920 then .ret (toString i) else .fail
  | _ => .fail
abbrev SeF := Str → Se Str
def fNil : SeF := fun acc _ => .ret acc
def fStr (x : Str) (f : SeF) : SeF := fun acc Γ => if (acc ++ x).length ≤ 100000 then f (acc ++ x) Γ else .fail
def fVal (f1 : Se X) (f : SeF) : SeF := fun acc Γ => (f1 Γ).bind fun x => (fmtD x.toD).bind fun z => if (acc ++ z).length ≤ 100000 then f (acc ++ z) Γ else .fail
def FJ (Z : Cx) (g : Cf) (T : List Addr) (He : Hp) (es : List Expr) (f : SeF) : Prop := ∃ ts, PJ Z es ts ∧ ∀ (acc : Str) (σ : St) (H : Hp) (S : List Addr) (Γ : List Sl) (Q : Str → Hp → Prop), Rl g T He S H Γ σ → PyData.strOk acc = true →
    ((f acc Γ).wp fun z => ∀ H', Ext g.fd H H' → PyData.strOk z = true → Q z H') → tJs ts acc σ H Q
def sFs (f : SeF) : Se X := fun Γ => (f Str.empty Γ).bind fun z => .ret (.p (.str z))
theorem fj_nil : FJ Z g T He [] fNil := ⟨[], .nil, fun acc σ H S Γ Q rl ok w => w H rl.fok.refl ok⟩
theorem fj_str {x : Str} {j : _} {es : List Expr} {f : SeF} (h : FJ Z g T He es f) (hx : PyData.strOk x = true := by decide +kernel) : FJ Z g T He (.Constant (.str x) j pos :: es) (fStr x f) := by
  obtain ⟨ts, h1, h2⟩ := h
  refine ⟨tC (.str x) :: ts, .cons pe_str h1, fun acc σ H S Γ Q rl ok w => ?_⟩
  unfold fStr at w
  split at w
  · rename_i hz
    exact ⟨x, rfl, big hz, h2 _ σ H S Γ Q rl (strOk_app ok hx) w⟩
  · exact w.elim
theorem fj_val {e : Expr} {es : List Expr} {f : SeF} (he : EV Z g T He e f1) (h : FJ Z g T He es f) : FJ Z g T He (.FormattedValue e (-1) none pos :: es) (fVal f1 f) := by
  obtain ⟨ts, h1, h2⟩ := h
  refine ⟨_ :: ts, .cons (pe_fmt he) h1, fun acc σ H S Γ Q rl ok w => ?_⟩
  simp only [fVal, M.wp_bind] at w
  refine rdE.use rl (M.wp_mono (fun x w v1 H1 e1 l1 x1 => ?_) w)
  have q := x1.on
  cases hd : x.toD <;> rw [hd] at w q <;> first | exact w.elim | skip
  · rename_i i
    cases q
    unfold fmtD at w
    simp only at w
    split at w
    · rename_i hi
      refine .inr ⟨i, rfl, hi, ?_⟩
      simp only [M.wp_ret] at w
      split at w
      · rename_i hz
        exact ⟨_, rfl, big hz, h2 _ σ H1 S Γ Q l1 (strOk_app ok (strOk_ofString _)) (M.wp_mono (fun z q H' e' => q H' (e1.trans e')) w)⟩
      · exact w.elim
    · exact w.elim
  · rename_i z
    cases q with
    | str _ okz =>
      unfold fmtD at w
      simp only at w
      split at w
      · rename_i hi
        refine .inl ⟨z, rfl, big hi, ?_⟩
        simp only [M.wp_ret] at w
        split at w
        · rename_i hz
          exact ⟨_, rfl, big hz, h2 _ σ H1 S Γ Q l1 (strOk_app ok okz) (M.wp_mono (fun z q H' e' => q H' (e1.trans e')) w)⟩
        · exact w.elim
      · exact w.elim
theorem ev_fs {v1 v2 : Expr} {rest : List Expr} {f : SeF} (h : FJ Z g T He (v1 :: v2 :: rest) f) : EV Z g T He (.JoinedStr (v1 :: v2 :: rest) pos) (sFs f) := by
  obtain ⟨ts, h1, h2⟩ := h
  refine pe_w (pe_joined h1) fun σ H Q ⟨Γ, S, rl, w⟩ => ?_
  simp only [sFs, M.wp_bind, M.wp_ret] at w
  exact h2 Str.empty σ H S Γ (fun out H1 => Q (.str out) H1) rl (by decide +kernel) (M.wp_mono (fun z q H' e ok => q _ H' e (Rp.str z ok)) w)
/-! ### isinstance -/
def D.tyv (g : Cf) : D → Value
  | .non => .type "NoneType"
  | .bl _ => .type "bool"
  | .int _ => .type "int"
  | .str _ => .type "str"
  | .lst _ => .type "list"
  | .tup _ => .type "tuple"
  | .ins C _ => .ref (g.ad C)
  | .feed => .none
structure TyF (g : Cf) (P : Nat → Bool) : Prop where
  ty : ∀ C, P C = true → ∀ {H : Hp} {a dx : Addr} {fs : List (Str × V)}, H a = some (.ins (g.ad C) dx fs) → TyOf g.K H (.ref a) (.ref (g.ad C))
theorem Rp.tyx {P : Nat → Bool} (tf : TyF g P) {H : Hp} {v : V} {d : D} (r : Rp g H v d) (h : ∀ C fs, d = .ins C fs → P C = true) (hf : d ≠ .feed) : TyX g.K H v (d.tyv g) := by
  cases r with
  | non => exact .base .non
  | bl b => exact .base (.bl b)
  | int i => exact .base (.int i)
  | str x _ => exact .base (.str x)
  | lst h1 _ => exact .base (.lst h1)
  | tup hs _ =>
    rcases hs with (h | ⟨o, h⟩) | ⟨o, its, n, h, hc, _⟩
    · exact .base (.tup h)
    · exact .fTuple h
    · exact .kTuple h hc
  | ins h1 _ _ => exact .base (tf.ty _ (h _ _ rfl) h1)
  | feed => exact absurd rfl hf
/-- what isinstance against one class says of data -/
structure IsK (g : Cf) (u : Value) (p : D → Option Bool) : Prop where
  ok : ∀ d b, p d = some b → PySem.W.kitOne g.K (d.tyv g) u = some b
  nf : p .feed = none
def sIsi (p : D → Option Bool) (f : Se X) : Se X := fun Γ => (f Γ).bind fun x => match p x.toD with | some b => .ret (.p (.bl b)) | none => .fail
theorem ev_isi {P : Nat → Bool} {e ce : Expr} {px : Pos} {cv : V} {u : Value} {p : D → Option Bool} (hK : Z.K = g.K) (tf : TyF g P) (hP : ∀ C fs, (p (.ins C fs)).isSome = true → P C = true) (ik : IsK g u p) (cl : ClsV cv u) (hg : Gl Z "isinstance") (hm : Z.mg "isinstance" = none)
    (he : EV Z g T He e f1) (hce : PE Z ce (tC cv)) (hs : starEach (e :: [ce]) Z.env = (false, eval e Z.env) :: starEach [ce] Z.env := by rfl) (hs2 : starEach [ce] Z.env = (false, eval ce Z.env) :: starEach [] Z.env := by rfl) (hpl : (backTo pos (starEach [ce] Z.env)).any (·.1) = false := by rfl) :
    EV Z g T He (.Call (.Name "isinstance" px) [e, ce] [] pos) (sIsi p f1) :=
  pe_w (pe_callB call_isi hg hm (by decide +kernel) (pa_cons he (pa_cons hce pa_nil hs2) hs) (by decide) (by decide) hs hpl) fun σ H Q ⟨Γ, S, rl, w⟩ => by
    simp only [sIsi, M.wp_bind] at w
    refine rdE.use rl (M.wp_mono (fun x w v1 H1 e1 l1 x1 => ?_) w)
    cases hb : p x.toD with
    | none => rw [hb] at w; exact w.elim
    | some b =>
      rw [hb] at w
      exact ⟨v1, cv, _, u, b, rfl, cl, hK ▸ x1.on.tyx tf (fun C fs e => hP C fs (by rw [← e, hb]; rfl)) (fun e => by rw [e, ik.nf] at hb; cases hb), hK ▸ ik.ok _ _ hb, w _ H1 e1 (Rp.bl b)⟩
/-- .. against a written pair of classes -/
theorem ev_isi2 {P : Nat → Bool} {e c1 c2 : Expr} {kk : _} {px tp : Pos} {cv1 cv2 : V} {u1 u2 : Value} {p1 p2 : D → Option Bool} (hK : Z.K = g.K) (tf : TyF g P) (hP : ∀ C fs, (p1 (.ins C fs)).isSome = true → P C = true) (ik1 : IsK g u1 p1) (ik2 : IsK g u2 p2) (cl1 : ClsV cv1 u1) (cl2 : ClsV cv2 u2) (hg : Gl Z "isinstance") (hm : Z.mg "isinstance" = none)
    (he : EV Z g T He e f1) (h1 : PE Z c1 (tC cv1)) (h2 : PE Z c2 (tC cv2)) (hs : starEach (e :: [.Tuple [c1, c2] kk tp]) Z.env = (false, eval e Z.env) :: starEach [.Tuple [c1, c2] kk tp] Z.env := by rfl)
    (hs2 : starEach [.Tuple [c1, c2] kk tp] Z.env = (false, eval (.Tuple [c1, c2] kk tp) Z.env) :: starEach [] Z.env := by rfl) (hs3 : starEach [c1, c2] Z.env = (false, eval c1 Z.env) :: starEach [c2] Z.env := by rfl) (hs4 : starEach [c2] Z.env = (false, eval c2 Z.env) :: starEach [] Z.env := by rfl) (hpl : (backTo pos (starEach [.Tuple [c1, c2] kk tp] Z.env)).any (·.1) = false := by rfl) :
    EV Z g T He (.Call (.Name "isinstance" px) [e, .Tuple [c1, c2] kk tp] [] pos) (sIsi (fun d => match p1 d, p2 d with | some a, some b => some (a || b) | _, _ => none) f1) :=
  pe_w (pe_callB call_isiT hg hm (by decide +kernel) (pa_cons he (pa_cons (pe_tup (pa_cons h1 (pa_cons h2 pa_nil hs4) hs3)) pa_nil hs2) hs) (by decide) (by decide) hs hpl) fun σ H Q ⟨Γ, S, rl, w⟩ => by
    simp only [sIsi, M.wp_bind] at w
    refine rdE.use rl (M.wp_mono (fun x w v1 H1 e1 l1 x1 => ?_) w)
    cases hb : p1 x.toD with
    | none => rw [hb] at w; exact w.elim
    | some b =>
      cases hb2 : p2 x.toD with
      | none => rw [hb, hb2] at w; exact w.elim
      | some b2 =>
        rw [hb, hb2] at w
        refine ⟨by show 2 ≤ sizeLine; decide, fun q hq => ?_⟩
        have r := (x1.mono (l1.ext_new (o := .tup [cv1, cv2]) hq) l1.t).on
        refine ⟨v1, q, _, _, [u1, u2], b || b2, rfl, upd_same, .cons cl1 (.cons cl2 .nil), hK ▸ r.tyx tf (fun C fs e => hP C fs (by rw [← e, hb]; rfl)) (fun e => by rw [e, ik1.nf] at hb; cases hb), ?_, w _ _ (e1.trans (l1.ext_new hq)) (Rp.bl _)⟩
        rw [hK]
        refine kitAny_cons (ik1.ok _ _ hb) (fun e => ?_) (fun e => by rw [e]; rfl)
        rw [e]
        refine kitAny_cons (ik2.ok _ _ hb2) (fun e2 => ?_) (fun e2 => by rw [e2]; rfl)
        rw [e2]; exact kitAny_nil
/-- a class's constant -/
theorem ev_cval {C : Addr} {x : Str} {v : V} {d : D} {p : Pos} {f : Str} (hg : Gl Z x) (hx : Z.mg x = some (.ref C)) (hc : ∃ mc w, ClX.CRead Z.K C mc ∧ ClX.CVal Z.K C mc f v w) (r : AtR v d) (hdb : (x == ("__debug__" : Str)) = false := by decide)
    (hb : attributeBase (.Name x p) f Z.env (eval (.Name x p) Z.env) = eval (.Name x p) Z.env := by rfl) : EV Z g T He (.Attribute (.Name x p) f pos) (sK d) := by
  obtain ⟨mc, w, h1, h2⟩ := hc
  exact pe_w (ClX.pe_cval (pe_glob (v := .ref C) hg hx rfl hdb) hb) fun σ H Q ⟨Γ, S, rl, q⟩ => ⟨C, mc, v, w, rfl, h1, h2, q v H rl.fok.refl (AtR.rp r)⟩
end
end G
namespace G
open PySem PySem.Spec L2
open PyProof.Rows hiding St
/-! ### what is walked -/
/-- in the heaps that ok names, J yields what stands for ds, one after another -/
structure ItOk (g : Cf) (ok : Hp → List Addr → Prop) (J : It) (ds : List D) : Prop where
  go : ∀ H U, ok H U → ∀ i d, ds[i]? = some d → J.go i H ∧ ∀ x H', J.yld i H x H' → Same H H' ∧ Rp g (off H' U) x d
  stop : ∀ H U, ok H U → J.stop ds.length H
section
variable {Z : Cx} {g : Cf} {T : List Addr} {He : Hp} {a b c : Expr} {f1 f2 f3 : Se X} {fs : Se (List X)} {pos p2 : Pos} {tg : Expr}
theorem it_lst {ok : Hp → List Addr → Prop} {ad : Addr} {vs : List V} {ds : List D} (h : ∀ H U, ok H U → SqL g.K H ad vs ∧ RpA g (off H U) vs ds) : ItOk g ok (Itl g.K ad) ds where
  go := fun H U q i d hd => by
    obtain ⟨h1, h2⟩ := h H U q
    obtain ⟨v, h3, h4⟩ := h2.get hd
    refine ⟨⟨vs, v, h1, h3⟩, fun x H' y => ?_⟩
    obtain ⟨rfl, y⟩ := y
    have := y vs h1
    rw [h3] at this; cases this
    exact ⟨Same.refl _, h4⟩
  stop := fun H U q => by
    obtain ⟨h1, h2⟩ := h H U q
    exact ⟨vs, h1, by rw [h2.length]; exact Nat.le_refl _⟩
theorem it_tup {ok : Hp → List Addr → Prop} {ad : Addr} {vs : List V} {ds : List D} (h : ∀ H U, ok H U → SqT g.K H ad vs ∧ RpA g (off H U) vs ds) : ItOk g ok (Itt g.K ad) ds where
  go := fun H U q i d hd => by
    obtain ⟨h1, h2⟩ := h H U q
    obtain ⟨v, h3, h4⟩ := h2.get hd
    refine ⟨⟨vs, v, h1, h3⟩, fun x H' y => ?_⟩
    obtain ⟨rfl, y⟩ := y
    have := y vs h1
    rw [h3] at this; cases this
    exact ⟨Same.refl _, h4⟩
  stop := fun H U q => by
    obtain ⟨h1, h2⟩ := h H U q
    exact ⟨vs, h1, by rw [h2.length]; exact Nat.le_refl _⟩
def enumL (i : Nat) : List D → List D
  | [] => []
  | d :: ds => .tup [.int i, d] :: enumL (i + 1) ds
theorem enumL_length : ∀ (ds : List D) (i : Nat), (enumL i ds).length = ds.length
  | [], _ => rfl
  | _ :: ds, i => congrArg Nat.succ (enumL_length ds (i + 1))
theorem enumL_get : ∀ {ds : List D} {k i : Nat} {d : D}, (enumL k ds)[i]? = some d → ∃ e, ds[i]? = some e ∧ d = .tup [.int ((k + i : Nat) : Int), e]
  | [], _, _, _, h => by simp [enumL] at h
  | e :: ds, k, 0, d, h => by
    simp only [enumL, List.getElem?_cons_zero, Option.some.injEq] at h
    exact ⟨e, rfl, h.symm⟩
  | e :: ds, k, i + 1, d, h => by
    simp only [enumL, List.getElem?_cons_succ] at h ⊢
    obtain ⟨e', h1, h2⟩ := enumL_get h
    exact ⟨e', h1, by rw [h2]; congr 4; omega⟩
theorem pair_new {H : Hp} {U : List Addr} {q : Addr} {i : Int} {v : V} {e : D} (hn : H q = none) (hu : ∀ b ∈ U, H b ≠ none) (r : Rp g (off H U) v e) : Rp g (off (upd H q (.tup [.int i, v])) U) (.ref q) (.tup [.int i, e]) :=
  .tup (SqT.of (by rw [off_ne fun z => hu q z hn]; exact upd_same)) (RpA.new (.cons (.int i) (.cons r .nil)) hn)
theorem it_enl {ok : Hp → List Addr → Prop} {ad : Addr} {vs : List V} {ds : List D} (h : ∀ H U, ok H U → SqL g.K H ad vs ∧ RpA g (off H U) vs ds ∧ ∀ b ∈ U, H b ≠ none) : ItOk g ok (Ite g.K ad) (enumL 0 ds) where
  go := fun H U q i d hd => by
    obtain ⟨h1, h2, hu⟩ := h H U q
    obtain ⟨e, h3, rfl⟩ := enumL_get hd
    obtain ⟨v, h4, h5⟩ := h2.get h3
    refine ⟨⟨vs, v, h1, h4⟩, fun x H' y => ?_⟩
    obtain ⟨p, x', rfl, hn, rfl, y⟩ := y
    have := y vs h1
    rw [h4] at this; cases this
    rw [Nat.zero_add]
    exact ⟨Same.newT hn, pair_new hn hu h5⟩
  stop := fun H U q => by
    obtain ⟨h1, h2, _⟩ := h H U q
    exact ⟨vs, h1, by rw [h2.length, enumL_length]; exact Nat.le_refl _⟩
theorem it_ent {ok : Hp → List Addr → Prop} {ad : Addr} {vs : List V} {ds : List D} (h : ∀ H U, ok H U → SqT g.K H ad vs ∧ RpA g (off H U) vs ds ∧ ∀ b ∈ U, H b ≠ none) : ItOk g ok (IteT g.K ad) (enumL 0 ds) where
  go := fun H U q i d hd => by
    obtain ⟨h1, h2, hu⟩ := h H U q
    obtain ⟨e, h3, rfl⟩ := enumL_get hd
    obtain ⟨v, h4, h5⟩ := h2.get h3
    refine ⟨⟨vs, v, h1, h4⟩, fun x H' y => ?_⟩
    obtain ⟨p, x', rfl, hn, rfl, y⟩ := y
    have := y vs h1
    rw [h4] at this; cases this
    rw [Nat.zero_add]
    exact ⟨Same.newT hn, pair_new hn hu h5⟩
  stop := fun H U q => by
    obtain ⟨h1, h2, _⟩ := h H U q
    exact ⟨vs, h1, by rw [h2.length, enumL_length]; exact Nat.le_refl _⟩
def rangeL (lo : Int) (n : Nat) : List D := (List.range n).map fun i => .int (lo + (i : Nat))
theorem it_rng {ok : Hp → List Addr → Prop} {lo : Int} {n : Nat} : ItOk g ok (Itr lo n) (rangeL lo n) where
  go := fun H U q i d hd => by
    unfold rangeL at hd
    rw [List.getElem?_map, Option.map_eq_some_iff] at hd
    obtain ⟨j, h1, rfl⟩ := hd
    obtain ⟨h2, h3⟩ := List.getElem?_eq_some_iff.mp h1
    simp at h2 h3
    subst h3
    exact ⟨h2, fun x H' y => by obtain ⟨rfl, rfl⟩ := y; exact ⟨Same.refl _, .int _⟩⟩
  stop := fun H U q => by
    unfold rangeL
    rw [List.length_map, List.length_range]
    exact Nat.le_refl n
def signL (z : Str) : List D := z.cps.toList.map fun c => .str (sgn c)
theorem it_str {ok : Hp → List Addr → Prop} {z : Str} (hz : PyData.strOk z = true) : ItOk g ok (Its z) (signL z) where
  go := fun H U q i d hd => by
    unfold signL at hd
    rw [List.getElem?_map, Option.map_eq_some_iff] at hd
    obtain ⟨c, h1, rfl⟩ := hd
    have h2 : z.cps[i]? = some c := by simpa using h1
    refine ⟨(Array.getElem?_eq_some_iff.mp h2).1, fun x H' y => ?_⟩
    obtain ⟨rfl, c', h3, rfl⟩ := y
    rw [h2] at h3; cases h3
    exact ⟨Same.refl _, .str _ (strOk_sgn hz (List.mem_of_getElem? h1))⟩
  stop := fun H U q => by
    unfold signL
    rw [List.length_map, Array.length_toList]
    exact Nat.le_refl z.cps.size
/-- a list or a tuple, by values -/
def iSq (K : PySem.W.Frag) (tl : TE) : TI := fun σ H R => tl σ H fun x H1 => ∃ a, x = .ref a ∧ (((∃ xs, SqL K H1 a xs) ∧ R (Itl K a) H1) ∨ ((∃ xs, SqT K H1 a xs) ∧ R (Itt K a) H1))
theorem pi_sq {l : Expr} {tl : TE} (hl : PE Z l tl) : PI Z tg l (iSq Z.K tl) := by
  refine ⟨fun pins s σ H R I h => ?_⟩
  refine thn (hl.run pins s σ H _ I h) fun v s1 ⟨x, H1, I1, r1, q1⟩ => ?_
  obtain ⟨a, e, ⟨⟨xs, hq⟩, q⟩ | ⟨⟨xs, hq⟩, q⟩⟩ := q1
  · subst e
    cases r1
    obtain ⟨its, rv, p, hz⟩ := I1.list hq
    refine wpAny_pyIter_list p.isList ?_
    refine ⟨s1.heap.objs.size, [s1.heap.objs.size], _, _, H1, rfl, I1.kept (t' := s1.toks) fun b o e => Heap.get?_push_of_some _ e, turn_list a _, ⟨_, Heap.get?_push_size _ rfl, rfl, rfl⟩, fun b hb => ?_, q⟩
    have e : b = s1.heap.objs.size := by simpa using hb
    subst e
    exact I1.fpOk (Nat.le_refl _) (I1.hok.fresh (Nat.le_refl _))
  · subst e
    cases r1
    obtain ⟨its, rv, p, hz⟩ := I1.tuple hq
    refine wpAny_pyIter_tuple (show s1.heap.IsTuple a its.toArray from p) ?_
    refine ⟨s1.heap.objs.size, [s1.heap.objs.size], _, _, H1, rfl, I1.kept (t' := s1.toks) fun b o e => Heap.get?_push_of_some _ e, turn_tuple a _, ⟨_, Heap.get?_push_size _ rfl, rfl, rfl⟩, fun b hb => ?_, q⟩
    have e : b = s1.heap.objs.size := by simpa using hb
    subst e
    exact I1.fpOk (Nat.le_refl _) (I1.hok.fresh (Nat.le_refl _))
theorem pi_w {l : Expr} {t t' : TI} (h : PI Z tg l t) (k : ∀ σ H R, t' σ H R → t σ H R) : PI Z tg l t' := ⟨fun pins s σ H R I q => h.run pins s σ H R I (k _ _ _ q)⟩
/-- the walk's heaps: in a comprehension nothing of the frame's own is written -/
def okC (g : Cf) (T S : List Addr) (H0 : Hp) : Hp → List Addr → Prop := fun H U => Ext g.fd H0 H ∧ Same (off H0 (T ++ S)) (off H U) ∧ ∀ b ∈ U, H b ≠ none
/-- in a loop the frame's own objects may change and grow -/
def okF (U0 : List Addr) (H0 : Hp) : Hp → List Addr → Prop := fun H U => Same (off H0 U0) (off H U) ∧ ∀ b ∈ U, H b ≠ none
/-- the items of a walk, and whether they hang on an own object -/
def rdI (g : Cf) (T : List Addr) (He : Hp) (f : Se (Bool × List D)) : TI := fun σ H R => ∃ Γ S, Rl g T He S H Γ σ ∧ (f Γ).wp fun p => ∀ J H', Ext g.fd H H' → ItOk g (okC g T S H') J p.2 → (p.1 = false → ItOk g (okF (T ++ S) H') J p.2) → R J H'
abbrev EI (Z : Cx) (g : Cf) (T : List Addr) (He : Hp) (tg e : Expr) (f : Se (Bool × List D)) : Prop := PI Z tg e (rdI g T He f)
def itSq (x : X) : M (Bool × List D) := match x with
  | .p (.lst ds) => .ret (false, ds)
  | .p (.tup ds) => .ret (false, ds)
  | .c (.l ds) => .ret (false, ds)
  | .b (.l ds) => .ret (true, ds)
  | _ => .fail
def sSq (f : Se X) : Se (Bool × List D) := fun Γ => (f Γ).bind itSq
/-- what stands at a place that is not the frame's own stays -/
theorem okF_seqL {U0 U : List Addr} {H0 H : Hp} {ad : Addr} {vs : List V} {ds : List D} (q : okF U0 H0 H U) (h1 : off H0 U0 ad = some (.lst vs)) (h2 : RpA g (off H0 U0) vs ds) : SqL g.K H ad vs ∧ RpA g (off H U) vs ds :=
  ⟨SqL.of (off_same _ _ _ _ (q.1 _ _ h1)), RpA.mono q.1 _ h2⟩
theorem okF_seqT {U0 U : List Addr} {H0 H : Hp} {ad : Addr} {vs : List V} {ds : List D} (q : okF U0 H0 H U) (h1 : SqT g.K (off H0 U0) ad vs) (h2 : RpA g (off H0 U0) vs ds) : SqT g.K H ad vs ∧ RpA g (off H U) vs ds :=
  ⟨Same.seqTT (q.1.trans (off_same _ _)) h1, RpA.mono q.1 _ h2⟩
theorem okC_F {S : List Addr} {H0 H : Hp} {U : List Addr} (q : okC g T S H0 H U) : okF (T ++ S) H0 H U := q.2
theorem ei_sq {l : Expr} (hK : Z.K = g.K) (hl : EV Z g T He l f1) : EI Z g T He tg l (sSq f1) :=
  pi_w (hK ▸ pi_sq hl) fun σ H R ⟨Γ, S, rl, w⟩ => by
    simp only [sSq, M.wp_bind] at w
    refine rdE.use rl (M.wp_mono (fun x w v1 H1 e1 l1 x1 => ?_) w)
    unfold itSq at w
    split at w <;> first | exact w.elim | skip
    · cases x1 with
      | lst h1 h2 => exact ⟨_, rfl, .inl ⟨⟨_, SqL.of (off_same _ _ _ _ h1)⟩, w _ H1 e1 (it_lst fun H U q => okF_seqL (okC_F q) h1 h2) fun _ => it_lst fun H U q => okF_seqL q h1 h2⟩⟩
    · cases x1 with
      | tup h1 h2 => exact ⟨_, rfl, .inr ⟨⟨_, Same.seqTT (off_same _ _) h1⟩, w _ H1 e1 (it_tup fun H U q => okF_seqT (okC_F q) h1 h2) fun _ => it_tup fun H U q => okF_seqT q h1 h2⟩⟩
    · obtain ⟨ad, rfl, _, n, vs, h1, h2⟩ := x1
      have h1' : off H1 (T ++ S) ad = some (.lst vs) := by rw [off_ne n]; exact h1
      have h2' := RpA.mono (off_sub (H := H1) fun b hb => List.mem_cons_of_mem ad hb) _ h2
      exact ⟨_, rfl, .inl ⟨⟨_, SqL.of h1⟩, w _ H1 e1 (it_lst fun H U q => okF_seqL (okC_F q) h1' h2') fun _ => it_lst fun H U q => okF_seqL q h1' h2'⟩⟩
    · obtain ⟨ad, rfl, _, n, vs, h1, h2⟩ := x1
      exact ⟨_, rfl, .inl ⟨⟨_, SqL.of h1⟩, w _ H1 e1 (it_lst fun H U q => ⟨SqL.of (q.1.at l1.t n h1), RpA.mono q.2.1 _ h2⟩) fun z => (by cases z)⟩⟩
def sSg (f : Se X) : Se (Bool × List D) := fun Γ => (f Γ).bind fun x => match x.toD with | .str z => if z.length ≤ 100000 then .ret (false, signL z) else .fail | _ => .fail
theorem ei_str {l : Expr} (hl : EV Z g T He l f1) : EI Z g T He tg l (sSg f1) :=
  pi_w (pi_str hl) fun σ H R ⟨Γ, S, rl, w⟩ => by
    simp only [sSg, M.wp_bind] at w
    refine rdE.use rl (M.wp_mono (fun x w v1 H1 e1 l1 x1 => ?_) w)
    have q := x1.on
    cases hd : x.toD <;> rw [hd] at w q <;> first | exact w.elim | skip
    rename_i z
    simp only at w
    split at w
    · cases q with
      | str _ ok => exact ⟨z, rfl, w _ H1 e1 (it_str ok) fun _ => it_str ok⟩
    · exact w.elim
def sRg1 (f : Se (List X)) : Se (Bool × List D) := fun Γ => (f Γ).bind fun xs => match xs.map X.toD with
  | [.int j] => if -(2 ^ 62) ≤ j ∧ j < 2 ^ 62 then .ret (false, rangeL 0 j.toNat) else .fail
  | _ => .fail
def sRg2 (f : Se (List X)) : Se (Bool × List D) := fun Γ => (f Γ).bind fun xs => match xs.map X.toD with
  | [.int i, .int j] => if -(2 ^ 62) ≤ i ∧ i < 2 ^ 62 ∧ -(2 ^ 62) ≤ j ∧ j < 2 ^ 62 then .ret (false, rangeL i (j - i).toNat) else .fail
  | _ => .fail
theorem RpXs.on {S : List Addr} {H0 H : Hp} {vs : List V} {xs : List X} (r : RpXs g T S H0 H vs xs) : RpA g H vs (xs.map X.toD) := RpA.mono (off_same _ _) _ r.toD
theorem ei_rg1 {e : Expr} {p : Pos} (hg : Gl Z "range") (hm : Z.mg "range" = none) (ha : EA Z g T He [e] fs) (hs : starEach [e] Z.env = [(false, eval e Z.env)] := by rfl) : EI Z g T He tg (.Call (.Name "range" p) [e] [] pos) (sRg1 fs) :=
  pi_w (pi_range1 hg hm ha hs) fun σ H R ⟨Γ, S, rl, w⟩ => by
    simp only [sRg1, M.wp_bind] at w
    refine rdA.use rl (M.wp_mono (fun xs w vs H1 e1 l1 xx => ?_) w)
    have q := xx.on
    split at w <;> first | exact w.elim | skip
    rename_i j e
    rw [e] at q
    split at w
    · rename_i hj
      cases q with
      | cons h t => cases h; cases t; exact ⟨j, rfl, hj.1, hj.2, w _ H1 e1 it_rng fun _ => it_rng⟩
    · exact w.elim
theorem ei_rg2 {e e' : Expr} {p : Pos} (hg : Gl Z "range") (hm : Z.mg "range" = none) (ha : EA Z g T He [e, e'] fs) (hs : starEach [e, e'] Z.env = [(false, eval e Z.env), (false, eval e' Z.env)] := by rfl) (hs2 : starEach [e'] Z.env = [(false, eval e' Z.env)] := by rfl) :
    EI Z g T He tg (.Call (.Name "range" p) [e, e'] [] pos) (sRg2 fs) :=
  pi_w (pi_range2 hg hm ha hs hs2) fun σ H R ⟨Γ, S, rl, w⟩ => by
    simp only [sRg2, M.wp_bind] at w
    refine rdA.use rl (M.wp_mono (fun xs w vs H1 e1 l1 xx => ?_) w)
    have q := xx.on
    split at w <;> first | exact w.elim | skip
    rename_i i j e
    rw [e] at q
    split at w
    · rename_i hj
      cases q with
      | cons h t =>
        cases h
        cases t with
        | cons h t => cases h; cases t; exact ⟨i, j, rfl, hj, w _ H1 e1 it_rng fun _ => it_rng⟩
    · exact w.elim
/-! enumerate -/
def iEnS (K : PySem.W.Frag) (ta : TA) : TI := fun σ H R => ta σ H fun vs H1 => ∃ a xs, vs = [.ref a] ∧ ((SqL K H1 a xs ∧ R (Ite K a) H1) ∨ (SqT K H1 a xs ∧ R (IteT K a) H1))
theorem pi_enS {e : Expr} {ta : TA} {p tpos : Pos} {elts : List Expr} {kk : Nat} (hg : Gl Z "enumerate") (hm : Z.mg "enumerate" = none) (ha : PA Z [e] ta) (hs : starEach [e] Z.env = [(false, eval e Z.env)] := by rfl) :
    PI Z (.Tuple elts kk tpos) (.Call (.Name "enumerate" p) [e] [] pos) (iEnS Z.K ta) := by
  refine ⟨fun pins s σ H R I h => ?_⟩
  refine Call_ (ld_blt I hg hm boot_enumerate (PyProof.Rows.callWith_type1 (thn (ha.run pos pins s σ H _ I h) fun us s1 ⟨vs, H1, I1, r1, q1⟩ => ?_) hs rfl))
  obtain ⟨a, xs, ex, ⟨hq, q⟩ | ⟨hq, q⟩⟩ := q1
  · subst ex
    cases r1 with
    | cons r rr =>
      cases rr
      cases r
      obtain ⟨its, rv, p', hz⟩ := I1.list hq
      refine call_enumerate_list p'.isList fun h' he hit hsz hk => wpAny_pyIter_enum he ?_
      have I2 : Inv Z pins σ H1 { s1 with heap := h' } := I1.kept (t' := s1.toks) hk
      refine ⟨s1.heap.objs.size + 1, [s1.heap.objs.size + 1, s1.heap.objs.size], _, _, H1, rfl, I2, turn_enum a (s1.heap.objs.size + 1) s1.heap.objs.size, ⟨⟨.none, he⟩, hit, Nat.succ_ne_self _⟩, fun b hb => ?_, q⟩
      have e' : b = s1.heap.objs.size + 1 ∨ b = s1.heap.objs.size := by simpa using hb
      have hle : s1.heap.objs.size ≤ b := by
        rcases e' with z | z
        · rw [z]; exact Nat.le_add_right _ _
        · rw [z]; exact Nat.le_refl _
      exact I1.fpOk hle (I1.hok.fresh hle)
  · subst ex
    cases r1 with
    | cons r rr =>
      cases rr
      cases r
      obtain ⟨its, rv, p', hz⟩ := I1.tuple hq
      have pT : s1.heap.IsTuple a its.toArray := p'
      have hla : a < s1.heap.objs.size := by obtain ⟨_, q, _⟩ := pT; exact Heap.lt_size q
      refine enum_begins1 (begins_tuple a its.toArray) pT fun h' he hit hsz hk => wpAny_pyIter_enum he ?_
      have I2 : Inv Z pins σ H1 { s1 with heap := h' } := I1.kept (t' := s1.toks) hk
      refine ⟨s1.heap.objs.size + 1, [s1.heap.objs.size + 1, s1.heap.objs.size], _, _, H1, rfl, I2, turn_enumT a (s1.heap.objs.size + 1) s1.heap.objs.size (Nat.ne_of_lt hla) (Nat.ne_of_lt (Nat.lt_succ_of_lt hla)), ⟨⟨.none, he⟩, ⟨_, hit, rfl, rfl⟩, Nat.succ_ne_self _⟩, fun b hb => ?_, q⟩
      have e' : b = s1.heap.objs.size + 1 ∨ b = s1.heap.objs.size := by simpa using hb
      have hle : s1.heap.objs.size ≤ b := by
        rcases e' with z | z
        · rw [z]; exact Nat.le_add_right _ _
        · rw [z]; exact Nat.le_refl _
      exact I1.fpOk hle (I1.hok.fresh hle)
def sEn (f : Se X) : Se (Bool × List D) := fun Γ => (f Γ).bind fun x => (itSq x).bind fun p => .ret (p.1, enumL 0 p.2)
theorem ei_en {e : Expr} {p tpos : Pos} {elts : List Expr} {kk : Nat} (hK : Z.K = g.K) (hg : Gl Z "enumerate") (hm : Z.mg "enumerate" = none) (he : EV Z g T He e f1) (hs : starEach [e] Z.env = [(false, eval e Z.env)] := by rfl) :
    EI Z g T He (.Tuple elts kk tpos) (.Call (.Name "enumerate" p) [e] [] pos) (sEn f1) :=
  pi_w (hK ▸ pi_enS hg hm (pa_cons he pa_nil hs) hs) fun σ H R ⟨Γ, S, rl, w⟩ => by
    simp only [sEn, M.wp_bind, M.wp_ret] at w
    refine rdE.use rl (M.wp_mono (fun x w v1 H1 e1 l1 x1 => ?_) w)
    unfold itSq at w
    split at w <;> first | exact w.elim | skip
    · cases x1 with
      | lst h1 h2 => exact ⟨_, _, rfl, .inl ⟨SqL.of (off_same _ _ _ _ h1), w _ H1 e1 (it_enl fun H U q => let ⟨z1, z2⟩ := okF_seqL (okC_F q) h1 h2; ⟨z1, z2, q.2.2⟩) fun _ => it_enl fun H U q => let ⟨z1, z2⟩ := okF_seqL q h1 h2; ⟨z1, z2, q.2⟩⟩⟩
    · cases x1 with
      | tup h1 h2 => exact ⟨_, _, rfl, .inr ⟨Same.seqTT (off_same _ _) h1, w _ H1 e1 (it_ent fun H U q => let ⟨z1, z2⟩ := okF_seqT (okC_F q) h1 h2; ⟨z1, z2, q.2.2⟩) fun _ => it_ent fun H U q => let ⟨z1, z2⟩ := okF_seqT q h1 h2; ⟨z1, z2, q.2⟩⟩⟩
    · obtain ⟨ad, rfl, _, n, vs, h1, h2⟩ := x1
      have h1' : off H1 (T ++ S) ad = some (.lst vs) := by rw [off_ne n]; exact h1
      have h2' := RpA.mono (off_sub (H := H1) fun b hb => List.mem_cons_of_mem ad hb) _ h2
      exact ⟨_, _, rfl, .inl ⟨SqL.of h1, w _ H1 e1 (it_enl fun H U q => let ⟨z1, z2⟩ := okF_seqL (okC_F q) h1' h2'; ⟨z1, z2, q.2.2⟩) fun _ => it_enl fun H U q => let ⟨z1, z2⟩ := okF_seqL q h1' h2'; ⟨z1, z2, q.2⟩⟩⟩
    · obtain ⟨ad, rfl, _, n, vs, h1, h2⟩ := x1
      exact ⟨_, _, rfl, .inl ⟨SqL.of h1, w _ H1 e1 (it_enl fun H U q => ⟨SqL.of (q.1.at l1.t n h1), RpA.mono q.2.1 _ h2, q.2.2⟩) fun z => (by cases z)⟩⟩
/-! ### targets -/
inductive Tg where
  | n (i : Nat) | t (is : List Nat)
def Tg.asg : Tg → D → Option (List (Nat × D))
  | .n i, d => some [(i, d)]
  | .t is, .tup ds => if is.length = ds.length then some (is.zip ds) else none
  | _, _ => none
def setG (Γ : List Sl) : List (Nat × D) → List Sl
  | [] => Γ
  | (i, d) :: as => setG (Γ.set i (.v d)) as
def setS (σ : St) : List (Nat × V) → St
  | [] => σ
  | (i, v) :: ws => setS (σ.set i (some v)) ws
theorem Rl.setAll {S : List Addr} {H : Hp} : ∀ {as : List (Nat × D)} {ws : List (Nat × V)} {Γ : List Sl} {σ : St}, Rl g T He S H Γ σ → (∀ i ∈ as.map Prod.fst, g.ok0 i) → ws.map Prod.fst = as.map Prod.fst → RpA g (off H (T ++ S)) (ws.map Prod.snd) (as.map Prod.snd) → Rl g T He S H (setG Γ as) (setS σ ws)
  | [], [], _, _, r, _, _, _ => r
  | [], _ :: _, _, _, _, _, e, _ => by cases e
  | _ :: _, [], _, _, _, _, e, _ => by cases e
  | (i, d) :: as, (j, v) :: ws, Γ, σ, r, z, e, q => by
    simp only [List.map_cons, List.cons.injEq] at e
    obtain ⟨rfl, e⟩ := e
    cases q with
    | cons h t =>
      show Rl g T He S H (setG (Γ.set _ (.v d)) as) (setS (σ.set _ (some v)) ws)
      exact Rl.setAll (r.set_v (z _ List.mem_cons_self) h) (fun i hi => z i (List.mem_cons_of_mem _ hi)) e t
def rdG (g : Cf) (T : List Addr) (He : Hp) (tgt : Tg) : TG := fun v σ H Q => ∃ Γ S d as, Rl g T He S H Γ σ ∧ Rp g (off H (T ++ S)) v d ∧ tgt.asg d = some as ∧ ∀ ws : List (Nat × V), ws.map Prod.fst = as.map Prod.fst → Rl g T He S H (setG Γ as) (setS σ ws) → Q (setS σ ws) H
abbrev EG (Z : Cx) (g : Cf) (T : List Addr) (He : Hp) (e : Expr) (t : Tg) : Prop := PG Z e (rdG g T He t)
theorem pg_w {l : Expr} {t t' : TG} (h : PG Z l t) (k : ∀ v σ H R, t' v σ H R → t v σ H R) : PG Z l t' := ⟨fun pins s σ H v u Q I r q => h.run pins s σ H v u Q I r (k _ _ _ _ q)⟩
theorem eg_n {i : Nat} {x : Str} (h0 : g.ok0 i) (hN : Z.N.Nodup) (hi : Z.N[i]? = some x) (hx : Loc Z.env.scope x) (hf : Z.fn x = true ∨ Z.env.scope.names.lookup x = some .local := by first | exact .inl rfl | exact .inr rfl | assumption) : EG Z g T He (.Name x pos) (.n i) :=
  pg_w (pg_name hN hi hx hf) fun v σ H Q ⟨Γ, S, d, as, rl, r, e, q⟩ => by
    simp only [Tg.asg, Option.some.injEq] at e
    subst e
    exact q [(i, v)] rfl (rl.setAll (ws := [(i, v)]) (fun j hj => by simp only [List.map_cons, List.map_nil, List.mem_singleton] at hj; rw [hj]; exact h0) rfl (.cons r .nil))
def gNames (is : List Nat) : TGs := fun vs σ H Q => vs.length = is.length ∧ Q (setS σ (is.zip vs)) H
theorem egs_nil : PGs Z [] (gNames []) := ⟨fun pins s σ H vs us Q I r h => pgs_nil.run pins s σ H vs us Q I r (by
  obtain ⟨h1, h2⟩ := h
  cases vs with
  | nil => exact ⟨rfl, h2⟩
  | cons _ _ => cases h1)⟩
theorem egs_cons {i : Nat} {is : List Nat} {x : Str} {es : List Expr} (hN : Z.N.Nodup) (hi : Z.N[i]? = some x) (hx : Loc Z.env.scope x) (h : PGs Z es (gNames is)) (hf : Z.fn x = true ∨ Z.env.scope.names.lookup x = some .local := by first | exact .inl rfl | exact .inr rfl | assumption)
    (hs : (assignEach (.Name x pos :: es) Z.env).map (·.2) = assign (.Name x pos) Z.env :: (assignEach es Z.env).map (·.2) := by rfl) : PGs Z (.Name x pos :: es) (gNames (i :: is)) :=
  ⟨fun pins s σ H vs us Q I r q => (pgs_cons (pg_name hN hi hx hf) h hs).run pins s σ H vs us Q I r (by
    obtain ⟨h1, h2⟩ := q
    cases vs with
    | nil => cases h1
    | cons v vs => exact ⟨v, vs, rfl, by simpa using h1, h2⟩)⟩
theorem eg_t {es : List Expr} {k : Nat} {is : List Nat} (h0 : ∀ i ∈ is, g.ok0 i) (hK : Z.K = g.K) (hc : Z.calm = true) (h : PGs Z es (gNames is)) (hn : (assignEach es Z.env).length = is.length := by rfl) (hst : (assignEach es Z.env).findIdx? (·.1) = none := by rfl) : EG Z g T He (.Tuple es k pos) (.t is) :=
  pg_w (pg_tup hc h hn hst) fun v σ H Q ⟨Γ, S, d, as, rl, r, e, q⟩ => by
    cases d <;> first | (simp only [Tg.asg] at e; cases e; done) | skip
    rename_i ds
    simp only [Tg.asg] at e
    split at e
    · rename_i hl
      cases e
      cases r with
      | @tup a vs _ h1 h2 =>
        have l := h2.length
        refine ⟨a, vs, rfl, hK ▸ Same.seqTT (off_same _ _) h1, by omega, by omega, ?_⟩
        have e1 : (is.zip vs).map Prod.fst = is := by rw [List.map_fst_zip]; omega
        have e2 : (is.zip ds).map Prod.fst = is := by rw [List.map_fst_zip]; omega
        have e3 : (is.zip vs).map Prod.snd = vs := by rw [List.map_snd_zip]; omega
        have e4 : (is.zip ds).map Prod.snd = ds := by rw [List.map_snd_zip]; omega
        exact q (is.zip vs) (e1.trans e2.symm) (rl.setAll (by rw [e2]; exact h0) (e1.trans e2.symm) (by rw [e3, e4]; exact h2))
    · cases e
/-! ### comprehensions -/
def wipeG (Γ : List Sl) : List Nat → List Sl
  | [] => Γ
  | v :: vs => (wipeG Γ vs).set v .no
theorem Rl.forget {S : List Addr} {H : Hp} {Γ : List Sl} {σ : St} {i : Nat} (r : Rl g T He S H Γ σ) (h0 : g.ok0 i) : Rl g T He S H (Γ.set i .no) (σ.set i none) where
  len := by rw [List.length_set, List.length_set]; exact r.len
  sl := fun j s e => by
    by_cases q : i = j
    · subst q
      have hi : i < Γ.length := by
        have := (List.getElem?_eq_some_iff.mp e).1
        simpa using this
      rw [List.getElem?_set_self hi] at e
      cases e
      trivial
    · rw [List.getElem?_set_ne q] at e ⊢
      exact r.sl j s e
  ne := fun j k o o' a h1 h2 h3 h4 => by
    have nj : i ≠ j := fun q => by
      subst q
      have hi : i < Γ.length := by have := (List.getElem?_eq_some_iff.mp h1).1; simpa using this
      rw [List.getElem?_set_self hi] at h1; cases h1
    have nk : i ≠ k := fun q => by
      subst q
      have hi : i < Γ.length := by have := (List.getElem?_eq_some_iff.mp h2).1; simpa using this
      rw [List.getElem?_set_self hi] at h2; cases h2
    rw [List.getElem?_set_ne nj] at h1 h3
    rw [List.getElem?_set_ne nk] at h2 h4
    exact r.ne j k o o' a h1 h2 h3 h4
  tk := r.tk
  nw := r.nw
  ft := r.ft
  tt := r.tt
  ex := r.ex
  s0 := s0_set h0 r.s0
theorem Rl.wipe {S : List Addr} {H : Hp} {Γ : List Sl} {σ : St} (r : Rl g T He S H Γ σ) : ∀ vs : List Nat, (∀ i ∈ vs, g.ok0 i) → Rl g T He S H (wipeG Γ vs) (L2.wipe σ vs)
  | [], _ => r
  | v :: vs, h => (r.wipe vs fun i hi => h i (List.mem_cons_of_mem _ hi)).forget (h v List.mem_cons_self)
theorem Rl.more {S : List Addr} {H : Hp} {Γ : List Sl} {σ : St} {d : Addr} (r : Rl g T He S H Γ σ) (hn : H d = none) (o : HO) : Rl g T He (d :: S) (upd H d o) Γ σ := by
  have ex := r.ext_new (o := o) hn
  have t' : ∀ p l, g.fd = some (p, l) → p ∈ T ++ (d :: S) := fun p l h => List.mem_append_left _ (r.t p l h)
  have sm : Same (off H (T ++ S)) (off (upd H d o) (T ++ (d :: S))) := (off_free hn).trans (ex.off t')
  refine ⟨r.len, fun i s h => ?_, r.ne, fun b hb => ?_, fun b hb => ?_, r.ft, r.tt, r.ex.trans ex, r.s0⟩
  · have q := r.sl i s h
    cases s with
    | no => trivial
    | v e => obtain ⟨v, h1, h2⟩ := q; exact ⟨v, h1, h2.mono sm⟩
    | c o' => obtain ⟨a, h1, h2, h3⟩ := q; exact ⟨a, h1, List.mem_cons_of_mem _ h2, h3.mono (fun o' h => ex.at r.t (r.nT h2) h) sm⟩
  · rcases List.mem_cons.mp hb with rfl | hb
    · rw [upd_same]; intro z; cases z
    · exact (r.mono ex).tk b hb
  · rcases List.mem_cons.mp hb with rfl | hb
    · exact r.ex.free hn fun p l h z => by
        have := (r.feed h).tk
        rw [← z] at this
        exact this hn
    · exact r.nw b hb
theorem wipe_get {σ σ' : St} (hl : σ.length = σ'.length) : ∀ {vs : List Nat}, (∀ i, i ∉ vs → σ[i]? = σ'[i]?) → L2.wipe σ vs = L2.wipe σ' vs := fun {vs} h => by
  have key : ∀ (τ : St) (us : List Nat) (i : Nat), (L2.wipe τ us)[i]? = if i ∈ us then (if i < τ.length then some none else none) else τ[i]? := by
    intro τ us
    induction us with
    | nil => intro i; simp [L2.wipe]
    | cons u us ih =>
      intro i
      unfold L2.wipe
      by_cases q : u = i
      · subst q
        simp only [List.mem_cons, true_or, if_true]
        by_cases z : u < τ.length
        · rw [List.getElem?_set_self (by rw [wipe_length]; exact z), if_pos z]
        · rw [List.getElem?_eq_none (by rw [List.length_set, wipe_length]; omega), if_neg z]
      · rw [List.getElem?_set_ne q, ih]
        have : (i ∈ u :: us) ↔ i ∈ us := by simp only [List.mem_cons]; exact ⟨fun h => h.elim (fun e => absurd e.symm q) id, .inr⟩
        simp only [this]
  apply List.ext_getElem?
  intro i
  rw [key, key, hl]
  by_cases q : i ∈ vs
  · rw [if_pos q, if_pos q]
  · rw [if_neg q, if_neg q]; exact h i q
theorem setS_out : ∀ {ws : List (Nat × V)} {σ : St} {i : Nat}, i ∉ ws.map Prod.fst → (setS σ ws)[i]? = σ[i]?
  | [], _, _, _ => rfl
  | (j, v) :: ws, σ, i, h => by
    simp only [List.map_cons, List.mem_cons, not_or] at h
    show (setS (σ.set j (some v)) ws)[i]? = _
    rw [setS_out h.2, List.getElem?_set_ne (Ne.symm h.1)]
theorem setS_len : ∀ {ws : List (Nat × V)} {σ : St}, (setS σ ws).length = σ.length
  | [], _ => rfl
  | (j, v) :: ws, σ => by
    show (setS (σ.set j (some v)) ws).length = _
    rw [setS_len, List.length_set]
theorem wipe_idem {σ : St} {vs : List Nat} {ws : List (Nat × V)} (h : ∀ i ∈ ws.map Prod.fst, i ∈ vs) : L2.wipe (setS (L2.wipe σ vs) ws) vs = L2.wipe σ vs := by
  have e1 : L2.wipe (setS (L2.wipe σ vs) ws) vs = L2.wipe (L2.wipe σ vs) vs := wipe_get (by rw [setS_len]) fun i hi => setS_out fun z => hi (h i z)
  have e2 : L2.wipe (L2.wipe σ vs) vs = L2.wipe σ vs := wipe_get (by rw [wipe_length]) fun i hi => by
    have key : ∀ (us : List Nat), i ∉ us → (L2.wipe σ us)[i]? = σ[i]? := by
      intro us
      induction us with
      | nil => intro _; rfl
      | cons u us ih =>
        intro hu
        simp only [List.mem_cons, not_or] at hu
        unfold L2.wipe
        rw [List.getElem?_set_ne (Ne.symm hu.1), ih hu.2]
    exact key vs hi
  exact e1.trans e2
def mapC (tgt : Tg) (vs : List Nat) (tt : Se Bool) (te : Se X) (Γ : List Sl) : List D → M (List D)
  | [] => .ret []
  | d :: ds => match tgt.asg d with
    | none => .fail
    | some as => (tt (setG (wipeG Γ vs) as)).bind fun b => if b then (te (setG (wipeG Γ vs) as)).bind fun x => if x.tn then .fail else (mapC tgt vs tt te Γ ds).bind fun r => .ret (x.toD :: r)
        else mapC tgt vs tt te Γ ds
def sLc (fi : Se (Bool × List D)) (tgt : Tg) (vs : List Nat) (tt : Se Bool) (te : Se X) : Se X := fun Γ => (fi Γ).bind fun p => if p.2.length ≤ 100000 then (mapC tgt vs tt te Γ p.2).bind fun r => .ret (.c (.l r)) else .fail
def Tg.slots : Tg → List Nat
  | .n i => [i]
  | .t is => is
theorem Tg.asg_slots {t : Tg} {d : D} {as : List (Nat × D)} (h : t.asg d = some as) : as.map Prod.fst = t.slots := by
  cases t with
  | n i => simp only [Tg.asg, Option.some.injEq] at h; subst h; rfl
  | t is =>
    cases d <;> first | (simp only [Tg.asg] at h; cases h; done) | skip
    simp only [Tg.asg] at h
    split at h
    · cases h; rw [List.map_fst_zip]; rfl; omega
    · cases h
def tYesB : Se Bool := fun _ => .ret true
theorem rdLc {fi : Se (Bool × List D)} {tgt : Tg} {vs : List Nat} {tt : Se Bool} {te : Se X} {σ : St} {H : Hp} {Q : VK} (h0 : ∀ i ∈ vs, g.ok0 i) (hv : ∀ i ∈ tgt.slots, i ∈ vs) (h : rdE g T He (sLc fi tgt vs tt te) σ H Q) : tLc (rdI g T He fi) (rdG g T He tgt) (rdT g T He tt) (rdE g T He te) vs σ H Q := by
  obtain ⟨Γ, S, rl, w⟩ := h
  simp only [sLc, M.wp_bind] at w
  refine ⟨Γ, S, rl, M.wp_mono (fun p w J H1 e1 itc _ D hD => ?_) w⟩
  split at w
  rotate_left
  · exact w.elim
  rename_i hz
  simp only [M.wp_bind, M.wp_ret] at w
  have l1 := rl.mono e1
  have nTS : D ∉ T ++ S := l1.freeTS hD
  have nfd : ∀ p l, g.fd = some (p, l) → D ≠ p := fun p l h z => nTS (z ▸ List.mem_append_left _ (l1.t p l h))
  have ok : ∀ {H2 : Hp}, Ext g.fd H1 H2 → H2 D ≠ none → okC g T S H1 H2 (T ++ (D :: S)) := fun {H2} e hd => ⟨e, (off_free hD).trans (e.off fun p l h => List.mem_append_left _ (l1.t p l h)), fun b hb => by
    rcases List.mem_append.mp hb with z | z
    · exact (l1.mono e).tkT z
    · rcases List.mem_cons.mp z with rfl | z
      · exact hd
      · exact (l1.mono e).tk b z⟩
  refine ⟨fun i m H2 => m = p.2.length - i ∧ i ≤ p.2.length ∧ Ext g.fd H1 H2 ∧ Rl g T He (D :: S) H2 Γ σ ∧ ∃ vacc acc, H2 D = some (.lst vacc) ∧ RpA g (off H2 (T ++ (D :: S))) vacc acc ∧ acc.length ≤ i ∧
      (mapC tgt vs tt te Γ (p.2.drop i)).wp fun r => ∀ v H', Ext g.fd H H' → RpX g T S H H' v (.c (.l (acc ++ r))) → Q v H', ⟨p.2.length, by simp, Nat.zero_le _, l1.ext_new hD, l1.more hD _, [], [], upd_same, .nil, Nat.le_refl _, by simpa using w⟩, ?_⟩
  rintro i m H2 ⟨rfl, hi, e2, l2, vacc, acc, hD2, hacc, hlen, w2⟩
  by_cases hlt : i < p.2.length
  · obtain ⟨d, hd⟩ : ∃ d, p.2[i]? = some d := ⟨p.2[i], by simp [hlt]⟩
    obtain ⟨g1, g2⟩ := itc.go H2 _ (ok e2 (by rw [hD2]; intro z; cases z)) i d hd
    refine .inr ⟨g1, fun H' => Ext g.fd H1 H' ∧ Rl g T He (D :: S) H' Γ σ ∧ ∃ vacc acc, H' D = some (.lst vacc) ∧ RpA g (off H' (T ++ (D :: S))) vacc acc ∧ acc.length ≤ i + 1 ∧
      (mapC tgt vs tt te Γ (p.2.drop (i + 1))).wp fun r => ∀ v H', Ext g.fd H H' → RpX g T S H H' v (.c (.l (acc ++ r))) → Q v H', fun H' h => ⟨p.2.length - (i + 1), by omega, rfl, hlt, h⟩, fun x H3 y => ?_⟩
    obtain ⟨s3, r3⟩ := g2 x H3 y
    have e3 : Ext g.fd H2 H3 := l2.same s3
    have l3 := l2.mono e3
    rw [List.drop_eq_getElem_cons hlt] at w2
    have ed : p.2[i] = d := by rw [List.getElem?_eq_getElem hlt] at hd; exact Option.some.inj hd
    rw [ed] at w2
    simp only [mapC] at w2
    cases ha : tgt.asg d with
    | none => rw [ha] at w2; exact w2.elim
    | some as =>
      rw [ha] at w2
      simp only [M.wp_bind] at w2
      refine ⟨wipeG Γ vs, D :: S, d, as, l3.wipe vs h0, r3, ha, fun ws hws l4 => ⟨wipe_idem fun i hi => hv i (by rw [hws, Tg.asg_slots ha] at hi; exact hi), ?_⟩⟩
      refine ⟨_, D :: S, l4, M.wp_mono (fun b w3 H4 e4 => ?_) w2⟩
      have nD : D ∉ T := fun z => nTS (List.mem_append_left _ z)
      have keep : ∀ {Ha Hb : Hp} {o : HO}, Ext g.fd Ha Hb → Ha D = some o → Hb D = some o := fun e h => e.at l1.t nD h
      have t' : ∀ p l, g.fd = some (p, l) → p ∈ T ++ (D :: S) := fun p l h => List.mem_append_left _ (l1.t p l h)
      cases b with
      | false =>
        simp only [Bool.false_eq_true, ↓reduceIte] at w3 ⊢
        have e24 := e3.trans e4
        exact ⟨e2.trans e24, l2.mono e24, vacc, acc, keep e24 hD2, RpA.mono (e24.off t') _ hacc, by omega, w3⟩
      | true =>
        simp only [↓reduceIte, M.wp_bind] at w3 ⊢
        refine rdE.use (l4.mono e4) (M.wp_mono (fun x w4 y H5 e5 l5 x5 => ?_) w3)
        have e25 := (e3.trans e4).trans e5
        split at w4
        · exact w4.elim
        rename_i htn
        have ry := x5.toD' (by simpa using htn)
        have hD5 := keep e25 hD2
        have hacc5 := RpA.mono (e25.off t') _ hacc
        have mem : D ∈ T ++ (D :: S) := List.mem_append_right _ List.mem_cons_self
        refine ⟨vacc, hD5, Nat.lt_of_le_of_lt (by rw [hacc.length]; omega : vacc.length ≤ 100000) (by decide), ?_, ?_, vacc ++ [y], acc ++ [x.toD], upd_same, by rw [off_upd mem]; exact hacc5.append (.cons ry .nil), by rw [List.length_append]; show acc.length + 1 ≤ i + 1; omega, ?_⟩
        · refine ⟨fun b o n hb => ?_, fun p l hp => ?_⟩
          · have nb : b ≠ D := fun z => by rw [z, hD] at hb; cases hb
            rw [upd_ne nb]
            exact (e2.trans e25).1 b o n hb
          · obtain ⟨ns, i', c, s, q1, q2, q⟩ := (e2.trans e25).2 p l hp
            have nl : l ≠ D := fun z => by
              have := (l1.feed hp).tkl
              rw [z] at this
              exact this hD
            exact ⟨ns, i', c, s, by rw [upd_ne (nfd p l hp).symm]; exact q1, by rw [upd_ne nl]; exact q2, q⟩
        · have l5' := l2.mono e25
          refine ⟨l5'.len, fun j s h => ?_, l5'.ne, fun b hb => ?_, l5'.nw, l5'.ft, l5'.tt, ?_, l5'.s0⟩
          · have q := l5'.sl j s h
            cases s with
            | no => trivial
            | v e => obtain ⟨v, q1, q2⟩ := q; exact ⟨v, q1, by rw [off_upd mem]; exact q2⟩
            | c o' =>
              obtain ⟨a, q1, q2, q3⟩ := q
              have na : a ≠ D := fun z => by
                obtain ⟨a', q1', q2', _⟩ := l1.sl j _ h
                rw [q1] at q1'
                cases q1'
                exact nTS (List.mem_append_right _ (z ▸ q2'))
              exact ⟨a, q1, q2, q3.mono (fun o h => by rw [upd_ne na]; exact h) (by rw [off_upd mem]; exact Same.refl _)⟩
          · by_cases z : b = D
            · rw [z, upd_same]; intro y; cases y
            · rw [upd_ne z]; exact l5'.tk b hb
          · refine ⟨fun b o n hb => ?_, fun p l hp => ?_⟩
            · have nb : b ≠ D := fun z => by
                rw [z, l2.nw D List.mem_cons_self] at hb; cases hb
              rw [upd_ne nb]
              exact l5'.ex.1 b o n hb
            · obtain ⟨ns, i', c, s, q1, q2, q⟩ := (e2.trans e25).2 p l hp
              have nl : l ≠ D := fun z => by
                have := (l1.feed hp).tkl
                rw [z] at this
                exact this hD
              exact ⟨ns, i', c, s, by rw [upd_ne (nfd p l hp).symm]; exact q1, by rw [upd_ne nl]; exact q2, q⟩
        · simp only [M.wp_bind, M.wp_ret] at w4
          refine M.wp_mono (fun r q v H' e h => q v H' e ?_) w4
          rw [List.append_assoc] at h
          exact h
  · have e : i = p.2.length := by omega
    subst e
    refine .inl ⟨itc.stop H2 _ (ok e2 (by rw [hD2]; intro z; cases z)), ?_⟩
    rw [List.drop_length] at w2
    simp only [mapC, M.wp_ret, List.append_nil] at w2
    refine w2 _ H2 (e1.trans e2) ⟨D, rfl, e1.free hD nfd, nTS, vacc, hD2, RpA.mono (off_sub fun b hb => mem_mid.mp hb) _ hacc⟩
theorem ev_lc {elt iter : Expr} {ifs : List Expr} {scope : Scope} {own : List (Str × Nat)} {fi : Se (Bool × List D)} {tgt : Tg} {tt : Se Bool} {te : Se X} (hc : Z.calm = true) (hN : Z.N.Nodup) (hi : EI Z g T He tg iter fi) (ok : BlkOk Z.N Z.env.scope scope own) (h0 : ∀ i ∈ own.map (·.2), g.ok0 i) (hv : ∀ i ∈ tgt.slots, i ∈ own.map (·.2))
    (hg : ∀ (s : Shared) (H : Hp) (C : Addr) (cl : List (Str × Addr)) (fp : List Addr), EG (Z.blk s H scope (compEnvC scope cl C Z.env) fp) g T He tg tgt) (ht : ∀ (s : Shared) (H : Hp) (C : Addr) (cl : List (Str × Addr)) (fp : List Addr), PTs (Z.blk s H scope (compEnvC scope cl C Z.env) fp) ifs (rdT g T He tt))
    (he : ∀ (s : Shared) (H : Hp) (C : Addr) (cl : List (Str × Addr)) (fp : List Addr), EV (Z.blk s H scope (compEnvC scope cl C Z.env) fp) g T He elt te) (hs : ∀ x, foldedSetIterable iter Z.env x = pure x := by intro _; rfl) :
    EV Z g T He (.ListComp elt [⟨tg, iter, ifs, 0⟩] scope pos) (sLc fi tgt (own.map (·.2)) tt te) :=
  pe_w (pe_lc hc hN hi ok hg ht he hs) fun _ _ _ h => rdLc h0 hv h
theorem ets_nil : PTs Z [] (rdT g T He tYesB) := ⟨fun pins s σ H Q I ⟨Γ, S, rl, w⟩ => pts_nil.run pins s σ H Q I (w H rl.fok.refl)⟩
theorem ets_one {c : Expr} {t : Se Bool} (h : EB Z g T He c t) : PTs Z [c] (rdT g T He t) := pts_one h
end
end G
namespace G
open PySem PySem.Spec L2
open PyProof.Rows hiding St
/-! ### statements -/
inductive Fl where
  | nx | bk | ct | rt (z : R)
abbrev Sst := List Sl → M (Fl × List Sl)
def FrS (T S : List Addr) (H : Hp) (S' : List Addr) (H' : Hp) : Prop := Same (off H (T ++ S)) (off H' (T ++ S'))
def SPost (g : Cf) (T : List Addr) (He : Hp) (D : Ends) (S : List Addr) (H : Hp) (p : Fl × List Sl) : Prop :=
  match p.1 with
  | .nx => ∀ σ' S' H', Rl g T He S' H' p.2 σ' → FrS T S H S' H' → D.nx σ' H'
  | .bk => ∀ σ' S' H', Rl g T He S' H' p.2 σ' → FrS T S H S' H' → D.bk σ' H'
  | .ct => ∀ σ' S' H', Rl g T He S' H' p.2 σ' → FrS T S H S' H' → D.ct σ' H'
  | .rt z => ∀ v H', Ext g.fd He H' → RpR g T He H' v z → D.rt v H'
def rdS (g : Cf) (T : List Addr) (He : Hp) (f : Sst) : L2.TS := fun D σ H => ∃ Γ S, Rl g T He S H Γ σ ∧ (f Γ).wp (SPost g T He D S H)
abbrev ES (Z : Cx) (g : Cf) (T : List Addr) (He : Hp) (st : Stmt) (f : Sst) : Prop := PS Z st (rdS g T He f)
abbrev ESs (Z : Cx) (g : Cf) (T : List Addr) (He : Hp) (st : List Stmt) (f : Sst) : Prop := PSs Z st (rdS g T He f)
theorem ps_w {Z : Cx} {st : Stmt} {t t' : L2.TS} (h : PS Z st t) (k : ∀ D σ H, t' D σ H → t D σ H) : PS Z st t' := ⟨fun pins s σ H D I q => h.run pins s σ H D I (k _ _ _ q)⟩
theorem pss_w {Z : Cx} {st : List Stmt} {t t' : L2.TS} (h : PSs Z st t) (k : ∀ D σ H, t' D σ H → t D σ H) : PSs Z st t' := ⟨fun pins s σ H D I q => h.run pins s σ H D I (k _ _ _ q)⟩
/-- effects: a value and the names behind it -/
abbrev Sx := List Sl → M (D × List Sl)
def rdX (g : Cf) (T : List Addr) (He : Hp) (f : Sx) : TE := fun σ H Q => ∃ Γ S, Rl g T He S H Γ σ ∧ (f Γ).wp fun p => ∀ v H', Rl g T He S H' p.2 σ → FrS T S H S H' → Rp g (off H' (T ++ S)) v p.1 → Q v H'
abbrev EX (Z : Cx) (g : Cf) (T : List Addr) (He : Hp) (e : Expr) (f : Sx) : Prop := PE Z e (rdX g T He f)
def sSkip : Sst := fun Γ => .ret (.nx, Γ)
def sSeq (f1 f2 : Sst) : Sst := fun Γ => (f1 Γ).bind fun p => match p.1 with | .nx => f2 p.2 | _ => .ret p
def sIfS (t : Se Bool) (f1 f2 : Sst) : Sst := fun Γ => (t Γ).bind fun b => if b then f1 Γ else f2 Γ
def X.ret : X → R
  | .p d => .dt d
  | .c o => .nw o
  | .b o => .nw o
  | .t d => .dt d
def sRet (f : Se X) : Sst := fun Γ => (f Γ).bind fun x => .ret (.rt x.ret, Γ)
section
variable {Z : Cx} {g : Cf} {T : List Addr} {He : Hp} {a b c : Expr} {f1 f2 f3 : Se X} {fs : Se (List X)} {pos p2 : Pos} {st : Stmt} {rest : List Stmt} {u1 u2 : Sst}
theorem FrS.refl {S : List Addr} {H : Hp} : FrS T S H S H := Same.refl _
theorem FrS.trans {S S1 S2 : List Addr} {H H1 H2 : Hp} (a : FrS T S H S1 H1) (b : FrS T S1 H1 S2 H2) : FrS T S H S2 H2 := Same.trans a b
theorem Rl.frs {S : List Addr} {H H1 : Hp} {Γ : List Sl} {σ : St} (r : Rl g T He S H Γ σ) (e : Ext g.fd H H1) : FrS T S H S H1 := e.off fun p l h => List.mem_append_left _ (r.t p l h)
theorem SPost.from {D : Ends} {S S1 : List Addr} {H H1 : Hp} (f : FrS T S H S1 H1) {p : Fl × List Sl} (h : SPost g T He D S H p) : SPost g T He D S1 H1 p := by
  obtain ⟨fl, Γ⟩ := p
  cases fl with
  | nx => exact fun σ' S' H' r q => h σ' S' H' r (f.trans q)
  | bk => exact fun σ' S' H' r q => h σ' S' H' r (f.trans q)
  | ct => exact fun σ' S' H' r q => h σ' S' H' r (f.trans q)
  | rt z => exact h
theorem es_nil : ESs Z g T He [] sSkip := pss_w pss_nil fun D σ H ⟨Γ, S, rl, w⟩ => w σ S H rl FrS.refl
theorem es_cons (h1 : ES Z g T He st u1) (h2 : ESs Z g T He rest u2) : ESs Z g T He (st :: rest) (sSeq u1 u2) :=
  pss_w (pss_cons h1 h2) fun D σ H ⟨Γ, S, rl, w⟩ => by
    simp only [sSeq, M.wp_bind] at w
    refine ⟨Γ, S, rl, M.wp_mono (fun p w => ?_) w⟩
    obtain ⟨fl, Γ1⟩ := p
    cases fl with
    | nx => exact fun σ' S' H' r q => ⟨Γ1, S', r, M.wp_mono (fun p h => h.from q) w⟩
    | bk => exact w
    | ct => exact w
    | rt z => exact w
theorem es_one (h1 : ES Z g T He st u1) : ESs Z g T He [st] u1 := pss_one h1
theorem es_if {bd el : List Stmt} {t : Se Bool} (hc : EB Z g T He c t) (ha : ESs Z g T He bd u1) (hb : ESs Z g T He el u2) : ES Z g T He (.If c bd el pos) (sIfS t u1 u2) :=
  ps_w (ps_if hc ha hb) fun D σ H ⟨Γ, S, rl, w⟩ => by
    simp only [sIfS, M.wp_bind] at w
    refine rdT.use rl (M.wp_mono (fun x w H1 e1 l1 => ?_) w)
    cases x with
    | true => simp only [↓reduceIte] at w ⊢; exact ⟨Γ, S, l1, M.wp_mono (fun p h => h.from (rl.frs e1)) w⟩
    | false => simp only [Bool.false_eq_true, ↓reduceIte] at w ⊢; exact ⟨Γ, S, l1, M.wp_mono (fun p h => h.from (rl.frs e1)) w⟩
theorem RpX.ret {S : List Addr} {H H1 : Hp} {Γ : List Sl} {σ : St} {v : V} {x : X} (l : Rl g T He S H Γ σ) (r : RpX g T S H H1 v x) : RpR g T He H1 v x.ret := by
  cases x with
  | p d => exact off_off (fun b h => List.mem_append_left _ h) r
  | c o =>
    obtain ⟨a, rfl, h0, n, r⟩ := r
    have ha : He a = none := l.ex.free h0 fun p l' h z => n (by rw [z]; exact List.mem_append_left _ (l.t p l' h))
    exact ⟨a, rfl, ha, fun z => n (List.mem_append_left _ z), r.sub fun b hb => by
      rcases List.mem_cons.mp hb with rfl | hb
      · exact List.mem_cons_self
      · exact List.mem_cons_of_mem _ (List.mem_append_left _ hb)⟩
  | b o =>
    obtain ⟨a, rfl, m, n, r⟩ := r
    exact ⟨a, rfl, l.nw a m, n, r.sub fun b hb => by
      rcases List.mem_cons.mp hb with rfl | hb
      · exact List.mem_append_right _ m
      · exact List.mem_append_left _ hb⟩
  | t d => exact r
theorem es_ret (he : EV Z g T He a f1) : ES Z g T He (.Return (some a) pos) (sRet f1) :=
  ps_w (ps_ret he) fun D σ H ⟨Γ, S, rl, w⟩ => by
    simp only [sRet, M.wp_bind, M.wp_ret] at w
    exact rdE.use rl (M.wp_mono (fun x w v H1 e1 l1 x1 => w v H1 (rl.ex.trans e1) (x1.ret rl)) w)
theorem es_doc {x : Str} {j : _} {pos' : Pos} : ES Z g T He (.Expr (.Constant (.str x) j pos) pos') sSkip := ps_w ps_doc fun D σ H ⟨Γ, S, rl, w⟩ => w σ S H rl FrS.refl
theorem es_pass : ES Z g T He (.Pass pos) sSkip := ps_w ps_pass fun D σ H ⟨Γ, S, rl, w⟩ => w σ S H rl FrS.refl
theorem es_break : ES Z g T He (.Break pos) (fun Γ => .ret (.bk, Γ)) := ps_w ps_break fun D σ H ⟨Γ, S, rl, w⟩ => w σ S H rl FrS.refl
theorem es_continue : ES Z g T He (.Continue pos) (fun Γ => .ret (.ct, Γ)) := ps_w ps_continue fun D σ H ⟨Γ, S, rl, w⟩ => w σ S H rl FrS.refl
def sNev : Sst := fun _ => .fail
theorem es_never : ES Z g T He st sNev := ps_w ps_never fun D σ H ⟨Γ, S, rl, w⟩ => w
/-- an expression for what it does (a call) -/
def sDrop (f : Se X) : Sst := fun Γ => (f Γ).bind fun _ => .ret (.nx, Γ)
theorem es_expr (he : EV Z g T He a f1) (hs : swapsWith a none pos.line Z.env = pure false := by rfl) : ES Z g T He (.Expr a pos) (sDrop f1) :=
  ps_w (ps_expr he hs) fun D σ H ⟨Γ, S, rl, w⟩ => by
    simp only [sDrop, M.wp_bind, M.wp_ret] at w
    exact rdE.use rl (M.wp_mono (fun x w v H1 e1 l1 x1 => w σ S H1 l1 (rl.frs e1)) w)
/-! ### assignments -/
def asgX (keep : Bool) (i : Nat) (x : X) (Γ : List Sl) : M (List Sl) :=
  match x with
  | .p d => .ret (Γ.set i (.v d))
  | .c o => .ret (Γ.set i (if keep then .c o else .v o.toD))
  | _ => .fail
def sAsg (keep : Bool) (i : Nat) (f : Se X) : Sst := fun Γ => (f Γ).bind fun x => (asgX keep i x Γ).bind fun Γ' => .ret (.nx, Γ')
theorem asgX_use {keep : Bool} {i : Nat} {x : X} {S : List Addr} {H H1 : Hp} {Γ : List Sl} {σ : St} {v : V} {D : Ends} (h0 : g.ok0 i) (rl : Rl g T He S H Γ σ) (e1 : Ext g.fd H H1) (x1 : RpX g T S H H1 v x)
    (w : ((asgX keep i x Γ).bind fun Γ' => M.ret (Fl.nx, Γ')).wp (SPost g T He D S H)) : D.nx (σ.set i (some v)) H1 := by
  have l1 := rl.mono e1
  cases x with
  | b o => exact w.elim
  | t d => exact w.elim
  | p d => exact w _ S H1 (l1.set_v h0 x1) (rl.frs e1)
  | c o =>
    cases keep with
    | false => exact w _ S H1 (l1.set_v h0 (x1.toD' rfl)) (rl.frs e1)
    | true =>
      obtain ⟨ad, rfl, hn, n, r⟩ := x1
      exact w _ (ad :: S) H1 (rl.set_c h0 e1 hn r) ((off_free hn).trans (e1.off fun p l h => List.mem_append_left _ (rl.t p l h)))
theorem es_set {keep : Bool} {i : Nat} {x : Str} {e : Expr} {pos' : Pos} (h0 : g.ok0 i) (hN : Z.N.Nodup) (hi : Z.N[i]? = some x) (hx : Loc Z.env.scope x) (he : EV Z g T He e f1) (hs : swapsWith e (some (.Name x pos')) pos.line Z.env = pure false := by rfl) (hf : Z.fn x = true ∨ Z.env.scope.names.lookup x = some .local := by first | exact .inl rfl | exact .inr rfl | assumption) :
    ES Z g T He (.Assign [.Name x pos'] e pos) (sAsg keep i f1) :=
  ps_w (ps_set hN hi hx he hs hf) fun D σ H ⟨Γ, S, rl, w⟩ => by
    simp only [sAsg, M.wp_bind] at w
    exact rdE.use rl (M.wp_mono (fun x w v H1 e1 l1 x1 => asgX_use h0 rl e1 x1 (M.wp_bind.mpr w)) w)
/-- name = [..] on one line -/
theorem es_setLc {keep : Bool} {i : Nat} {y : Str} {py : Pos} {elt tg iter : Expr} {ifs : List Expr} {scope : Scope} {own : List (Str × Nat)} {spos : Pos} {fi : Se (Bool × List D)} {tgt : Tg} {tt : Se Bool} {te : Se X} (h0 : g.ok0 i) (hc : Z.calm = true) (hN : Z.N.Nodup) (hy : Z.N[i]? = some y) (hyl : Z.env.scope.names.lookup y = some .local)
    (hsw : swapsWith (.ListComp elt [⟨tg, iter, ifs, 0⟩] scope pos) (some (.Name y py)) spos.line Z.env = pure true) (hi : EI Z g T He tg iter fi) (ok : BlkOk Z.N Z.env.scope scope own) (h00 : ∀ i ∈ own.map (·.2), g.ok0 i) (hv : ∀ i ∈ tgt.slots, i ∈ own.map (·.2))
    (hg : ∀ (s : Shared) (H : Hp) (C : Addr) (cl : List (Str × Addr)) (fp : List Addr), EG (Z.blk s H scope (compEnvC scope cl C Z.env) fp) g T He tg tgt) (ht : ∀ (s : Shared) (H : Hp) (C : Addr) (cl : List (Str × Addr)) (fp : List Addr), PTs (Z.blk s H scope (compEnvC scope cl C Z.env) fp) ifs (rdT g T He tt))
    (he : ∀ (s : Shared) (H : Hp) (C : Addr) (cl : List (Str × Addr)) (fp : List Addr), EV (Z.blk s H scope (compEnvC scope cl C Z.env) fp) g T He elt te) (hs : ∀ x, foldedSetIterable iter Z.env x = pure x := by intro _; rfl) :
    ES Z g T He (.Assign [.Name y py] (.ListComp elt [⟨tg, iter, ifs, 0⟩] scope pos) spos) (sAsg keep i (sLc fi tgt (own.map (·.2)) tt te)) :=
  ps_w (ps_setLc hc hN hy hyl hsw hi ok hg ht he hs) fun D σ H ⟨Γ, S, rl, w⟩ => by
    simp only [sAsg, M.wp_bind] at w
    exact rdLc h00 hv (rdE.use rl (M.wp_mono (fun x w v H1 e1 l1 x1 => asgX_use h0 rl e1 x1 (M.wp_bind.mpr w)) w))
def X.fz (x : X) : M D := if x.tn then .fail else .ret x.toD
def sAsgT (tgt : Tg) (f : Se X) : Sst := fun Γ => (f Γ).bind fun x => x.fz.bind fun d => match tgt.asg d with | some as => .ret (.nx, setG Γ as) | none => .fail
theorem RpX.fz {S : List Addr} {H0 H : Hp} {v : V} {x : X} {P : D → Prop} (r : RpX g T S H0 H v x) (w : x.fz.wp P) : Rp g (off H (T ++ S)) v x.toD ∧ P x.toD := by
  unfold X.fz at w
  split at w
  · exact w.elim
  · rename_i h; exact ⟨r.toD' (by simpa using h), w⟩
theorem es_setT {tg e : Expr} {tgt : Tg} (he : EV Z g T He e f1) (hg : EG Z g T He tg tgt) (hs : swapsWithSole [tg] e pos.line Z.env = pure false := by rfl) (hw : swappedStores [tg] e Z.env = pure none := by rfl)
    (h1 : (assignEach [tg] Z.env).map (·.2) = [assign tg Z.env] := by rfl) : ES Z g T He (.Assign [tg] e pos) (sAsgT tgt f1) :=
  ps_w (ps_asg he hg hs hw h1) fun D σ H ⟨Γ, S, rl, w⟩ => by
    simp only [sAsgT, M.wp_bind] at w
    refine rdE.use rl (M.wp_mono (fun x w v H1 e1 l1 x1 => ?_) w)
    obtain ⟨r, w⟩ := x1.fz w
    cases ha : tgt.asg x.toD with
    | none => rw [ha] at w; exact w.elim
    | some as =>
      rw [ha] at w
      exact ⟨Γ, S, _, as, l1, r, ha, fun ws _ l2 => w _ S H1 l2 (rl.frs e1)⟩
def sPar (i j : Nat) (fs : Se (List X)) : Sst := fun Γ => (fs Γ).bind fun xs => match xs with
  | [x, y] => x.fz.bind fun d => y.fz.bind fun e => .ret (.nx, (Γ.set i (.v d)).set j (.v e))
  | _ => .fail
theorem es_par {i j : Nat} {x y : Str} {px py pt : Pos} {kt k2 pt2} (h0 : g.ok0 i) (h0' : g.ok0 j) (hc : Z.calm = true) (hN : Z.N.Nodup) (hi : Z.N[i]? = some x) (hj : Z.N[j]? = some y) (hij : i ≠ j)
    (hx : Z.env.scope.names.lookup x = some .local) (hy : Z.env.scope.names.lookup y = some .local) (ha : EA Z g T He [a, b] fs)
    (hw : swappedStores [.Tuple [.Name x px, .Name y py] kt pt] (.Tuple [a, b] k2 pt2) Z.env = pure (some [x, y]))
    (hs : swapsWithSole [.Tuple [.Name x px, .Name y py] kt pt] (.Tuple [a, b] k2 pt2) pos.line Z.env = pure false := by rfl) :
    ES Z g T He (.Assign [.Tuple [.Name x px, .Name y py] kt pt] (.Tuple [a, b] k2 pt2) pos) (sPar i j fs) :=
  ps_w (ps_par hc hN hi hj hij hx hy ha hw hs) fun D σ H ⟨Γ, S, rl, w⟩ => by
    simp only [sPar, M.wp_bind] at w
    refine rdA.use rl (M.wp_mono (fun xs w vs H1 e1 l1 xx => ?_) w)
    split at w <;> first | exact w.elim | skip
    cases xx with
    | cons h t =>
      cases t with
      | cons h2 t =>
        cases t
        simp only [M.wp_bind, M.wp_ret] at w
        obtain ⟨r1, w⟩ := h.fz w
        obtain ⟨r2, w⟩ := h2.fz w
        exact ⟨_, _, rfl, w _ S H1 ((l1.set_v h0 r1).set_v h0' r2) (rl.frs e1)⟩
def sAug (i : Nat) (sem : D → D → M R) (f : Se X) : Sst := fun Γ => match Γ[i]? with
  | some (.v d) => (f Γ).bind fun y => (sem d y.toD).bind fun z => (asgX false i (z.fin y.tt) Γ).bind fun Γ' => .ret (.nx, Γ')
  | _ => .fail
theorem es_aug {i : Nat} {x : Str} {e : Expr} {op : Operator} {sem : D → D → M R} {r : R2} {pos' : Pos} (h0 : g.ok0 i) (hN : Z.N.Nodup) (hi : Z.N[i]? = some x) (hx : Loc Z.env.scope x) (he : EV Z g T He e f1) (ho : PIp Z op r) (hp : Pr2 g r sem) (hf : Z.fn x = true ∨ Z.env.scope.names.lookup x = some .local := by first | exact .inl rfl | exact .inr rfl | assumption) :
    ES Z g T He (.AugAssign (.Name x pos') op e pos) (sAug i sem f1) :=
  ps_w (ps_aug hN hi hx he ho hf) fun D σ H ⟨Γ, S, rl, w⟩ => by
    unfold sAug at w
    split at w <;> first | exact w.elim | skip
    rename_i d hd
    obtain ⟨v, h1, h2⟩ := rl.sl i _ hd
    refine ⟨v, join_some h1, ?_⟩
    simp only [M.wp_bind] at w
    refine rdE.use rl (M.wp_mono (fun y w v2 H2 e2 l2 x2 => ?_) w)
    have sub : ∀ b ∈ TS T S y.tt, b ∈ T ++ S := fun b hb => by
      cases h : y.tt
      · rw [h] at hb; exact hb
      · rw [h] at hb; exact List.mem_append_left _ hb
    refine hp (TS T S y.tt) H2 v v2 d y.toD _ (l2.fokB _) (.of (off_off sub (h2.mono (rl.frs e2)))) (x2.r1 fun h => h) (M.wp_mono (fun z w v H' e h => ?_) w)
    exact asgX_use h0 rl (e2.trans e) (h.fin.early e2 l2.t) (M.wp_bind.mpr w)
def incD : D → D → M R
  | .int i, .int j => .ret (.at (.int (i + j)))
  | _, _ => .fail
def decD : D → D → M R
  | .int i, .int j => .ret (.at (.int (i - j)))
  | _, _ => .fail
theorem pr_inc : Pr2 g (ipI fun i j => i + j) incD := fun T H v1 v2 d1 d2 Q f r1 r2 w => by
  cases d1 <;> cases d2 <;> first | exact w.elim | exact ⟨_, _, r1.int, r2.int, w _ H f.refl (.int _)⟩
theorem pr_dec : Pr2 g (ipI fun i j => i - j) decD := fun T H v1 v2 d1 d2 Q f r1 r2 w => by
  cases d1 <;> cases d2 <;> first | exact w.elim | exact ⟨_, _, r1.int, r2.int, w _ H f.refl (.int _)⟩
/-! ### an attribute stored on an own instance -/
def putD (k : Nat) (d : D) (fs : List D) : List D := if k < fs.length then fs.set k d else fs ++ [d]
theorem putF_fst {f : Str} {v : V} : ∀ {fv : List (Str × V)}, f ∉ fv.map Prod.fst → putF f v fv = fv ++ [(f, v)]
  | [], _ => rfl
  | (n, u) :: r, h => by
    simp only [List.map_cons, List.mem_cons, not_or] at h
    unfold putF
    rw [if_neg (Ne.symm h.1), putF_fst h.2]; rfl
theorem putF_at {f : Str} {v : V} : ∀ {fv : List (Str × V)} {k : Nat}, (fv.map Prod.fst).Nodup → (fv.map Prod.fst)[k]? = some f → putF f v fv = fv.set k (f, v)
  | [], _, _, h => by simp at h
  | (n, u) :: r, 0, _, h => by
    simp only [List.map_cons, List.getElem?_cons_zero, Option.some.injEq] at h
    unfold putF
    rw [if_pos h, h]; rfl
  | (n, u) :: r, k + 1, nd, h => by
    simp only [List.map_cons, List.getElem?_cons_succ, List.nodup_cons] at h nd
    unfold putF
    have : n ≠ f := fun e => nd.1 (e ▸ List.mem_of_getElem? h)
    rw [if_neg this, putF_at nd.2 h]; rfl
theorem FvOk.put {C : Nat} {fv : List (Str × V)} {f : Str} {v : V} {k : Nat} {fs : List D} {d : D} {H : Hp} (h : FvOk g C fv) (hi : (g.fl C)[k]? = some f) (nd : (g.fl C).Nodup) (hk : k ≤ fv.length) (r : RpA g H (fv.map Prod.snd) fs) (rd : Rp g H v d) :
    FvOk g C (putF f v fv) ∧ RpA g H ((putF f v fv).map Prod.snd) (putD k d fs) ∧ (putF f v fv).length ≤ fv.length + 1 := by
  have hl : fs.length = fv.length := by rw [← r.length, List.length_map]
  have h' : fv.map Prod.fst = (g.fl C).take fv.length := h
  have ndf : (fv.map Prod.fst).Nodup := by rw [h']; exact nd.sublist (List.take_sublist _ _)
  by_cases q : k < fv.length
  · have hg : (fv.map Prod.fst)[k]? = some f := by rw [h', List.getElem?_take, if_pos q]; exact hi
    rw [putF_at ndf hg]
    refine ⟨?_, ?_, by rw [List.length_set]; omega⟩
    · unfold FvOk
      rw [List.length_set, List.map_set, h']
      apply List.ext_getElem?
      intro j
      by_cases z : k = j
      · subst z
        rw [List.getElem?_set_self (by rw [List.length_take]; have := (List.getElem?_eq_some_iff.mp hi).1; omega), List.getElem?_take, if_pos q, hi]
      · rw [List.getElem?_set_ne z]
    · rw [List.map_set]
      unfold putD
      rw [if_pos (by omega)]
      exact r.set rd k
  · have e : k = fv.length := by omega
    have hn : f ∉ fv.map Prod.fst := fun hm => by
      rw [h'] at hm
      obtain ⟨j, hj⟩ := List.mem_iff_getElem?.mp hm
      rw [List.getElem?_take] at hj
      split at hj
      · rename_i hjl
        obtain ⟨j1, j2⟩ := List.getElem?_eq_some_iff.mp hj
        obtain ⟨k1, k2⟩ := List.getElem?_eq_some_iff.mp hi
        have : j = k := (List.getElem_inj nd).mp (j2.trans k2.symm)
        omega
      · cases hj
    rw [putF_fst hn]
    refine ⟨?_, ?_, by rw [List.length_append]; exact Nat.le_refl _⟩
    · unfold FvOk
      rw [List.map_append, h', List.length_append, ← e]
      show (g.fl C).take k ++ [f] = (g.fl C).take (k + 1)
      rw [List.take_succ, hi]; rfl
    · rw [List.map_append]
      unfold putD
      rw [if_neg (by omega)]
      exact r.append (.cons rd .nil)
/-- name.f = e, the name's an own instance -/
def sStF (ix : Nat → Option Nat) (i : Nat) (f : Se X) : Sst := fun Γ => (f Γ).bind fun x => x.fz.bind fun d => match Γ[i]? with
  | some (.c (.i C fs)) => match ix C with
    | some k => if k ≤ fs.length ∧ fs.length < 100 then .ret (.nx, Γ.set i (.c (.i C (putD k d fs)))) else .fail
    | none => .fail
  | _ => .fail
theorem es_stf {i : Nat} {x : Str} {e : Expr} {f : Str} {ix : Nat → Option Nat} {px pos' : Pos} (hK : Z.K = g.K) (ok : FlOk g f ix) (hN : Z.N[i]? = some x) (hv : Vis Z.env.scope x) (he : EV Z g T He e f1)
    (hs : swapsWith e (some (.Attribute (.Name x px) f pos')) pos.line Z.env = pure false := by rfl) (hd : (x == ("__debug__" : Str)) = false := by decide) (hcd : (x == ("__classdict__" : Str)) = false := by decide) : ES Z g T He (.Assign [.Attribute (.Name x px) f pos'] e pos) (sStF ix i f1) :=
  ps_w (ps_fld (pe_var hN hv hd hcd) he hs) fun D σ H ⟨Γ, S, rl, w⟩ => by
    simp only [sStF, M.wp_bind] at w
    refine rdE.use rl (M.wp_mono (fun x w v H1 e1 l1 x1 => ?_) w)
    obtain ⟨r, w⟩ := x1.fz w
    split at w <;> first | exact w.elim | skip
    rename_i C fs hi
    split at w <;> first | exact w.elim | skip
    rename_i k hk
    split at w <;> first | exact w.elim | skip
    rename_i hl
    obtain ⟨a, h1, h2, dx, fv, h3, hf, h4⟩ := l1.sl i _ hi
    obtain ⟨o1, o2, o3, o4⟩ := ok.ok C k hk
    have hfl : fs.length = fv.length := by rw [← h4.length, List.length_map]
    refine ⟨_, join_some h1, a, _, dx, fv, rfl, h3, hK ▸ o1, hK ▸ o2, by omega, ?_⟩
    obtain ⟨q1, q2, q3⟩ := hf.put o3 o4 (by omega) h4 r
    have mem : a ∈ T ++ S := List.mem_append_right _ h2
    refine w σ S _ (l1.put hi (join_some h1) ⟨dx, _, upd_same, q1, by rw [off_upd mem]; exact q2⟩) ?_
    exact (rl.frs e1).trans (by unfold FrS; rw [off_upd mem]; exact Same.refl _)
/-! ### effects -/
def xPure (f : Se X) : Sx := fun Γ => (f Γ).bind fun x => x.fz.bind fun d => .ret (d, Γ)
theorem ex_pure {e : Expr} (h : EV Z g T He e f1) : EX Z g T He e (xPure f1) :=
  pe_w h fun σ H Q ⟨Γ, S, rl, w⟩ => by
    simp only [xPure, M.wp_bind, M.wp_ret] at w
    refine rdE.use rl (M.wp_mono (fun x w v H1 e1 l1 x1 => ?_) w)
    obtain ⟨r, w⟩ := x1.fz w
    exact w v H1 l1 (rl.frs e1) r
def popL (ds : List D) (i : Nat) (Γ : List Sl) : D → M (D × List Sl)
  | .int j => match ixN ds.length j with
    | some k => match ds[k]? with
      | some d => .ret (d, Γ.set i (.c (.l (ds.eraseIdx k))))
      | none => .fail
    | none => .fail
  | _ => .fail
def xPop (i : Nat) (f : Se X) : Sx := fun Γ => match Γ[i]? with
  | some (.c (.l ds)) => if ds.length ≤ 100000 then (f Γ).bind fun x => popL ds i Γ x.toD else .fail
  | _ => .fail
def xPop0 (i : Nat) : Sx := fun Γ => match Γ[i]? with
  | some (.c (.l ds)) => match ds[ds.length - 1]? with
      | some d => .ret (d, Γ.set i (.c (.l ds.dropLast)))
      | none => .fail
  | _ => .fail
theorem ixN_bd {n : Nat} {i : Int} {j : Nat} (h : ixN n i = some j) (hn : n ≤ 100000) : -(2 ^ 63) ≤ i ∧ i < 2 ^ 63 := by
  obtain ⟨_, _, h1, h2⟩ := ixN_seq h
  omega
theorem Rl.frsPut {S : List Addr} {H : Hp} {Γ : List Sl} {σ : St} {i : Nat} {a : Addr} {o : O} {u : HO} (r : Rl g T He S H Γ σ) (h1 : Γ[i]? = some (.c o)) (h2 : σ[i]? = some (some (.ref a))) : FrS T S H S (upd H a u) ∧ a ∈ T ++ S := by
  obtain ⟨b, h3, h4, _⟩ := r.sl i _ h1
  rw [h2] at h3
  cases h3
  have mem : a ∈ T ++ S := List.mem_append_right _ h4
  exact ⟨by unfold FrS; rw [off_upd mem]; exact Same.refl _, mem⟩
theorem ex_pop {i : Nat} {x : Str} {e : Expr} {px apos cpos : Pos} (hN : Z.N[i]? = some x) (hv : Vis Z.env.scope x) (he : EV Z g T He e f1)
    (hd : (x == ("__debug__" : Str)) = false := by decide) (hcd : (x == ("__classdict__" : Str)) = false := by decide)
    (hbase : attributeBase (.Name x px) "pop" Z.env (eval (.Name x px) Z.env) = eval (.Name x px) Z.env := by rfl)
    (hfew : ((backTo cpos (starEach [e] Z.env)).all (fun x => !x.1) && (backToKw cpos (keywordEach [] Z.env)).all (fun x => x.1.isSome)
      && decide (([e] : List Expr).length + ([] : List Keyword).length + (if ([] : List Keyword).isEmpty then 0 else 1) < 30)) = true := by rfl)
    (hline : (apos.endLine == cpos.line) = true := by rfl) (hs : starEach [e] Z.env = (false, eval e Z.env) :: starEach [] Z.env := by rfl) (hplain : (backTo cpos (starEach [] Z.env)).any (·.1) = false := by rfl) :
    EX Z g T He (.Call (.Attribute (.Name x px) "pop" apos) [e] [] cpos) (xPop i f1) :=
  pe_w (pe_bm PySem.F.plainAttrs_list PySem.F.slot_list_pop PySem.F.type_list_pop mt_popAt (pe_var hN hv hd hcd) (pa_cons he pa_nil hs) hbase hfew hline hs hplain) fun σ H Q ⟨Γ, S, rl, w⟩ => by
    unfold xPop at w
    split at w <;> first | exact w.elim | skip
    rename_i ds hi
    split at w <;> first | exact w.elim | skip
    rename_i hz
    obtain ⟨a, h1, h2, vs, h3, h4⟩ := rl.sl i _ hi
    refine ⟨_, join_some h1, .inl ⟨rfl, _, SqL.of h3⟩, ?_⟩
    simp only [M.wp_bind] at w
    refine rdE.use rl (M.wp_mono (fun x w v H1 e1 l1 x1 => ?_) w)
    have q := x1.on
    cases hx : x.toD <;> rw [hx] at w q <;> first | exact w.elim | skip
    rename_i j
    cases q
    unfold popL at w
    simp only at w
    split at w <;> first | exact w.elim | skip
    rename_i k hk
    split at w <;> first | exact w.elim | skip
    rename_i d hd
    obtain ⟨a', h1', h2', vs', h3', h4'⟩ := l1.sl i _ hi
    rw [h1] at h1'
    cases h1'
    obtain ⟨u, hu, ru⟩ := h4'.get hd
    obtain ⟨b1, b2⟩ := ixN_bd hk hz
    obtain ⟨fr, mem⟩ := l1.frsPut (u := .lst (vs'.eraseIdx k)) hi (join_some h1)
    refine ⟨a, vs', j, k, u, rfl, rfl, h3', b1, b2, by rw [h4'.length]; exact (ixN_seq hk).1, hu, ?_⟩
    refine w u _ (l1.put hi (join_some h1) ⟨_, upd_same, by rw [off_upd mem]; exact h4'.eraseIdx k⟩) ((rl.frs e1).trans fr) ?_
    rw [off_upd mem]
    exact ru
theorem RpA.dropLast {H : Hp} {vs : List V} {ds : List D} (r : RpA g H vs ds) : RpA g H vs.dropLast ds.dropLast := by
  rw [List.dropLast_eq_take, List.dropLast_eq_take, r.length]
  exact r.take _
theorem ex_pop0 {i : Nat} {x : Str} {px apos cpos : Pos} (hN : Z.N[i]? = some x) (hv : Vis Z.env.scope x) (hd : (x == ("__debug__" : Str)) = false := by decide) (hcd : (x == ("__classdict__" : Str)) = false := by decide)
    (hbase : attributeBase (.Name x px) "pop" Z.env (eval (.Name x px) Z.env) = eval (.Name x px) Z.env := by rfl) (hline : (apos.endLine == cpos.line) = true := by rfl) :
    EX Z g T He (.Call (.Attribute (.Name x px) "pop" apos) [] [] cpos) (xPop0 i) :=
  pe_w (pe_bm0 PySem.F.plainAttrs_list PySem.F.slot_list_pop PySem.F.type_list_pop mt_pop (pe_var hN hv hd hcd) hbase hline) fun σ H Q ⟨Γ, S, rl, w⟩ => by
    unfold xPop0 at w
    split at w <;> first | exact w.elim | skip
    rename_i ds hi
    split at w <;> first | exact w.elim | skip
    rename_i d hd
    obtain ⟨a, h1, h2, vs, h3, h4⟩ := rl.sl i _ hi
    obtain ⟨u, hu, ru⟩ := h4.get hd
    obtain ⟨fr, mem⟩ := rl.frsPut (u := .lst vs.dropLast) hi (join_some h1)
    refine ⟨_, join_some h1, .inl ⟨rfl, _, SqL.of h3⟩, a, vs, u, rfl, rfl, h3, by rw [h4.length]; exact hu, ?_⟩
    refine w u _ (rl.put hi (join_some h1) ⟨_, upd_same, by rw [off_upd mem]; exact h4.dropLast⟩) fr ?_
    rw [off_upd mem]
    exact ru
def sApp (i : Nat) (f : Sx) : Sst := fun Γ => match Γ[i]? with
  | some (.c (.l _)) => (f Γ).bind fun p => match p.2[i]? with
    | some (.c (.l ds)) => if ds.length ≤ 100000 then .ret (.nx, p.2.set i (.c (.l (ds ++ [p.1])))) else .fail
    | _ => .fail
  | _ => .fail
theorem es_app {i : Nat} {x : Str} {e : Expr} {f : Sx} {px apos cpos : Pos} (hN : Z.N[i]? = some x) (hv : Vis Z.env.scope x) (he : EX Z g T He e f)
    (hd : (x == ("__debug__" : Str)) = false := by decide) (hcd : (x == ("__classdict__" : Str)) = false := by decide)
    (hbase : attributeBase (.Name x px) "append" Z.env (eval (.Name x px) Z.env) = eval (.Name x px) Z.env := by rfl)
    (hfew : ((backTo cpos (starEach [e] Z.env)).all (fun x => !x.1) && (backToKw cpos (keywordEach [] Z.env)).all (fun x => x.1.isSome)
      && decide (([e] : List Expr).length + ([] : List Keyword).length + (if ([] : List Keyword).isEmpty then 0 else 1) < 30)) = true := by rfl)
    (hline : (apos.endLine == cpos.line) = true := by rfl) (hs : starEach [e] Z.env = (false, eval e Z.env) :: starEach [] Z.env := by rfl) (hplain : (backTo cpos (starEach [] Z.env)).any (·.1) = false := by rfl)
    (hsw : swapsWith (.Call (.Attribute (.Name x px) "append" apos) [e] [] cpos) none pos.line Z.env = pure false := by rfl) :
    ES Z g T He (.Expr (.Call (.Attribute (.Name x px) "append" apos) [e] [] cpos) pos) (sApp i f) :=
  ps_w (ps_expr (pe_bm PySem.F.plainAttrs_list PySem.F.slot_list_append PySem.F.type_list_append mt_append (pe_var hN hv hd hcd) (pa_cons he pa_nil hs) hbase hfew hline hs hplain) hsw) fun D σ H ⟨Γ, S, rl, w⟩ => by
    unfold sApp at w
    split at w <;> first | exact w.elim | skip
    rename_i ds0 hi0
    obtain ⟨a, h1, h2, vs0, h3, h4⟩ := rl.sl i _ hi0
    refine ⟨_, join_some h1, .inl ⟨rfl, _, SqL.of h3⟩, ?_⟩
    simp only [M.wp_bind] at w
    refine ⟨Γ, S, rl, M.wp_mono (fun p w v H1 l1 fr1 rv => ?_) w⟩
    split at w <;> first | exact w.elim | skip
    rename_i ds hi
    split at w <;> first | exact w.elim | skip
    rename_i hz
    obtain ⟨a', h1', h2', vs, h3', h4'⟩ := l1.sl i _ hi
    rw [h1] at h1'
    cases h1'
    obtain ⟨fr, mem⟩ := l1.frsPut (u := .lst (vs ++ [v])) hi (join_some h1)
    refine ⟨a, vs, v, rfl, rfl, h3', Nat.lt_of_le_of_lt (by rw [h4'.length]; exact hz : vs.length ≤ 100000) (by decide), ?_⟩
    exact w σ S _ (l1.put hi (join_some h1) ⟨_, upd_same, by rw [off_upd mem]; exact h4'.append (.cons rv .nil)⟩) (fr1.trans fr)
def sExt (i : Nat) (f : Se X) : Sst := fun Γ => match Γ[i]? with
  | some (.c (.l ds)) => (f Γ).bind fun x => x.fz.bind fun d => match d with
    | .lst es => if ds.length + es.length ≤ 100000 then .ret (.nx, Γ.set i (.c (.l (ds ++ es)))) else .fail
    | _ => .fail
  | _ => .fail
theorem es_ext {i : Nat} {x : Str} {e : Expr} {px apos cpos : Pos} (hN : Z.N[i]? = some x) (hv : Vis Z.env.scope x) (he : EV Z g T He e f1)
    (hd : (x == ("__debug__" : Str)) = false := by decide) (hcd : (x == ("__classdict__" : Str)) = false := by decide)
    (hbase : attributeBase (.Name x px) "extend" Z.env (eval (.Name x px) Z.env) = eval (.Name x px) Z.env := by rfl)
    (hfew : ((backTo cpos (starEach [e] Z.env)).all (fun x => !x.1) && (backToKw cpos (keywordEach [] Z.env)).all (fun x => x.1.isSome)
      && decide (([e] : List Expr).length + ([] : List Keyword).length + (if ([] : List Keyword).isEmpty then 0 else 1) < 30)) = true := by rfl)
    (hline : (apos.endLine == cpos.line) = true := by rfl) (hs : starEach [e] Z.env = (false, eval e Z.env) :: starEach [] Z.env := by rfl) (hplain : (backTo cpos (starEach [] Z.env)).any (·.1) = false := by rfl)
    (hsw : swapsWith (.Call (.Attribute (.Name x px) "extend" apos) [e] [] cpos) none pos.line Z.env = pure false := by rfl) :
    ES Z g T He (.Expr (.Call (.Attribute (.Name x px) "extend" apos) [e] [] cpos) pos) (sExt i f1) :=
  ps_w (ps_expr (pe_bm PySem.F.plainAttrs_list PySem.F.slot_list_extend PySem.F.type_list_extend mt_extend (pe_var hN hv hd hcd) (pa_cons he pa_nil hs) hbase hfew hline hs hplain) hsw) fun D σ H ⟨Γ, S, rl, w⟩ => by
    unfold sExt at w
    split at w <;> first | exact w.elim | skip
    rename_i ds hi
    obtain ⟨a, h1, h2, vs0, h3, h4⟩ := rl.sl i _ hi
    refine ⟨_, join_some h1, .inl ⟨rfl, _, SqL.of h3⟩, ?_⟩
    simp only [M.wp_bind] at w
    refine rdE.use rl (M.wp_mono (fun x w v H1 e1 l1 x1 => ?_) w)
    obtain ⟨r, w⟩ := x1.fz w
    cases hx : x.toD <;> rw [hx] at w r <;> first | exact w.elim | skip
    rename_i es
    simp only at w
    split at w <;> first | exact w.elim | skip
    rename_i hz
    obtain ⟨a', h1', h2', vs, h3', h4'⟩ := l1.sl i _ hi
    rw [h1] at h1'
    cases h1'
    cases r with
    | @lst b us _ q1 q2 =>
      obtain ⟨fr, mem⟩ := l1.frsPut (u := .lst (vs ++ us)) hi (join_some h1)
      refine ⟨a, b, vs, us, rfl, rfl, h3', off_same _ _ _ _ q1, big (by rw [h4'.length, q2.length]; exact hz), ?_⟩
      exact w σ S _ (l1.put hi (join_some h1) ⟨_, upd_same, by rw [off_upd mem]; exact h4'.append q2⟩) ((rl.frs e1).trans fr)
/-- name = e, e with effects -/
def sAsgX (i : Nat) (f : Sx) : Sst := fun Γ => (f Γ).bind fun p => .ret (.nx, p.2.set i (.v p.1))
theorem es_setX {i : Nat} {x : Str} {e : Expr} {f : Sx} {pos' : Pos} (h0 : g.ok0 i) (hN : Z.N.Nodup) (hi : Z.N[i]? = some x) (hx : Loc Z.env.scope x) (he : EX Z g T He e f) (hs : swapsWith e (some (.Name x pos')) pos.line Z.env = pure false := by rfl) (hf : Z.fn x = true ∨ Z.env.scope.names.lookup x = some .local := by first | exact .inl rfl | exact .inr rfl | assumption) :
    ES Z g T He (.Assign [.Name x pos'] e pos) (sAsgX i f) :=
  ps_w (ps_set hN hi hx he hs hf) fun D σ H ⟨Γ, S, rl, w⟩ => by
    simp only [sAsgX, M.wp_bind, M.wp_ret] at w
    exact ⟨Γ, S, rl, M.wp_mono (fun p w v H1 l1 fr rv => w _ S H1 (l1.set_v h0 rv) fr) w⟩
/-! ### loops -/
def forL (tgt : Tg) (fb : Sst) : List D → List Sl → M (Fl × List Sl)
  | [], Γ => .ret (.nx, Γ)
  | d :: ds, Γ => match tgt.asg d with
    | none => .fail
    | some as => (fb (setG Γ as)).bind fun q => match q.1 with
      | .nx => forL tgt fb ds q.2
      | .ct => forL tgt fb ds q.2
      | .bk => .ret (.nx, q.2)
      | .rt z => .ret (.rt z, q.2)
def sFor (fi : Se (Bool × List D)) (tgt : Tg) (fb : Sst) : Sst := fun Γ => (fi Γ).bind fun p => if p.1 then .fail else forL tgt fb p.2 Γ
theorem es_for {tg iter : Expr} {body : List Stmt} {fi : Se (Bool × List D)} {tgt : Tg} {fb : Sst} (hp : PassesOwn (model Z.prog Z.w) Z.A Z.env Z.xe) (hc : Z.calm = true) (hi : EI Z g T He tg iter fi) (hg : EG Z g T He tg tgt) (hb : ESs Z g T He body fb)
    (hs : ∀ x, foldedSetIterable iter Z.env x = pure x := by intro _; rfl) : ES Z g T He (.For tg iter body [] pos) (sFor fi tgt fb) :=
  ps_w (ps_for hp hc hi hg hb hs) fun D σ H ⟨Γ, S, rl, w⟩ => by
    simp only [sFor, M.wp_bind] at w
    refine ⟨Γ, S, rl, M.wp_mono (fun p w J H1 e1 _ itc => ?_) w⟩
    split at w
    · exact w.elim
    rename_i hp1
    have itf := itc (by simpa using hp1)
    have l1 := rl.mono e1
    refine ⟨fun i m σ' H' => m = p.2.length - i ∧ i ≤ p.2.length ∧ ∃ Γ' S', Rl g T He S' H' Γ' σ' ∧ FrS T S H1 S' H' ∧ (forL tgt fb (p.2.drop i) Γ').wp (SPost g T He D S H), ⟨p.2.length, by simp, Nat.zero_le _, Γ, S, l1, FrS.refl, by simpa using w⟩, ?_⟩
    rintro i m σ' H' ⟨rfl, hi, Γ', S', l2, fr2, w2⟩
    have ok : okF (T ++ S) H1 H' (T ++ S') := ⟨fr2, fun b hb => l2.tkTS hb⟩
    by_cases hlt : i < p.2.length
    · obtain ⟨d, hd⟩ : ∃ d, p.2[i]? = some d := ⟨p.2[i], by simp [hlt]⟩
      obtain ⟨g1, g2⟩ := itf.go H' _ ok i d hd
      refine .inr ⟨g1, fun σ' H' => ∃ Γ' S', Rl g T He S' H' Γ' σ' ∧ FrS T S H1 S' H' ∧ (forL tgt fb (p.2.drop (i + 1)) Γ').wp (SPost g T He D S H), fun σ' H' h => ⟨p.2.length - (i + 1), by omega, rfl, hlt, h⟩, fun x H3 y => ?_⟩
      obtain ⟨s3, r3⟩ := g2 x H3 y
      have e3 : Ext g.fd H' H3 := l2.same s3
      have l3 := l2.mono e3
      rw [List.drop_eq_getElem_cons hlt] at w2
      have ed : p.2[i] = d := by rw [List.getElem?_eq_getElem hlt] at hd; exact Option.some.inj hd
      rw [ed] at w2
      simp only [forL] at w2
      cases ha : tgt.asg d with
      | none => rw [ha] at w2; exact w2.elim
      | some as =>
        rw [ha] at w2
        simp only [M.wp_bind] at w2
        refine ⟨Γ', S', d, as, l3, r3, ha, fun ws hws l4 => ⟨_, S', l4, M.wp_mono (fun q w4 => ?_) w2⟩⟩
        have fr3 : FrS T S H1 S' H3 := fr2.trans (l2.frs e3)
        have frH : FrS T S H S' H3 := (rl.frs e1).trans fr3
        obtain ⟨fl, Γ4⟩ := q
        cases fl with
        | nx => exact fun σ5 S5 H5 l5 fr5 => ⟨Γ4, S5, l5, fr3.trans fr5, w4⟩
        | ct => exact fun σ5 S5 H5 l5 fr5 => ⟨Γ4, S5, l5, fr3.trans fr5, w4⟩
        | bk => exact fun σ5 S5 H5 l5 fr5 => w4 σ5 S5 H5 l5 (frH.trans fr5)
        | rt z => exact w4
    · have e : i = p.2.length := by omega
      subst e
      rw [List.drop_length] at w2
      exact .inl ⟨itf.stop H' _ ok, w2 σ' S' H' l2 ((rl.frs e1).trans fr2)⟩
def whileL (tt : Se Bool) (fb : Sst) : Nat → List Sl → M (Fl × List Sl)
  | 0, _ => .fail
  | n + 1, Γ => (tt Γ).bind fun b => if b then (fb Γ).bind fun q => match q.1 with
      | .nx => whileL tt fb n q.2
      | .ct => whileL tt fb n q.2
      | .bk => .ret (.nx, q.2)
      | .rt z => .ret (.rt z, q.2)
    else .ret (.nx, Γ)
def sWhile (n : Nat) (tt : Se Bool) (fb : Sst) : Sst := whileL tt fb n
theorem es_while {c : Expr} {body : List Stmt} {tt : Se Bool} {fb : Sst} (n : Nat) (hp : PassesOwn (model Z.prog Z.w) Z.A Z.env Z.xe) (hc : EB Z g T He c tt) (hb : ESs Z g T He body fb) : ES Z g T He (.While c body [] pos) (sWhile n tt fb) :=
  ps_w (ps_while hp hc hb) fun D σ H ⟨Γ, S, rl, w⟩ => by
    refine ⟨fun m σ' H' => ∃ Γ' S', Rl g T He S' H' Γ' σ' ∧ FrS T S H S' H' ∧ (whileL tt fb m Γ').wp (SPost g T He D S H), ⟨n, Γ, S, rl, FrS.refl, w⟩, ?_⟩
    rintro m σ' H' ⟨Γ', S', l2, fr2, w2⟩
    cases m with
    | zero => exact w2.elim
    | succ m =>
      simp only [whileL, M.wp_bind] at w2
      refine rdT.use l2 (M.wp_mono (fun b w3 H3 e3 l3 => ?_) w2)
      have fr3 := fr2.trans (l2.frs e3)
      cases b with
      | false =>
        simp only [Bool.false_eq_true, ↓reduceIte] at w3 ⊢
        exact w3 σ' S' H3 l3 fr3
      | true =>
        simp only [↓reduceIte, M.wp_bind] at w3 ⊢
        refine ⟨fun σ' H' => ∃ Γ' S', Rl g T He S' H' Γ' σ' ∧ FrS T S H S' H' ∧ (whileL tt fb m Γ').wp (SPost g T He D S H), fun σ' H' h => ⟨m, Nat.lt_succ_self m, h⟩, Γ', S', l3, M.wp_mono (fun q w4 => ?_) w3⟩
        obtain ⟨fl, Γ4⟩ := q
        cases fl with
        | nx => exact fun σ5 S5 H5 l5 fr5 => ⟨Γ4, S5, l5, fr3.trans fr5, w4⟩
        | ct => exact fun σ5 S5 H5 l5 fr5 => ⟨Γ4, S5, l5, fr3.trans fr5, w4⟩
        | bk => exact fun σ5 S5 H5 l5 fr5 => w4 σ5 S5 H5 l5 (fr3.trans fr5)
        | rt z => exact w4
end
end G
namespace G
open PySem PySem.Spec L2
open PyProof.Rows hiding St
/-! ### promises of defs by runs -/
structure SameB (g B : Cf) : Prop where
  k : g.K = B.K
  ad : g.ad = B.ad
  fl : g.fl = B.fl
abbrev Cf.wf (B : Cf) (fd : Option (Addr × Addr)) : Cf := { B with fd := fd, self := none }
/-- positional values, keywords' values -/
def spC (B : Cf) (sem : List D → List D → M R) : Sp2 := fun vs zs H Q _ => ∃ fd T ds es, FdOk (B.wf fd) T H ∧ RpA (B.wf fd) (off H T) vs ds ∧ RpA (B.wf fd) (off H T) zs es ∧ (sem ds es).wp fun z => ∀ v H', Ext fd H H' → RpR (B.wf fd) T H H' v z → Q v H'
/-- a def's own: values in the parameters' order -/
def spB (B : Cf) (sem : List D → M R) (n : Nat) : Sp := fun vs H Q _ => vs.length = n ∧ ∃ fd T ds, FdOk (B.wf fd) T H ∧ RpA (B.wf fd) (off H T) vs ds ∧ (sem ds).wp fun z => ∀ v H', Ext fd H H' → RpR (B.wf fd) T H H' v z → Q v H'
/-- __init__: the new instance at x, then the others -/
def spI (B : Cf) (C : Nat) (sem : List D → List D → M O) : Sp2 := fun vs zs H Q _ => ∃ x dx He fd T us ds es, vs = .ref x :: us ∧ H = upd (upd He dx (.own x)) x (.ins (B.ad C) dx []) ∧ He x = none ∧ He dx = none ∧ dx ≠ x ∧ FdOk (B.wf fd) T He ∧ RpA (B.wf fd) (off He T) us ds ∧ RpA (B.wf fd) (off He T) zs es ∧
  (sem ds es).wp fun o => ∀ H', Ext fd He H' → RpO (B.wf fd) (x :: T) H' x o → Q .non H'
structure ClF (P : Program) (w : World) (K : PySem.W.Frag) (mg : Str → Option Value) (base : Heap) (CX : CXT) (k : Nat) (x : Str) (ks : List Str) (sp : Sp2) : Prop where
  ex : ∃ f, mg x = some (.ref f) ∧ PySem.W.keepIn K (.ref f) = true ∧ FnA P w K mg base CX k f ks sp
section
variable {X : Cx} {CX : CXT} {k : Nat} {ks : List Str} {sp : Sp2} {E : XK} {x : Str} {p pos : Pos} {e : Expr} {es : List Expr} {kws : List Keyword} {t tk : TA}
def tCalA (ks : List Str) (sp : Sp2) (E : XK) (t tk : TA) : TE := fun σ H Q => t σ H fun vs H1 => tk σ H1 fun zs H2 => zs.length = ks.length ∧ sp vs zs H2 Q E
theorem pe_cA (c : ClF X.prog X.w X.K X.mg X.base CX k x ks sp) (hr : Room k X.A) (hx : Passes CX X E) (hg : Gl X x) (ha : PA X (e :: es) t) (hkw : PK X kws tk)
    (hall : (backToKw pos (keywordEach kws X.env)).all (·.1.isSome) = true := by rfl) (hks : (backToKw pos (keywordEach kws X.env)).filterMap (·.1) = ks := by rfl)
    (hdb : (x == ("__debug__" : Str)) = false := by decide) (he : starEach (e :: es) X.env = (false, eval e X.env) :: starEach es X.env := by rfl)
    (hpl : ((backTo pos (starEach (e :: es) X.env)).any (·.1) || (backToKw pos (keywordEach kws X.env)).any (·.1.isNone)) = false := by rfl) :
    PE X (.Call (.Name x p) (e :: es) kws pos) (tCalA ks sp E t tk) := by
  refine ⟨fun pins s σ H Q I h => ?_⟩
  obtain ⟨f, hm, kp, F⟩ := c.ex
  refine wpAny_Call_Name_kw (ld_glob I hg hm ?_ hdb)
  refine PySem.W.callWith_KW (h₀ := X.base) I.ok.mod.kin kp hall (thn (ha.run pos pins s σ H _ I h) fun us s1 ⟨vs, H1, I1, r, q⟩ => ?_) hpl he
  refine thn (hkw.run pos pins s1 σ H1 _ I1 q) fun ws s2 ⟨zs, H2, I2, rz, l2, q2⟩ => ⟨I2.kIn, ?_⟩
  rw [hks]
  exact run_fnA F hr rfl hx I2 r rz l2 q2
theorem pe_cA0 (c : ClF X.prog X.w X.K X.mg X.base CX k x ks sp) (hr : Room k X.A) (hx : Passes CX X E) (hg : Gl X x) (hkw : PK X kws tk)
    (hall : (backToKw pos (keywordEach kws X.env)).all (·.1.isSome) = true := by rfl) (hks : (backToKw pos (keywordEach kws X.env)).filterMap (·.1) = ks := by rfl)
    (hdb : (x == ("__debug__" : Str)) = false := by decide) (hpl : ((backTo pos (starEach [] X.env)).any (·.1) || (backToKw pos (keywordEach kws X.env)).any (·.1.isNone)) = false := by rfl) :
    PE X (.Call (.Name x p) [] kws pos) (tCalA ks sp E tNil tk) := by
  refine ⟨fun pins s σ H Q I h => ?_⟩
  obtain ⟨f, hm, kp, F⟩ := c.ex
  refine wpAny_Call_Name_kw (ld_glob I hg hm ?_ hdb)
  refine PySem.W.callWith_KW0 (h₀ := X.base) I.ok.mod.kin kp hall ?_ hpl
  refine thn (hkw.run pos pins s σ H _ I h) fun ws s2 ⟨zs, H2, I2, rz, l2, q2⟩ => ⟨I2.kIn, ?_⟩
  rw [hks]
  exact run_fnA (us := []) (vs := []) F hr rfl hx I2 .nil rz l2 q2
end
/-- keywords' values -/
abbrev EK (Z : Cx) (g : Cf) (T : List Addr) (He : Hp) (kws : List Keyword) (f : Se (List X)) : Prop := PK Z kws (rdA g T He f)
def sCal (nk : Nat) (sem : List D → List D → M R) (fs ks : Se (List X)) : Se X := fun Γ => (fs Γ).bind fun xs => (ks Γ).bind fun ys => if ys.length ≠ nk then .fail else (sem (xs.map X.toD) (ys.map X.toD)).bind fun z => .ret (z.fin (xs.any X.tn || ys.any X.tn))
section
variable {Z : Cx} {g B : Cf} {T : List Addr} {He : Hp} {a b c : Expr} {f1 f2 f3 : Se X} {fs gs : Se (List X)} {pos p p2 : Pos} {kws : List Keyword} {e : Expr} {es : List Expr} {x : Str} {ks : List Str}
theorem pk_w {t t' : TA} (h : PK Z kws t) (k : ∀ σ H Q, t' σ H Q → t σ H Q) : PK Z kws t' := ⟨fun pos pins s σ H Q I q => h.run pos pins s σ H Q I (k _ _ _ q)⟩
theorem ek_nil : EK Z g T He [] sNil := pk_w pk_nil fun _ H Q ⟨Γ, S, rl, w⟩ => w [] H rl.fok.refl .nil
theorem ek_cons {nm : Option Str} {kpos : Pos} (he : EV Z g T He e f1) (hr : EK Z g T He kws fs) : EK Z g T He (⟨nm, e, kpos⟩ :: kws) (sCons f1 fs) :=
  pk_w (pk_cons he hr) fun σ H Q ⟨Γ, S, rl, w⟩ => by
    simp only [sCons, M.wp_bind, M.wp_ret] at w
    refine rdE.use rl (M.wp_mono (fun x w v1 H1 e1 l1 x1 => ?_) w)
    refine rdA.use l1 (M.wp_mono (fun xs w vs H2 e2 l2 xx => ?_) w)
    exact w (v1 :: vs) H2 (e1.trans e2) (.cons (x1.mono e2 l1.t) (xx.early e1 l1.t))
theorem RpA.toB {H : Hp} {vs : List V} {ds : List D} (hB : SameB g B) (r : RpA g H vs ds) : RpA (B.wf g.fd) H vs ds := RpA.cg (g' := B.wf g.fd) hB.k hB.ad hB.fl rfl _ r
theorem RpO.cg {g' : Cf} (e1 : g.K = g'.K) (e2 : g.ad = g'.ad) (e3 : g.fl = g'.fl) (e4 : g.fd = g'.fd) {T : List Addr} {H : Hp} {a : Addr} {o : O} (r : RpO g T H a o) : RpO g' T H a o := by
  cases o with
  | l ds => obtain ⟨vs, h1, h2⟩ := r; exact ⟨vs, h1, RpA.cg e1 e2 e3 e4 _ h2⟩
  | i C fs => obtain ⟨dx, fv, h1, hf, h2⟩ := r; exact ⟨dx, fv, by rw [← e2]; exact h1, by unfold FvOk at hf ⊢; rw [← e3]; exact hf, RpA.cg e1 e2 e3 e4 _ h2⟩
theorem RpR.ofB {H0 H : Hp} {v : V} {z : R} (hB : SameB g B) (r : RpR (B.wf g.fd) T H0 H v z) : RpR g T H0 H v z := by
  cases z with
  | «at» d => exact r
  | nw o => obtain ⟨a, e, h1, h2, r⟩ := r; exact ⟨a, e, h1, h2, RpO.cg (g := B.wf g.fd) hB.k.symm hB.ad.symm hB.fl.symm rfl r⟩
  | dt d => exact Rp.cg (g := B.wf g.fd) hB.k.symm hB.ad.symm hB.fl.symm rfl _ r
theorem FdOk.toB {H : Hp} (f : FdOk g T H) : FdOk (B.wf g.fd) T H := ⟨f.tk, f.fd⟩
end
end G
namespace G
open PySem PySem.Spec L2
open PyProof.Rows hiding St
section
variable {Z : Cx} {g B : Cf} {T : List Addr} {He : Hp} {a b c : Expr} {f1 f2 f3 : Se X} {fs gs : Se (List X)} {pos p p2 : Pos} {kws : List Keyword} {e : Expr} {es : List Expr} {x : Str} {ks : List Str}
theorem RpXs.full {S : List Addr} {H0 H : Hp} {tt : Bool} : ∀ {vs : List V} {xs : List X}, RpXs g T S H0 H vs xs → (xs.any X.tn = true → tt = true) → RpA g (off H (G.TS T S tt)) vs (xs.map X.toD)
  | _, _, r, h => by
    cases tt with
    | true => exact r.toD
    | false => exact r.toD' (by cases q : List.any _ X.tn with | true => exact absurd (h q) (by decide) | false => rfl)
/-- the call's promise, from runs of its arguments -/
theorem cal_use {sem : List D → List D → M R} {S : List Addr} {H H1 H2 : Hp} {Γ : List Sl} {σ : St} {vs zs : List V} {xs ys : List X} {Q : VK} {E : XK} (hB : SameB g B) (l1 : Rl g T He S H1 Γ σ) (l2 : Rl g T He S H2 Γ σ) (e1 : Ext g.fd H H1) (e2 : Ext g.fd H1 H2) (xx : RpXs g T S H H1 vs xs) (yy : RpXs g T S H1 H2 zs ys)
    (w : (sem (xs.map X.toD) (ys.map X.toD)).wp fun z => ∀ v H', Ext g.fd H H' → RpX g T S H H' v (z.fin (xs.any X.tn || ys.any X.tn)) → Q v H') : spC B sem vs zs H2 Q E := by
  refine ⟨g.fd, G.TS T S (xs.any X.tn || ys.any X.tn), _, _, (l2.fokB _).toB, ((xx.mono e2 l1.t).full fun h => by rw [h]; rfl).toB hB, (yy.full fun h => by rw [h, Bool.or_true]).toB hB, M.wp_mono (fun z w v H' e r => ?_) w⟩
  exact w v H' ((e1.trans e2).trans e) ((r.ofB hB).fin.early (e1.trans e2) l2.t)
theorem rdCal {nk : Nat} {sem : List D → List D → M R} {S : List Addr} {σ : St} {H : Hp} {Γ : List Sl} {Q : VK} {E : XK} (hn : ks.length = nk) (hB : SameB g B) (rl : Rl g T He S H Γ σ) (w : (sCal nk sem fs gs Γ).wp fun x => ∀ v H', Ext g.fd H H' → RpX g T S H H' v x → Q v H') :
    tCalA ks (spC B sem) E (rdA g T He fs) (rdA g T He gs) σ H Q := by
  simp only [sCal, M.wp_bind] at w
  refine rdA.use rl (M.wp_mono (fun xs w vs H1 e1 l1 xx => ?_) w)
  refine rdA.use l1 (M.wp_mono (fun ys w zs H2 e2 l2 yy => ?_) w)
  split at w
  · exact w.elim
  rename_i hy
  refine ⟨by rw [yy.length, hn]; simpa using hy, cal_use hB l1 l2 e1 e2 xx yy ?_⟩
  simpa only [M.wp_bind, M.wp_ret] using w
theorem ev_cal {n nk : Nat} {sem : List D → List D → M R} (hB : SameB g B) (c : ClF Z.prog Z.w Z.K Z.mg Z.base CX0 n x ks (spC B sem)) (hr : Room n Z.A) (hg : Gl Z x) (ha : EA Z g T He (e :: es) fs) (hkw : EK Z g T He kws gs) (hn : ks.length = nk := by rfl)
    (hall : (backToKw pos (keywordEach kws Z.env)).all (·.1.isSome) = true := by rfl) (hks : (backToKw pos (keywordEach kws Z.env)).filterMap (·.1) = ks := by rfl)
    (hdb : (x == ("__debug__" : Str)) = false := by decide) (he : starEach (e :: es) Z.env = (false, eval e Z.env) :: starEach es Z.env := by rfl)
    (hpl : ((backTo pos (starEach (e :: es) Z.env)).any (·.1) || (backToKw pos (keywordEach kws Z.env)).any (·.1.isNone)) = false := by rfl) :
    EV Z g T He (.Call (.Name x p) (e :: es) kws pos) (sCal nk sem fs gs) :=
  pe_w (pe_cA (E := E0) c hr pass0 hg ha hkw hall hks hdb he hpl) fun _ _ _ ⟨_, _, rl, w⟩ => rdCal hn hB rl w
theorem rdNil {σ : St} {H : Hp} {R : List V → Hp → Prop} (h : rdA g T He sNil σ H R) : tNil σ H R := by
  obtain ⟨Γ, S, rl, w⟩ := h
  exact w [] H rl.fok.refl .nil
theorem ev_cal0 {n nk : Nat} {sem : List D → List D → M R} (hB : SameB g B) (c : ClF Z.prog Z.w Z.K Z.mg Z.base CX0 n x ks (spC B sem)) (hr : Room n Z.A) (hg : Gl Z x) (hkw : EK Z g T He kws gs) (hn : ks.length = nk := by rfl)
    (hall : (backToKw pos (keywordEach kws Z.env)).all (·.1.isSome) = true := by rfl) (hks : (backToKw pos (keywordEach kws Z.env)).filterMap (·.1) = ks := by rfl)
    (hdb : (x == ("__debug__" : Str)) = false := by decide) (hpl : ((backTo pos (starEach [] Z.env)).any (·.1) || (backToKw pos (keywordEach kws Z.env)).any (·.1.isNone)) = false := by rfl) :
    EV Z g T He (.Call (.Name x p) [] kws pos) (sCal nk sem sNil gs) :=
  pe_w (pe_cA0 (E := E0) c hr pass0 hg hkw hall hks hdb hpl) fun _ _ _ ⟨_, _, rl, w⟩ => rdNil (rdCal hn hB rl w)
/-! ### methods -/
/-- class by class, the run of the method (self first) -/
abbrev MSem := Nat → Option (List D → List D → M R)
structure MtOk (P : Program) (w : World) (K : PySem.W.Frag) (mg : Str → Option Value) (base : Heap) (B : Cf) (n : Nat) (m : Str) (ks : List Str) (sem : MSem) : Prop where
  ok : ∀ C f, sem C = some f → MtC P w K mg base CX0 n (B.ad C) m ks (spC B f) ∧ m ∉ B.fl C
def sMth (nk : Nat) (sem : MSem) (f1 : Se X) (fs ks : Se (List X)) : Se X := fun Γ => (f1 Γ).bind fun x => match x.toD with
  | .ins C ds => match sem C with
    | some f => (fs Γ).bind fun xs => (ks Γ).bind fun ys => if ys.length ≠ nk then .fail else (f (.ins C ds :: xs.map X.toD) (ys.map X.toD)).bind fun z => .ret (z.fin (x.tn || xs.any X.tn || ys.any X.tn))
    | none => .fail
  | _ => .fail
theorem FvOk.none_of {C : Nat} {fv : List (Str × V)} {m : Str} (h : FvOk g C fv) (hm : m ∉ g.fl C) : fv.lookup m = none := by
  have h' : m ∉ fv.map Prod.fst := fun z => by
    have e : fv.map Prod.fst = (g.fl C).take fv.length := h
    rw [e] at z
    exact hm (List.mem_of_mem_take z)
  clear h
  induction fv with
  | nil => rfl
  | cons p r ih =>
    obtain ⟨n, u⟩ := p
    simp only [List.map_cons, List.mem_cons, not_or] at h'
    rw [List.lookup_cons, beq_eq_false_iff_ne.mpr h'.1]
    exact ih h'.2
theorem rdMth {n nk : Nat} {m : Str} {sem : MSem} {S : List Addr} {σ : St} {H : Hp} {Γ : List Sl} {Q : VK} {E : XK} (hn : ks.length = nk) (hB : SameB g B) (ok : MtOk Z.prog Z.w Z.K Z.mg Z.base B n m ks sem) (rl : Rl g T He S H Γ σ) (w : (sMth nk sem f1 fs gs Γ).wp fun x => ∀ v H', Ext g.fd H H' → RpX g T S H H' v x → Q v H') :
    tMethA Z CX0 n m ks E (rdE g T He f1) (rdA g T He fs) (rdA g T He gs) σ H Q := by
  simp only [sMth, M.wp_bind] at w
  refine rdE.use rl (M.wp_mono (fun x w v0 H0 e0 l0 x0 => ?_) w)
  have r := x0.on
  cases hx : x.toD <;> rw [hx] at w r <;> first | exact w.elim | skip
  rename_i C ds
  simp only at w
  cases hs : sem C with
  | none => rw [hs] at w; exact w.elim
  | some f =>
    rw [hs] at w
    obtain ⟨MC, hm⟩ := ok.ok C f hs
    have x0' := x0
    cases r with
    | @ins ad dx _ fv _ h1 hf h2 =>
      refine ⟨ad, _, dx, fv, spC B f, rfl, h1, hf.none_of (hB.fl ▸ hm), by rw [hB.ad]; exact MC, ?_⟩
      simp only [M.wp_bind] at w
      refine rdA.use l0 (M.wp_mono (fun xs w vs H1 e1 l1 xx => ?_) w)
      refine rdA.use l1 (M.wp_mono (fun ys w zs H2 e2 l2 yy => ?_) w)
      split at w
      · exact w.elim
      rename_i hy
      refine ⟨by rw [yy.length, hn]; simpa using hy, ?_⟩
      have xx' : RpXs g T S H H1 (V.ref ad :: vs) (x :: xs) := .cons (x0'.mono e1 l0.t) (xx.early e0 l0.t)
      refine cal_use (xs := x :: xs) (H := H) hB l1 l2 (e0.trans e1) e2 xx' yy ?_
      simp only [M.wp_bind, M.wp_ret] at w
      rw [List.map_cons, hx, List.any_cons]
      exact w
variable {o : Expr} {m : Str} {apos : Pos} {pl : Sem Bool}
theorem ev_mth {n nk : Nat} {sem : MSem} (hB : SameB g B) (ok : MtOk Z.prog Z.w Z.K Z.mg Z.base B n m ks sem) (hr : Room n Z.A) (he : EV Z g T He o f1) (ha : EA Z g T He (e :: es) fs) (hkw : EK Z g T He kws gs) (hn : ks.length = nk := by rfl)
    (hall : (backToKw pos (keywordEach kws Z.env)).all (·.1.isSome) = true := by rfl) (hks : (backToKw pos (keywordEach kws Z.env)).filterMap (·.1) = ks := by rfl)
    (hst : starEach (e :: es) Z.env = (false, eval e Z.env) :: starEach es Z.env := by rfl)
    (hpl : ((backTo pos (starEach (e :: es) Z.env)).any (·.1) || (backToKw pos (keywordEach kws Z.env)).any (·.1.isNone)) = false := by rfl)
    (ht : eval (.Call (.Attribute o m apos) (e :: es) kws pos) Z.env = (do
      let ov ← eval o Z.env
      standAt apos.atName
      let (f, first) ← holding [ov] (getMethod ov m pl)
      callWith pos f first (backTo pos (starEach (e :: es) Z.env)) (backToKw pos (keywordEach kws Z.env))) := by rfl) :
    EV Z g T He (.Call (.Attribute o m apos) (e :: es) kws pos) (sMth nk sem f1 fs gs) :=
  pe_w (pe_methA (CX := CX0) (k := n) (E := E0) hr pass0 he ha hkw hall hks hst hpl ht) fun _ _ _ ⟨_, _, rl, w⟩ => rdMth hn hB ok rl w
theorem ev_mth0 {n nk : Nat} {sem : MSem} (hB : SameB g B) (ok : MtOk Z.prog Z.w Z.K Z.mg Z.base B n m ks sem) (hr : Room n Z.A) (he : EV Z g T He o f1) (hkw : EK Z g T He kws gs) (hn : ks.length = nk := by rfl)
    (hall : (backToKw pos (keywordEach kws Z.env)).all (·.1.isSome) = true := by rfl) (hks : (backToKw pos (keywordEach kws Z.env)).filterMap (·.1) = ks := by rfl)
    (hpl : ((backTo pos (starEach [] Z.env)).any (·.1) || (backToKw pos (keywordEach kws Z.env)).any (·.1.isNone)) = false := by rfl)
    (ht : eval (.Call (.Attribute o m apos) [] kws pos) Z.env = (do
      let ov ← eval o Z.env
      standAt apos.atName
      let (f, first) ← holding [ov] (getMethod ov m pl)
      callWith pos f first (backTo pos (starEach [] Z.env)) (backToKw pos (keywordEach kws Z.env))) := by rfl) :
    EV Z g T He (.Call (.Attribute o m apos) [] kws pos) (sMth nk sem f1 sNil gs) :=
  pe_w (pe_methA0 (CX := CX0) (k := n) (E := E0) hr pass0 he hkw hall hks hpl ht) fun σ H Q ⟨_, _, rl, w⟩ => by
    obtain ⟨Γ', S', rl', w'⟩ := rdMth (Q := Q) (E := E0) hn hB ok rl w
    refine ⟨Γ', S', rl', M.wp_mono (fun x h v H' e r => ?_) w'⟩
    obtain ⟨a, C, dx, fs, sp, h1, h2, h3, h4, h5⟩ := h v H' e r
    exact ⟨a, C, dx, fs, sp, h1, h2, h3, h4, rdNil h5⟩
/-! ### new instances -/
def sNew (nk : Nat) (sem : List D → List D → M O) (fs ks : Se (List X)) : Se X := fun Γ => (fs Γ).bind fun xs => (ks Γ).bind fun ys => if ys.length ≠ nk then .fail else (sem (xs.map X.toD) (ys.map X.toD)).bind fun o => .ret ((R.nw o).fin (xs.any X.tn || ys.any X.tn))
theorem made_same2 {H : Hp} {x dx : Addr} {o1 o2 : HO} (h1 : H x = none) (h2 : H dx = none) (n : dx ≠ x) : Same H (upd (upd H dx o1) x o2) := (Same.newT h2).trans (Same.newT (by rw [upd_ne n.symm]; exact h1))
theorem rdNew {nk C : Nat} {sem : List D → List D → M O} {S : List Addr} {σ : St} {H : Hp} {Γ : List Sl} {Q : VK} {E : XK} (hn : ks.length = nk) (hB : SameB g B) (rl : Rl g T He S H Γ σ) (w : (sNew nk sem fs gs Γ).wp fun x => ∀ v H', Ext g.fd H H' → RpX g T S H H' v x → Q v H') :
    tMakeA (B.ad C) ks (spI B C sem) E (rdA g T He fs) (rdA g T He gs) σ H Q := by
  simp only [sNew, M.wp_bind] at w
  refine rdA.use rl (M.wp_mono (fun xs w vs H1 e1 l1 xx => ?_) w)
  refine rdA.use l1 (M.wp_mono (fun ys w zs H2 e2 l2 yy => ?_) w)
  split at w
  · exact w.elim
  rename_i hy
  refine ⟨by rw [yy.length, hn]; simpa using hy, fun x dx hx hdx ne => ?_⟩
  simp only [M.wp_bind, M.wp_ret] at w
  refine ⟨x, dx, H2, g.fd, G.TS T S (xs.any X.tn || ys.any X.tn), vs, _, _, rfl, rfl, hx, hdx, ne, (l2.fokB _).toB, ((xx.mono e2 l1.t).full fun h => by rw [h]; rfl).toB hB, (yy.full fun h => by rw [h, Bool.or_true]).toB hB, M.wp_mono (fun o w H' e r => ⟨rfl, ?_⟩) w⟩
  have nT : x ∉ G.TS T S (xs.any X.tn || ys.any X.tn) := (l2.fokB _).nin hx
  have rr : RpR g (G.TS T S (xs.any X.tn || ys.any X.tn)) H2 H' (.ref x) (.nw o) := ⟨x, rfl, hx, nT, RpO.cg (g := B.wf g.fd) hB.k.symm hB.ad.symm hB.fl.symm rfl r⟩
  exact w _ H' ((e1.trans e2).trans e) (rr.fin.early (e1.trans e2) l2.t)
theorem ev_new {n nk C : Nat} {sem : List D → List D → M O} (hB : SameB g B) (c : MkA Z.prog Z.w Z.K Z.mg Z.base CX0 n x (B.ad C) ks (spI B C sem)) (hr : Room (n + 1) Z.A) (hg : Gl Z x) (ha : EA Z g T He (e :: es) fs) (hkw : EK Z g T He kws gs) (hn : ks.length = nk := by rfl)
    (hall : (backToKw pos (keywordEach kws Z.env)).all (·.1.isSome) = true := by rfl) (hks : (backToKw pos (keywordEach kws Z.env)).filterMap (·.1) = ks := by rfl)
    (hdb : (x == ("__debug__" : Str)) = false := by decide) (he : starEach (e :: es) Z.env = (false, eval e Z.env) :: starEach es Z.env := by rfl)
    (hpl : ((backTo pos (starEach (e :: es) Z.env)).any (·.1) || (backToKw pos (keywordEach kws Z.env)).any (·.1.isNone)) = false := by rfl) :
    EV Z g T He (.Call (.Name x p) (e :: es) kws pos) (sNew nk sem fs gs) :=
  pe_w (pe_makeA (E := E0) c hr (Nat.le_refl _) pass0 hg ha hkw hall hks hdb he hpl) fun _ _ _ ⟨_, _, rl, w⟩ => rdNew hn hB rl w
theorem ev_new0 {n nk C : Nat} {sem : List D → List D → M O} (hB : SameB g B) (c : MkA Z.prog Z.w Z.K Z.mg Z.base CX0 n x (B.ad C) ks (spI B C sem)) (hr : Room (n + 1) Z.A) (hg : Gl Z x) (hkw : EK Z g T He kws gs) (hn : ks.length = nk := by rfl)
    (hall : (backToKw pos (keywordEach kws Z.env)).all (·.1.isSome) = true := by rfl) (hks : (backToKw pos (keywordEach kws Z.env)).filterMap (·.1) = ks := by rfl)
    (hdb : (x == ("__debug__" : Str)) = false := by decide) (hpl : ((backTo pos (starEach [] Z.env)).any (·.1) || (backToKw pos (keywordEach kws Z.env)).any (·.1.isNone)) = false := by rfl) :
    EV Z g T He (.Call (.Name x p) [] kws pos) (sNew nk sem sNil gs) :=
  pe_w (pe_makeA0 (E := E0) c hr (Nat.le_refl _) pass0 hg hkw hall hks hdb hpl) fun _ _ _ ⟨_, _, rl, w⟩ => rdNil (rdNew hn hB rl w)
def sNew0 (C : Nat) : Se X := fun _ => .ret (.c (.i C []))
theorem ev_new00 {C : Nat} (hB : SameB g B) (M : Mk0 Z.K Z.mg x (B.ad C)) (hg : Gl Z x) (hdb : (x == ("__debug__" : Str)) = false := by decide) : EV Z g T He (.Call (.Name x p) [] [] pos) (sNew0 C) :=
  pe_w (pe_make00 M hg hdb) fun σ H Q ⟨Γ, S, rl, w⟩ => fun a dx ha hdx ne =>
    w _ _ (rl.same (made_same2 ha hdx ne)) ⟨a, rfl, ha, rl.freeTS ha, dx, [], by rw [hB.ad]; exact upd_same, rfl, .nil⟩
/-! ### == and !=, in, repr, len of own instances -/
def isIns : D → Bool
  | .ins _ _ => true
  | _ => false
end
end G
namespace L2
open PySem PySem.Spec
open PyProof.Rows hiding St
/-! ### None == an own instance: the instance's own __eq__ is asked -/
theorem NoneType_eq_ref (a : Addr) : Gives (Builtin.«NoneType.__eq__» ⟨[.none, .ref a], []⟩) (.val (Value.notImplemented)) :=
  .of_wp fun M A E s Q h => by obtain ⟨hp, g, d, tk, os⟩ := s; wp_walk; exact ⟨_, rfl, h⟩
section
variable {prog : Program} {w : World} {A A₀ : Around} {E : Value → Shared → Prop} {s : Shared} {K : PySem.W.Frag} {x C L f : Addr} {ox : Obj} {od : Option Obj}
theorem cmp_KN {Q : Value → Shared → Prop} (hu : A.units < cLine) (X : K.In s.heap) (I : PySem.W.InstAt s.heap x ox C od) (hn : PySem.W.subIn K (.ref C) (.type "NoneType") = some false)
    (hs : PySem.W.findIn K (.ref C) "__eq__" = some (some (.ref f))) (hf : PySem.W.isFn K (.ref f) = true)
    (h : wpAny (model prog w) A (call (.ref f) [.ref x, .none]) (PySem.W.CmpBack Q) E s) : wpAny (model prog w) A (richCompare .Eq .none (.ref x)) Q E s := by
  have one : wpAny (model prog w) A (tryCompare (.ref x) "__eq__" .none) (fun r s' => ∃ v, r = some v ∧ Q v s') E s := by
    unfold tryCompare
    refine wpAny_bind (PySem.W.ifBound_K X I hs hf (wpAny_mono h (fun v s' hv => ?_) fun _ _ e => e))
    cases v <;> first | exact hv.elim | exact wpAny_pure ⟨_, rfl, hv⟩
  unfold richCompare
  have e1 : oneThing? .Eq .none (.ref x) = none := rfl
  simp only [e1]
  refine wpAny_holding (wpAny_bind (wpAny_cRoomFor hu ?_))
  refine wpAny_bind (wpAny_typeOf (T := "NoneType") rfl (wpAny_bind (I.type.here ?_)))
  rw [if_pos (by rfl)]
  refine wpAny_bind ((PySem.W.looks_subIn X hn).here ?_)
  simp only [Bool.false_eq_true, if_false, Bool.not_false, if_true]
  refine wpAny_bind (m := tryCompare .none _ (.ref x)) (wpAny_tryCompare_declines (T := "NoneType") rfl F.slot_NoneType_eq (call_gives F.slot_NoneType_eq rfl F.entry_NoneType_eq (F.args_NoneType_eq_2 _ _) (NoneType_eq_ref x) ⟨rfl, ?_⟩))
  refine wpAny_bind (wpAny_mono one (fun r s' z => ?_) fun _ _ e => e)
  obtain ⟨v, rfl, hq⟩ := z
  exact wpAny_pure hq
end
/-- None == instance -/
def rEqN (X : Cx) (CX : CXT) (k : Nat) (E : XK) : R2 := fun x y H Q => ∃ a C dx fs sp, x = .non ∧ y = .ref a ∧ H a = some (.ins C dx fs) ∧ MtC X.prog X.w X.K X.mg X.base CX k C "__eq__" [] sp ∧ PySem.W.subIn X.K (.ref C) (.type "NoneType") = some false ∧ sp [y, x] [] H Q E
theorem op_eqN {X : Cx} {CX : CXT} {k : Nat} {E : XK} (hr : Room k X.A) (hx : Passes CX X E) : OpR X (compareOp .Eq) (rEqN X CX k E) := by
  rintro pins s σ H x y u v Q I rx ry ⟨a, C, dx, fs, sp, rfl, rfl, ha, M, nf, q⟩
  cases rx
  obtain rfl : v = Value.ref a := ry
  obtain ⟨⟨f, hm, F⟩, c⟩ := M
  obtain ⟨mA, J, _⟩ := ins_get I.hok ha
  obtain ⟨od, J, _⟩ := J.look
  show wpAny (model X.prog X.w) X.A (richCompare .Eq .none (.ref a)) (EP X pins σ Q) X.xe s
  refine cmp_KN hr.units0 I.kIn J nf hm.at_ hm.fn ?_
  exact wpAny_mono (run_fnA0 (us := [.ref a, .none]) (vs := [.ref a, .non]) F hr rfl hx I (.cons rfl (.cons rfl .nil)) q) (fun r s' h => let ⟨_, _, _, rv, _⟩ := h; rel_cmp rv h) fun _ _ e => e
end L2
namespace G
open PySem PySem.Spec L2
open PyProof.Rows hiding St
section
variable {Z : Cx} {g B : Cf} {T : List Addr} {He : Hp} {a b c : Expr} {f1 f2 f3 : Se X} {fs gs : Se (List X)} {pos p p2 : Pos} {kws : List Keyword} {e : Expr} {es : List Expr} {x : Str} {ks : List Str}
/-! ### == and !=, in, repr, len of own instances -/
/-- what a call hands back, as a truth value -/
def boolR : R → M Bool
  | .at (.bl b) => .ret b
  | .dt (.bl b) => .ret b
  | _ => .fail
def eqPyB (d1 d2 : D) : M Bool :=
  match d1.py, d2.py with
  | some x, some y => if x.depth ≤ 60 ∧ y.depth ≤ 60 then .ret (PyData.eqv x y) else .fail
  | _, _ => .fail
def okTy (P : Nat → Bool) : D → Bool
  | .ins C _ => P C
  | .feed => false
  | .tup _ => false
  | _ => true
/-- data's == where no instance stands on the left, else the class's own -/
def eqB (P : Nat → Bool) (sem : MSem) : D → D → M Bool := fun d1 d2 => match d1 with
  | .ins C ds => match sem C with
    | some f => if okTy P d2 then (f [.ins C ds, d2] []).bind boolR else .fail
    | none => .fail
  | d => eqPyB d d2
/-- .. for the classes of sem; P: whose types are known -/
structure EqOk (Pr : Program) (w : World) (K : PySem.W.Frag) (mg : Str → Option Value) (base : Heap) (B : Cf) (n : Nat) (P : Nat → Bool) (sem : MSem) : Prop where
  mt : MtOk Pr w K mg base B n "__eq__" [] sem
  tf : TyF B P
  nf : ∀ C f, sem C = some f → (∀ t, t ∈ ["NoneType", "bool", "int", "str", "list"] → PySem.W.notFirst K (B.ad C) (.type t) = true) ∧ ∀ C', P C' = true → PySem.W.notFirst K (B.ad C) (.ref (B.ad C')) = true
  ne : ∀ C f, sem C = some f → NoNe K (B.ad C)
  nn : ∀ C f, sem C = some f → PySem.W.subIn K (.ref (B.ad C)) (.type "NoneType") = some false
theorem SameB.tf {P : Nat → Bool} (hB : SameB g B) (t : TyF B P) : TyF g P := ⟨fun C h => by rw [hB.ad, hB.k]; exact t.ty C h⟩
theorem tyOf_of {P : Nat → Bool} (tf : TyF g P) {H : Hp} {v : V} {d : D} (r : Rp g H v d) (h : okTy P d = true) : TyOf g.K H v (d.tyv g) := by
  cases r with
  | non => exact .non
  | bl b => exact .bl b
  | int i => exact .int i
  | str x _ => exact .str x
  | lst h1 _ => exact .lst h1
  | tup hs _ => cases h
  | ins h1 _ _ => exact tf.ty _ h h1
  | feed => cases h
theorem RpR.bool {T : List Addr} {H0 H : Hp} {v : V} {z : R} {P : Bool → Prop} (r : RpR g T H0 H v z) (w : (boolR z).wp P) : ∃ b, v = .bl b ∧ P b := by
  cases z with
  | nw o => exact w.elim
  | «at» d =>
    cases d <;> first | exact w.elim | skip
    cases r
    exact ⟨_, rfl, w⟩
  | dt d =>
    cases d <;> first | exact w.elim | skip
    cases (show Rp g _ v _ from r)
    exact ⟨_, rfl, w⟩
/-- both ways of ==, by values -/
theorem eqB_use {n : Nat} {P : Nat → Bool} {sem : MSem} {H : Hp} {v1 v2 : V} {d1 d2 : D} {Q : Bool → Hp → Prop} {E : XK} (hB : SameB g B) (ok : EqOk Z.prog Z.w Z.K Z.mg Z.base B n P sem) (hK : Z.K = g.K) (fo : FdOk g T H) (r1 : Rp g (off H T) v1 d1) (r2 : Rp g (off H T) v2 d2)
    (w : (eqB P sem d1 d2).wp fun b => ∀ H', Ext g.fd H H' → Q b H') :
    (∃ d e, Dp Z.K H v1 d ∧ Dp Z.K H v2 e ∧ SeqAt.shaped d = true ∧ SeqAt.shaped e = true ∧ Q (PyData.eqv d e) H) ∨
    (∃ ad C dx fv f t, v1 = .ref ad ∧ H ad = some (.ins C dx fv) ∧ MtC Z.prog Z.w Z.K Z.mg Z.base CX0 n C "__eq__" [] (spC B f) ∧ NoNe Z.K C ∧ TyOf Z.K H v2 t ∧ PySem.W.notFirst Z.K C t = true ∧ spC B f [v1, v2] [] H (fun v H' => ∃ b, v = .bl b ∧ Q b H') E) := by
  by_cases hi : ∃ C ds, d1 = .ins C ds
  · obtain ⟨C, ds, rfl⟩ := hi
    unfold eqB at w
    simp only at w
    cases hs : sem C with
    | none => rw [hs] at w; exact w.elim
    | some f =>
      rw [hs] at w
      simp only at w
      split at w
      rotate_left
      · exact w.elim
      rename_i hp
      obtain ⟨m1, _⟩ := ok.mt.ok C f hs
      have r1' := r1.on
      cases r1' with
      | @ins ad dx _ fv _ h1 hf h2 =>
        refine .inr ⟨ad, B.ad C, dx, fv, f, d2.tyv g, rfl, by rw [← hB.ad]; exact h1, m1, ok.ne C f hs, by rw [hK]; exact tyOf_of (hB.tf ok.tf) r2.on hp, ?_, ?_⟩
        · obtain ⟨n1, n2⟩ := ok.nf C f hs
          cases d2 with
          | non => exact n1 _ (by simp)
          | bl b => exact n1 _ (by simp)
          | int i => exact n1 _ (by simp)
          | str x => exact n1 _ (by simp)
          | lst l => exact n1 _ (by simp)
          | tup l => cases hp
          | ins C' l => show PySem.W.notFirst Z.K (B.ad C) (.ref (g.ad C')) = true; rw [hB.ad]; exact n2 C' hp
          | feed => cases hp
        · rw [M.wp_bind] at w
          refine ⟨g.fd, T, [.ins C ds, d2], [], fo.toB, RpA.toB hB (.cons r1 (.cons r2 .nil)), .nil, M.wp_mono (fun z w v H' e r => ?_) w⟩
          obtain ⟨b, rfl, q⟩ := (r.ofB hB).bool w
          exact ⟨b, rfl, q H' e⟩
  · have w' : (eqPyB d1 d2).wp fun b => ∀ H', Ext g.fd H H' → Q b H' := by
      unfold eqB at w
      cases d1 <;> first | exact w | exact absurd ⟨_, _, rfl⟩ hi
    unfold eqPyB at w'
    cases e1 : d1.py with
    | none => rw [e1] at w'; exact w'.elim
    | some x =>
      cases e2 : d2.py with
      | none => rw [e1, e2] at w'; exact w'.elim
      | some y =>
        rw [e1, e2] at w'
        simp only at w'
        split at w'
        · rename_i hd
          obtain ⟨p1, c1⟩ := Rp.dp _ r1.on e1
          obtain ⟨p2, c2⟩ := Rp.dp _ r2.on e2
          exact .inl ⟨x, y, hK ▸ p1, hK ▸ p2, by unfold SeqAt.shaped; rw [c1, decide_eq_true (by omega)]; rfl, by unfold SeqAt.shaped; rw [c2, decide_eq_true (by omega)]; rfl, w' H fo.refl⟩
        · exact w'.elim
def rEqG (Z : Cx) (n : Nat) : R2 := fun x y H Q => rEqD Z.K x y H Q ∨ (rEqI Z CX0 n E0 x y H Q ∨ rEqN Z CX0 n E0 x y H Q)
def rNeG (Z : Cx) (n : Nat) : R2 := fun x y H Q => rNeD Z.K x y H Q ∨ rNeI Z CX0 n E0 x y H Q
theorem op_EqG {n : Nat} (hr : Room (n + 1) Z.A) : OpR Z (compareOp .Eq) (rEqG Z n) := OpR.or (op_eqD hr.units) (OpR.or (op_eqI (hr.mono (Nat.le_succ _)) pass0) (op_eqN (hr.mono (Nat.le_succ _)) pass0))
theorem op_NeG {n : Nat} (hr : Room (n + 1) Z.A) : OpR Z (compareOp .NotEq) (rNeG Z n) := OpR.or (op_neD hr.units) (op_neI hr pass0)
theorem spC.mono {f : List D → List D → M R} {vs zs : List V} {H : Hp} {Q Q' : VK} {E E' : XK} (h : ∀ v H', Q v H' → Q' v H') (q : spC B f vs zs H Q E) : spC B f vs zs H Q' E' := by
  obtain ⟨fd, T, ds, es, h1, h2, h3, w⟩ := q
  exact ⟨fd, T, ds, es, h1, h2, h3, M.wp_mono (fun z w v H' e r => h v H' (w v H' e r)) w⟩
/-- .. and of None on the left -/
def eqG (neg : Bool) (P : Nat → Bool) (sem : MSem) (d1 d2 : D) : M Bool := match neg, d1, d2 with
  | false, .non, .ins C ds => match sem C with
    | some f => (f [.ins C ds, .non] []).bind boolR
    | none => .fail
  | _, d1, d2 => eqB P sem d1 d2
def sEq (neg : Bool) (P : Nat → Bool) (sem : MSem) (f1 f2 : Se X) : Se X := fun Γ => (f1 Γ).bind fun x => (f2 Γ).bind fun y => (eqG neg P sem x.toD y.toD).bind fun b => .ret (.p (.bl (neg != b)))
theorem rdEq {n : Nat} {P : Nat → Bool} {neg : Bool} {sem : MSem} {S : List Addr} {σ : St} {H : Hp} {Γ : List Sl} {Q : VK} (hK : Z.K = g.K) (hB : SameB g B) (ok : EqOk Z.prog Z.w Z.K Z.mg Z.base B n P sem)
    (rl : Rl g T He S H Γ σ) (w : (sEq neg P sem f1 f2 Γ).wp fun x => ∀ v H', Ext g.fd H H' → RpX g T S H H' v x → Q v H') : tOp (if neg then rNeG Z n else rEqG Z n) (rdE g T He f1) (rdE g T He f2) σ H Q := by
  simp only [sEq, M.wp_bind, M.wp_ret] at w
  refine rdE.use rl (M.wp_mono (fun x w v1 H1 e1 l1 x1 => ?_) w)
  refine rdE.use l1 (M.wp_mono (fun y w v2 H2 e2 l2 x2 => ?_) w)
  have e12 := e1.trans e2
  have w' : (eqG neg P sem x.toD y.toD).wp fun b => ∀ H', Ext g.fd H2 H' → Q (.bl (neg != b)) H' := M.wp_mono (fun b q => fun (H' : Hp) (e : Ext g.fd H2 H') => q (.bl (neg != b)) H' (e12.trans e) (Rp.bl _)) w
  have x1' := (x1.mono e2 l1.t).toD
  have x2' := x2.toD
  by_cases hsp : neg = false ∧ x.toD = .non ∧ ∃ C ds, y.toD = .ins C ds
  · obtain ⟨rfl, hx, C, ds, hy⟩ := hsp
    rw [hx, hy] at w'
    rw [hx] at x1'
    rw [hy] at x2'
    unfold eqG at w'
    simp only at w'
    cases hs : sem C with
    | none => rw [hs] at w'; exact w'.elim
    | some f =>
      rw [hs] at w'
      simp only [M.wp_bind] at w'
      obtain ⟨m1, _⟩ := ok.mt.ok C f hs
      have x2on := x2'.on
      cases x1' with
      | non =>
        cases x2on with
        | @ins ad dx _ fv _ h1 hf h2 =>
          refine .inr (.inr ⟨ad, B.ad C, dx, fv, _, rfl, rfl, by rw [← hB.ad]; exact h1, m1, ok.nn C f hs, g.fd, T, [.ins C ds, .non], [], l2.fokT.toB, RpA.toB hB (.cons x2' (.cons .non .nil)), .nil, M.wp_mono (fun z w v H' e r => ?_) w'⟩)
          obtain ⟨b, rfl, q⟩ := (r.ofB hB).bool w
          have := q H' e
          simpa using this
  have eG' : ∀ (ng : Bool) (d1 d2 : D), ¬ (ng = false ∧ d1 = .non ∧ ∃ C ds, d2 = .ins C ds) → eqG ng P sem d1 d2 = eqB P sem d1 d2 := by
    intro ng d1 d2 h
    cases ng <;> cases d1 <;> cases d2 <;> first | rfl | exact absurd ⟨rfl, rfl, _, _, rfl⟩ h
  have eG := eG' _ _ _ hsp
  rw [eG] at w'
  have := eqB_use (E := E0) (Q := fun b H' => Q (.bl (neg != b)) H') hB ok hK l2.fokT x1' x2' w'
  cases neg with
  | false =>
    rcases this with ⟨d, e, h1, h2, h3, h4, q⟩ | ⟨ad, C, dx, fv, f, t, h1, h2, h3, h4, h5, h6, q⟩
    · exact .inl ⟨d, e, h1, h2, h3, h4, by simpa using q⟩
    · exact .inr (.inl ⟨ad, C, dx, fv, _, t, h1, h2, h3, h5, h6, spC.mono (fun v H' ⟨b, e, q⟩ => by rw [e]; simpa using q) q⟩)
  | true =>
    rcases this with ⟨d, e, h1, h2, h3, h4, q⟩ | ⟨ad, C, dx, fv, f, t, h1, h2, h3, h4, h5, h6, q⟩
    · exact .inl ⟨d, e, h1, h2, h3, h4, by simpa using q⟩
    · exact .inr ⟨ad, C, dx, fv, _, t, h1, h2, h3, h4, h5, h6, spC.mono (fun v H' ⟨b, e, q⟩ => ⟨b, e, by simpa using q⟩) q⟩
theorem ev_eq {n : Nat} {P : Nat → Bool} {sem : MSem} (hK : Z.K = g.K) (hB : SameB g B) (ok : EqOk Z.prog Z.w Z.K Z.mg Z.base B n P sem) (hr : Room (n + 1) Z.A) (ha : EV Z g T He a f1) (hb : EV Z g T He b f2) (hm : behindInMarks .Eq b = false) : EV Z g T He (.Compare a [.Eq] [b] pos) (sEq false P sem f1 f2) :=
  pe_w (pe_cmpR (op_EqG hr) ha hb hm) fun _ _ _ ⟨_, _, rl, w⟩ => rdEq (neg := false) hK hB ok rl w
theorem ev_ne {n : Nat} {P : Nat → Bool} {sem : MSem} (hK : Z.K = g.K) (hB : SameB g B) (ok : EqOk Z.prog Z.w Z.K Z.mg Z.base B n P sem) (hr : Room (n + 1) Z.A) (ha : EV Z g T He a f1) (hb : EV Z g T He b f2) (hm : behindInMarks .NotEq b = false) : EV Z g T He (.Compare a [.NotEq] [b] pos) (sEq true P sem f1 f2) :=
  pe_w (pe_cmpR (op_NeG hr) ha hb hm) fun _ _ _ ⟨_, _, rl, w⟩ => rdEq (neg := true) hK hB ok rl w
theorem et_eq {n : Nat} {P : Nat → Bool} {sem : MSem} (hK : Z.K = g.K) (hB : SameB g B) (ok : EqOk Z.prog Z.w Z.K Z.mg Z.base B n P sem) (hr : Room (n + 1) Z.A) (ha : EV Z g T He a f1) (hb : EV Z g T He b f2) (hm : behindInMarks .Eq b = false) : EB Z g T He (.Compare a [.Eq] [b] pos) (sB (sEq false P sem f1 f2)) :=
  pt_w (pt_cmpR (op_EqG hr) ha hb hm) fun _ _ _ ⟨_, _, rl, w⟩ => rdEq (neg := false) hK hB ok rl (sB_wp w)
theorem et_ne {n : Nat} {P : Nat → Bool} {sem : MSem} (hK : Z.K = g.K) (hB : SameB g B) (ok : EqOk Z.prog Z.w Z.K Z.mg Z.base B n P sem) (hr : Room (n + 1) Z.A) (ha : EV Z g T He a f1) (hb : EV Z g T He b f2) (hm : behindInMarks .NotEq b = false) : EB Z g T He (.Compare a [.NotEq] [b] pos) (sB (sEq true P sem f1 f2)) :=
  pt_w (pt_cmpR (op_NeG hr) ha hb hm) fun _ _ _ ⟨_, _, rl, w⟩ => rdEq (neg := true) hK hB ok rl (sB_wp w)
/-! repr, len of own instances -/
def sUnI (sem : MSem) (chk : R → M D) (f1 : Se X) : Se X := fun Γ => (f1 Γ).bind fun x => match x.toD with
  | .ins C ds => match sem C with
    | some f => (f [.ins C ds] []).bind fun z => (chk z).bind fun d => .ret (.p d)
    | none => .fail
  | _ => .fail
def chkS : R → M D
  | .at (.str z) => .ret (.str z)
  | .dt (.str z) => .ret (.str z)
  | _ => .fail
def chkN : R → M D
  | .at (.int i) => if 0 ≤ i ∧ i < 2 ^ 63 then .ret (.int i) else .fail
  | .dt (.int i) => if 0 ≤ i ∧ i < 2 ^ 63 then .ret (.int i) else .fail
  | _ => .fail
theorem RpR.chkS {T : List Addr} {H0 H : Hp} {v : V} {z : R} {P : D → Prop} (r : RpR g T H0 H v z) (w : (G.chkS z).wp P) : ∃ s, v = .str s ∧ PyData.strOk s = true ∧ P (.str s) := by
  cases z with
  | nw o => exact w.elim
  | «at» d =>
    cases d <;> first | exact w.elim | skip
    cases r with
    | str _ h => exact ⟨_, rfl, h, w⟩
  | dt d =>
    cases d <;> first | exact w.elim | skip
    cases (show Rp g _ v _ from r) with
    | str _ h => exact ⟨_, rfl, h, w⟩
theorem RpR.chkN {T : List Addr} {H0 H : Hp} {v : V} {z : R} {P : D → Prop} (r : RpR g T H0 H v z) (w : (G.chkN z).wp P) : ∃ i, v = .int i ∧ 0 ≤ i ∧ i < 2 ^ 63 ∧ P (.int i) := by
  cases z with
  | nw o => exact w.elim
  | «at» d =>
    cases d <;> first | exact w.elim | skip
    cases r
    unfold G.chkN at w
    simp only at w
    split at w
    · rename_i h; exact ⟨_, rfl, h.1, h.2, w⟩
    · exact w.elim
  | dt d =>
    cases d <;> first | exact w.elim | skip
    cases (show Rp g _ v _ from r)
    unfold G.chkN at w
    simp only at w
    split at w
    · rename_i h; exact ⟨_, rfl, h.1, h.2, w⟩
    · exact w.elim
theorem unI_use {n : Nat} {m : Str} {sem : MSem} {chk : R → M D} {S : List Addr} {σ : St} {H : Hp} {Γ : List Sl} {Q : VK} (hB : SameB g B) (ok : MtOk Z.prog Z.w Z.K Z.mg Z.base B n m [] sem) (rl : Rl g T He S H Γ σ) (w : (sUnI sem chk f1 Γ).wp fun x => ∀ v H', Ext g.fd H H' → RpX g T S H H' v x → Q v H') :
    rdE g T He f1 σ H fun v H1 => ∃ ad C dx fv f, v = .ref ad ∧ H1 ad = some (.ins C dx fv) ∧ MtC Z.prog Z.w Z.K Z.mg Z.base CX0 n C m [] (spC B f) ∧
      spC B f [.ref ad] [] H1 (fun v H' => ∃ z T' H0, RpR g T' H0 H' v z ∧ (chk z).wp fun d => ∀ v, Rp g (off H' (T ++ S)) v d → Q v H') E0 := by
  simp only [sUnI, M.wp_bind] at w
  refine rdE.use rl (M.wp_mono (fun x w v1 H1 e1 l1 x1 => ?_) w)
  have r := x1.toD
  have r' := x1.on
  cases hx : x.toD <;> rw [hx] at w r r' <;> first | exact w.elim | skip
  rename_i C ds
  simp only at w
  cases hs : sem C with
  | none => rw [hs] at w; exact w.elim
  | some f =>
    rw [hs] at w
    obtain ⟨m1, _⟩ := ok.ok C f hs
    cases r' with
    | @ins ad dx _ fv _ h1 hf h2 =>
      refine ⟨ad, B.ad C, dx, fv, f, rfl, by rw [← hB.ad]; exact h1, m1, ?_⟩
      simp only [M.wp_bind, M.wp_ret] at w
      refine ⟨g.fd, T, [.ins C ds], [], l1.fokT.toB, RpA.toB hB (.cons r .nil), .nil, M.wp_mono (fun z w v H' e r => ?_) w⟩
      exact ⟨z, T, H1, r.ofB hB, M.wp_mono (fun d q v rd => q v H' (e1.trans e) rd) w⟩
theorem spC.monoQ {f : List D → List D → M R} {vs zs : List V} {H : Hp} {Q Q' : VK} {E E' : XK} (h : ∀ v H', Q v H' → Q' v H') (q : spC B f vs zs H Q E) : spC B f vs zs H Q' E' := by
  obtain ⟨fd, T, ds, es, h1, h2, h3, w⟩ := q
  exact ⟨fd, T, ds, es, h1, h2, h3, M.wp_mono (fun z w v H' e r => h v H' (w v H' e r)) w⟩
theorem ev_repr {n : Nat} {sem : MSem} {px : Pos} (hB : SameB g B) (ok : MtOk Z.prog Z.w Z.K Z.mg Z.base B n "__repr__" [] sem) (hr : Room (n + 1) Z.A) (hg : Gl Z "repr") (hm : Z.mg "repr" = none) (ha : EV Z g T He a f1)
    (he : starEach (a :: []) Z.env = (false, eval a Z.env) :: starEach [] Z.env := by rfl) (hpl : (backTo pos (starEach [] Z.env)).any (·.1) = false := by rfl) :
    EV Z g T He (.Call (.Name "repr" px) [a] [] pos) (sUnI sem chkS f1) :=
  pe_w (pe_callB (call_reprI (E := E0) hr pass0) hg hm (by decide +kernel) (pa_cons ha pa_nil he) (by decide) (by decide) he hpl) fun σ H Q ⟨Γ, S, rl, w⟩ => by
    obtain ⟨Γ', S', rl', w'⟩ := unI_use (Q := Q) hB ok rl w
    refine ⟨Γ', S', rl', M.wp_mono (fun x h v H' e r => ?_) w'⟩
    obtain ⟨ad, C, dx, fv, f, h1, h2, h3, h4⟩ := h v H' e r
    refine ⟨ad, C, dx, fv, _, by rw [h1], h2, h3, h4.monoQ fun v H' ⟨z, T', H0, r, w⟩ => ?_⟩
    obtain ⟨s, rfl, o, q⟩ := r.chkS w
    exact ⟨⟨s, rfl⟩, q _ (.str s o)⟩
theorem ev_lenI {n : Nat} {sem : MSem} {px : Pos} (hB : SameB g B) (ok : MtOk Z.prog Z.w Z.K Z.mg Z.base B n "__len__" [] sem) (hr : Room (n + 1) Z.A) (hg : Gl Z "len") (hm : Z.mg "len" = none) (ha : EV Z g T He a f1)
    (he : starEach (a :: []) Z.env = (false, eval a Z.env) :: starEach [] Z.env := by rfl) (hpl : (backTo pos (starEach [] Z.env)).any (·.1) = false := by rfl) :
    EV Z g T He (.Call (.Name "len" px) [a] [] pos) (sUnI sem chkN f1) :=
  pe_w (pe_callB (call_lenI (E := E0) hr pass0) hg hm PySem.boot_len (pa_cons ha pa_nil he) (by decide) (by decide) he hpl) fun σ H Q ⟨Γ, S, rl, w⟩ => by
    obtain ⟨Γ', S', rl', w'⟩ := unI_use (Q := Q) hB ok rl w
    refine ⟨Γ', S', rl', M.wp_mono (fun x h v H' e r => ?_) w'⟩
    obtain ⟨ad, C, dx, fv, f, h1, h2, h3, h4⟩ := h v H' e r
    refine ⟨ad, C, dx, fv, _, by rw [h1], h2, h3, h4.monoQ fun v H' ⟨z, T', H0, r, w⟩ => ?_⟩
    obtain ⟨i, rfl, o1, o2, q⟩ := r.chkN w
    exact ⟨i, rfl, o1, o2, q _ (.int i)⟩
/-! ### a def's body gives its promise -/
def fin1 (p : Fl × List Sl) : M R :=
  match p.1 with
  | .rt z => .ret z
  | .nx => .ret (.at .non)
  | _ => .fail
def frame (n : Nat) (ds : List D) : List Sl := ds.map .v ++ List.replicate (n - ds.length) .no
/-- the run of a def with n names from its parameters' values -/
def runB (n : Nat) (fb : Sst) (ds : List D) : M R := (fb (frame n ds)).bind fin1
theorem start_get {N : List Str} {vs : List V} {i : Nat} {v : V} (h : vs[i]? = some v) : (L2.start N vs)[i]? = some (some v) := by
  unfold L2.start
  rw [List.getElem?_append_left (by rw [List.length_map]; exact (List.getElem?_eq_some_iff.mp h).1), List.getElem?_map, h]; rfl
theorem Rl.start {fd : Option (Addr × Addr)} {H : Hp} {N : List Str} {vs : List V} {ds : List D} (hB : SameB g B) (hf : g.fd = fd) (hs : g.self = none) (fo : FdOk (B.wf fd) T H) (r : RpA (B.wf fd) (off H T) vs ds) : Rl g T H [] H (frame N.length ds) (L2.start N vs) := by
  have l := r.length
  subst hf
  refine ⟨by unfold frame L2.start; simp [l], fun i s h => ?_, fun i j o o' a h1 h2 h3 h4 => ?_, fun a h => (by cases h), fun a h => (by cases h), fun p l h => ⟨(fo.fd p l h).1, (fo.fd p l h).2.tkl⟩, fo.tk, Ext.of_same (Same.refl _) fun p l h => (fo.fd p l h).2, fun a e => (by rw [hs] at e; cases e)⟩
  · unfold frame at h
    by_cases q : i < ds.length
    · rw [List.getElem?_append_left (by rw [List.length_map]; exact q), List.getElem?_map] at h
      obtain ⟨d, hd⟩ : ∃ d, ds[i]? = some d := ⟨ds[i], by simp [q]⟩
      rw [hd] at h
      cases h
      obtain ⟨v, h1, h2⟩ := r.get hd
      exact ⟨v, by rw [start_get h1]; rfl, by rw [List.append_nil]; exact Rp.cg (g := B.wf g.fd) hB.k.symm hB.ad.symm hB.fl.symm rfl _ h2⟩
    · rw [List.getElem?_append_right (by rw [List.length_map]; omega), List.getElem?_replicate] at h
      split at h
      · cases h; trivial
      · cases h
  · unfold frame at h1
    exfalso
    by_cases q : i < ds.length
    · rw [List.getElem?_append_left (by rw [List.length_map]; exact q), List.getElem?_map, Option.map_eq_some_iff] at h1
      obtain ⟨d, _, e⟩ := h1
      cases e
    · rw [List.getElem?_append_right (by rw [List.length_map]; omega), List.getElem?_replicate] at h1
      split at h1 <;> cases h1
variable {P : Program} {w : World} {K : PySem.W.Frag} {mg : Str → Option Value} {base : Heap}
theorem fn_run {qual : Str} {st : Stmt} {dvs : List V} {kwd : List (Str × V)} {f : Addr} {N ps : List Str} {fb : Sst} {k : Nat} (D : Fd K x qual st dvs kwd f) (S : FnScope N ps (defScope st)) (hBK : B.K = K)
    (hb : ∀ (cdv : Value) (A : Around) (outer : List Env) (s : Shared) (H : Hp) (E : XK) (fd : Option (Addr × Addr)) (T : List Addr), Room k (A.deeper (envOfC qual (defScope st) s.heap.objs.size f cdv)) →
      ESs (cxOf CX0 P w K mg base N qual (defScope st) f cdv A outer s H E).nox (B.wf fd) T H (defBody st) fb) :
    Fo P w K mg base CX0 (k + 1) x qual st dvs kwd f ps (spB B (runB N.length fb) ps.length) :=
  fo_mk D S (fun vs H Q E h => h.1) fun cdv A outer s H vs Q E hr ⟨hl, fd, T, ds, fo, r, w⟩ => ⟨_, hb cdv A outer s H E fd T hr, by
    refine ⟨frame N.length ds, [], Rl.start ⟨rfl, rfl, rfl⟩ rfl rfl fo r, ?_⟩
    simp only [runB, M.wp_bind] at w
    refine M.wp_mono (fun p w => ?_) w
    obtain ⟨fl, Γ1⟩ := p
    cases fl with
    | nx => exact fun σ' S' H' rl fr => w .non H' rl.ex .non
    | bk => exact w.elim
    | ct => exact w.elim
    | rt z => exact w⟩
end
end G
namespace G
open PySem PySem.Spec L2
open PyProof.Rows hiding St
/-! ### forms of calls -/
def permute {α : Type} (ix : List Nat) (xs : List α) : List α := ix.filterMap fun i => xs[i]?
theorem permute_vals {xs : List V} {us : List Value} (r : Vals xs us) : ∀ ix : List Nat, Vals (permute ix xs) (permute ix us)
  | [] => .nil
  | i :: ix => by
    have ih := permute_vals r ix
    unfold permute at ih ⊢
    rw [List.filterMap_cons, List.filterMap_cons]
    cases h : xs[i]? with
    | none => rw [r.none_of h]; exact ih
    | some x => obtain ⟨u, h1, h2⟩ := r.get h; rw [h1]; exact .cons h2 ih
theorem permute_rp {g : Cf} {H : Hp} {xs : List V} {us : List D} (r : RpA g H xs us) : ∀ ix : List Nat, RpA g H (permute ix xs) (permute ix us)
  | [] => .nil
  | i :: ix => by
    have ih := permute_rp r ix
    unfold permute at ih ⊢
    rw [List.filterMap_cons, List.filterMap_cons]
    cases h : xs[i]? with
    | none =>
      have : us[i]? = none := by
        rw [List.getElem?_eq_none_iff] at h ⊢
        rw [← r.length]; exact h
      rw [this]; exact ih
    | some x => obtain ⟨u, h1, h2⟩ := r.getV h; rw [h1]; exact .cons h2 ih
theorem permute_len {α : Type} {xs : List α} : ∀ {ix : List Nat}, (∀ i ∈ ix, i < xs.length) → (permute ix xs).length = ix.length
  | [], _ => rfl
  | i :: ix, h => by
    have ih := permute_len (xs := xs) (ix := ix) fun j hj => h j (List.mem_cons_of_mem _ hj)
    unfold permute at ih ⊢
    rw [List.filterMap_cons, List.getElem?_eq_getElem (h i List.mem_cons_self)]
    exact congrArg Nat.succ ih
def runF {α : Type} (n : Nat) (ix : List Nat) (dd : List D) (sem : List D → M α) (ds es : List D) : M α := if ds.length = n then sem (permute ix (ds ++ es ++ dd)) else .fail
section
variable {B : Cf} {P : Program} {w : World} {K : PySem.W.Frag} {mg : Str → Option Value} {base : Heap} {k n : Nat} {x qual : Str} {st : Stmt} {dvs : List V} {kwd : List (Str × V)} {f : Addr} {ps ks : List Str} {sem : List D → M R} {ix : List Nat} {dv : List V} {dd : List D}
/-- how a form of call binds -/
def KbOk (K : PySem.W.Frag) (x qual : Str) (st : Stmt) (dvs : List V) (kwd : List (Str × V)) (f : Addr) (ps : List Str) (n : Nat) (ks : List Str) (ix : List Nat) (dv : List V) : Prop :=
  ∀ fd, FunD K x qual (defArgs st) (defBody st) (defScope st) dvs kwd f fd → ∃ xv : List Value, KBn K fd ps n ks (fun us ws => permute ix (us ++ ws ++ xv)) (fun vs zs => permute ix (vs ++ zs ++ dv))
theorem form_of (o : Fo P w K mg base CX0 k x qual st dvs kwd f ps (spB B sem ps.length)) (kb : KbOk K x qual st dvs kwd f ps n ks ix dv) (hd : ∀ fd H, RpA (B.wf fd) H dv dd) (hix : ix.length = ps.length) (hlt : ∀ i ∈ ix, i < n + ks.length + dv.length) :
    FnA P w K mg base CX0 k f ks (spC B (runF n ix dd sem)) := by
  obtain ⟨fd, F, ok⟩ := o.ex
  obtain ⟨xv, kbn⟩ := kb fd F
  refine ⟨fun A outer s H us ws vs zs Q E hr he r1 r2 l hs => ?_⟩
  obtain ⟨fo, T, ds, es, h1, h2, h3, h4⟩ := hs
  unfold runF at h4
  split at h4
  rotate_left
  · exact h4.elim
  rename_i hn
  have lv : vs.length = n := by rw [h2.length]; exact hn
  have hlen : (permute ix (vs ++ zs ++ dv)).length = ps.length := by
    rw [permute_len fun i hi => ?_, hix]
    have := hlt i hi
    simp only [List.length_append]
    omega
  exact (ok.toK kbn).run A outer s H us ws vs zs Q E hr he r1 r2 l ⟨lv, hlen, fo, T, _, h1, permute_rp ((h2.append h3).append (hd fo _)) ix, h4⟩
theorem kbA (h : ∀ (kV doc pm : Value) (an : Option Addr) (cdv ct : Value) (us ws : List Value), us.length = n → ws.length = ks.length →
      bindArgs (PySem.W.fnOf x qual (defArgs st) (defBody st) (defScope st) .none kV doc pm an cdv ct) ⟨us, ks.zip ws⟩ = pure (ps.zip (permute ix (us ++ ws ++ [])))) : KbOk K x qual st [] kwd f ps n ks ix [] := fun fd F => by
  obtain ⟨oc, od, dV, kV, doc, pm, an, cdv, ct, osl, rfl, lk, hcd, hD, hK⟩ := F.ex
  rcases hD with ⟨_, rfl⟩ | ⟨e, _⟩
  · exact ⟨[], fun s us ws _ l1 l2 => .of_eq (h kV doc pm an cdv ct us ws l1 l2), fun r1 r2 => permute_vals ((r1.append r2).append .nil) ix⟩
  · exact absurd rfl e
theorem kbB {ms : List (Str × V)} (hk : kwd ≠ []) (hms : ∀ q ∈ ms, q ∈ kwd) (h : ∀ (D : Addr) (doc pm : Value) (an : Option Addr) (cdv ct : Value) (us ws mv : List Value), us.length = n → ws.length = ks.length → mv.length = ms.length →
      KwChain D ((ms.map (·.1)).zip mv) (bindArgs (PySem.W.fnOf x qual (defArgs st) (defBody st) (defScope st) .none (.ref D) doc pm an cdv ct) ⟨us, ks.zip ws⟩) (ps.zip (permute ix (us ++ ws ++ mv)))) : KbOk K x qual st [] kwd f ps n ks ix (ms.map (·.2)) := fun fd F => by
  obtain ⟨oc, od, dV, kV, doc, pm, an, cdv, ct, osl, rfl, lk, hcd, hD, hK⟩ := F.ex
  rcases hD with ⟨_, rfl⟩ | ⟨e, _⟩
  · rcases hK with e | ⟨D, rfl, hq⟩
    · exact absurd e hk
    · obtain ⟨mv, hl, rk, hks⟩ := kwd_vals (ms := ms) fun q hm => hq q (hms q hm)
      refine ⟨mv, fun s us ws X l1 l2 => ?_, fun r1 r2 => permute_vals ((r1.append r2).append rk) ix⟩
      exact BindsTo.of_looks fun M => KwChain.looks X hks (h D doc pm an cdv ct us ws mv l1 l2 hl)
  · exact absurd rfl e
theorem kbC (hd : dvs ≠ []) (h : ∀ (T : Addr) (kV doc pm : Value) (an : Option Addr) (cdv ct : Value) (us ws its : List Value), us.length = n → ws.length = ks.length → its.length = dvs.length →
      ∃ k, bindArgs (PySem.W.fnOf x qual (defArgs st) (defBody st) (defScope st) (.ref T) kV doc pm an cdv ct) ⟨us, ks.zip ws⟩ = seqItems? (.ref T) >>= k ∧ k (some its.toArray) = pure (ps.zip (permute ix (us ++ ws ++ its)))) : KbOk K x qual st dvs kwd f ps n ks ix dvs := fun fd F => by
  obtain ⟨oc, od, dV, kV, doc, pm, an, cdv, ct, osl, rfl, lk, hcd, hD, hK⟩ := F.ex
  rcases hD with ⟨e, _⟩ | ⟨_, T, o, its, m, rfl, lT, oT, rT⟩
  · exact absurd e hd
  · refine ⟨its, fun s us ws X l1 l2 => ?_, fun r1 r2 => permute_vals ((r1.append r2).append rT) ix⟩
    obtain ⟨k, e1, e2⟩ := h T kV doc pm an cdv ct us ws its l1 l2 rT.length.symm
    refine BindsTo.of_looks fun M => ?_
    rw [e1]
    exact looks_items X lT oT (by rw [e2]; exact PySem.W.Looks.of_pure rfl)
theorem kbD {ms : List (Str × V)} (hd : dvs ≠ []) (hk : kwd ≠ []) (hms : ∀ q ∈ ms, q ∈ kwd) (h : ∀ (T D : Addr) (doc pm : Value) (an : Option Addr) (cdv ct : Value) (us ws its mv : List Value), us.length = n → ws.length = ks.length → its.length = dvs.length → mv.length = ms.length →
      ∃ k, bindArgs (PySem.W.fnOf x qual (defArgs st) (defBody st) (defScope st) (.ref T) (.ref D) doc pm an cdv ct) ⟨us, ks.zip ws⟩ = seqItems? (.ref T) >>= k ∧ KwChain D ((ms.map (·.1)).zip mv) (k (some its.toArray)) (ps.zip (permute ix (us ++ ws ++ (its ++ mv))))) : KbOk K x qual st dvs kwd f ps n ks ix (dvs ++ ms.map (·.2)) := fun fd F => by
  obtain ⟨oc, od, dV, kV, doc, pm, an, cdv, ct, osl, rfl, lk, hcd, hD, hK⟩ := F.ex
  rcases hD with ⟨e, _⟩ | ⟨_, T, o, its, m, rfl, lT, oT, rT⟩
  · exact absurd e hd
  · rcases hK with e | ⟨D, rfl, hq⟩
    · exact absurd e hk
    · obtain ⟨mv, hl, rk, hks⟩ := kwd_vals (ms := ms) fun q hm => hq q (hms q hm)
      refine ⟨its ++ mv, fun s us ws X l1 l2 => ?_, fun r1 r2 => permute_vals ((r1.append r2).append (rT.append rk)) ix⟩
      obtain ⟨k, e1, e2⟩ := h T D doc pm an cdv ct us ws its mv l1 l2 rT.length.symm hl
      refine BindsTo.of_looks fun M => ?_
      rw [e1]
      exact looks_items X lT oT (KwChain.looks X hks e2)
/-! ### __init__ -/
/-- a def's own promise, of __init__: the new instance at x, then the others -/
def spJ (B : Cf) (C : Nat) (sem : List D → M O) (n : Nat) : Sp := fun vs H Q _ => vs.length = n ∧ ∃ x dx He fd T us ds, vs = .ref x :: us ∧ H = upd (upd He dx (.own x)) x (.ins (B.ad C) dx []) ∧ He x = none ∧ He dx = none ∧ dx ≠ x ∧ FdOk (B.wf fd) T He ∧ RpA (B.wf fd) (off He T) us ds ∧
  (sem ds).wp fun o => ∀ H', Ext fd He H' → RpO (B.wf fd) (x :: T) H' x o → Q .non H'
def finI (p : Fl × List Sl) : M O :=
  match p.1, (p.2[0]? : Option Sl) with
  | Fl.nx, some (Sl.c o) => .ret o
  | _, _ => .fail
/-- the run of an __init__ with n names -/
def runI (C n : Nat) (fb : Sst) (ds : List D) : M O := (fb (.c (.i C []) :: frame (n - 1) ds)).bind finI
abbrev Cf.wfs (B : Cf) (fd : Option (Addr × Addr)) (x : Addr) : Cf := { B with fd := fd, self := some x }
theorem Rl.startI {fd : Option (Addr × Addr)} {He : Hp} {T : List Addr} {N : List Str} {us : List V} {ds : List D} {x dx : Addr} {C : Nat} (hx : He x = none) (hdx : He dx = none) (ne : dx ≠ x) (fo : FdOk (B.wf fd) T He) (r : RpA (B.wf fd) (off He T) us ds) (hN : us.length < N.length) :
    Rl (B.wfs fd x) T He [x] (upd (upd He dx (.own x)) x (.ins (B.ad C) dx [])) (.c (.i C []) :: frame (N.length - 1) ds) (L2.start N (.ref x :: us)) := by
  have l := r.length
  have sm := made_same2 (o1 := .own x) (o2 := .ins (B.ad C) dx []) hx hdx ne
  have ex : Ext fd He (upd (upd He dx (.own x)) x (.ins (B.ad C) dx [])) := Ext.of_same sm fun p l h => (fo.fd p l h).2
  have es : L2.start N (.ref x :: us) = some (.ref x) :: (us.map some ++ List.replicate (N.length - 1 - us.length) none) := by
    unfold L2.start
    rw [List.map_cons, List.length_cons, List.cons_append]
    congr 3
    omega
  rw [es]
  have slots : ∀ (i : Nat) (s : Sl), (frame (N.length - 1) ds)[i]? = some s → SlOk (B.wfs fd x) T [x] (upd (upd He dx (.own x)) x (.ins (B.ad C) dx [])) ((us.map some ++ List.replicate (N.length - 1 - us.length) none)[i]?.join) s := fun i s h => by
    unfold frame at h
    by_cases q : i < ds.length
    · rw [List.getElem?_append_left (by rw [List.length_map]; exact q), List.getElem?_map] at h
      obtain ⟨d, hd⟩ : ∃ d, ds[i]? = some d := ⟨ds[i], by simp [q]⟩
      rw [hd] at h
      cases h
      obtain ⟨v, h1, h2⟩ := r.get hd
      refine ⟨v, ?_, ?_⟩
      · rw [List.getElem?_append_left (by rw [List.length_map, l]; exact q), List.getElem?_map, h1]; rfl
      · have h3 : Rp (B.wf fd) (off He (T ++ [x])) v d := h2.mono (by have := off_free (T := T) (S := []) hx; rw [List.append_nil] at this; exact this)
        exact Rp.cg (g := B.wf fd) (g' := B.wfs fd x) rfl rfl rfl rfl _ (h3.mono (sm.offT _))
    · rw [List.getElem?_append_right (by rw [List.length_map]; omega), List.getElem?_replicate] at h
      split at h
      · cases h; trivial
      · cases h
  have nocell : ∀ (i : Nat) (o : O), (frame (N.length - 1) ds)[i]? ≠ some (.c o) := fun i o h => by
    unfold frame at h
    by_cases q : i < ds.length
    · rw [List.getElem?_append_left (by rw [List.length_map]; exact q), List.getElem?_map, Option.map_eq_some_iff] at h
      obtain ⟨d, _, e⟩ := h
      cases e
    · rw [List.getElem?_append_right (by rw [List.length_map]; omega), List.getElem?_replicate] at h
      split at h <;> cases h
  refine ⟨by unfold frame; simp; omega, fun i s h => ?_, fun i j o o' a h1 h2 h3 h4 => ?_, fun a h => ?_, fun a h => ?_, fun p l h => ⟨(fo.fd p l h).1, (fo.fd p l h).2.tkl⟩, fo.tk, ex, fun a e => ?_⟩
  · cases i with
    | zero =>
      simp only [List.getElem?_cons_zero, Option.some.injEq] at h
      subst h
      exact ⟨x, rfl, List.mem_singleton.mpr rfl, dx, [], upd_same, rfl, .nil⟩
    | succ i =>
      simp only [List.getElem?_cons_succ] at h ⊢
      exact slots i s h
  · cases i with
    | zero => cases j with
      | zero => rfl
      | succ j => simp only [List.getElem?_cons_succ] at h2; exact absurd h2 (nocell j o')
    | succ i => simp only [List.getElem?_cons_succ] at h1; exact absurd h1 (nocell i o)
  · rw [List.mem_singleton.mp h, upd_same]; intro z; cases z
  · rw [List.mem_singleton.mp h]; exact hx
  · cases e; rfl
theorem fn_init {N : List Str} {fb : Sst} {C : Nat} (D : Fd K x qual st dvs kwd f) (S : FnScope N ps (defScope st)) (hps : 0 < ps.length) (hpN : ps.length ≤ N.length)
    (hb : ∀ (cdv : Value) (A : Around) (outer : List Env) (s : Shared) (H He : Hp) (E : XK) (fd : Option (Addr × Addr)) (T : List Addr) (a : Addr), Room k (A.deeper (envOfC qual (defScope st) s.heap.objs.size f cdv)) →
      ESs (cxOf CX0 P w K mg base N qual (defScope st) f cdv A outer s H E).nox (B.wfs fd a) T He (defBody st) fb) :
    Fo P w K mg base CX0 (k + 1) x qual st dvs kwd f ps (spJ B C (runI C N.length fb) ps.length) :=
  fo_mk D S (fun vs H Q E h => h.1) fun cdv A outer s H vs Q E hr ⟨hl, a, dx, He, fd, T, us, ds, e1, e2, hx, hdx, ne, fo, r, w⟩ => ⟨_, hb cdv A outer s H He E fd T a hr, by
    subst e1
    subst e2
    refine ⟨_, [a], Rl.startI hx hdx ne fo r (by simp only [List.length_cons] at hl; omega), ?_⟩
    simp only [runI, M.wp_bind] at w
    refine M.wp_mono (fun p w => ?_) w
    obtain ⟨fl, Γ1⟩ := p
    unfold finI at w
    cases fl with
    | bk => exact w.elim
    | ct => exact w.elim
    | rt z => exact w.elim
    | nx =>
      split at w <;> first | exact w.elim | skip
      rename_i o _ h0
      intro σ' S' H' rl fr
      obtain ⟨b, h1, h2, h3⟩ := rl.sl 0 _ h0
      have s0 := rl.s0 a rfl
      rw [s0] at h1
      cases h1
      have h4 : RpO (B.wfs fd a) (a :: T) H' a o := h3.sub fun b hb => (by
        rcases List.mem_cons.mp hb with rfl | hb
        · exact List.mem_append_right _ h2
        · exact List.mem_append_left _ hb)
      exact w H' rl.ex (RpO.cg (g := B.wfs fd a) (g' := B.wf fd) rfl rfl rfl rfl h4)⟩
theorem form_init {semI : List D → M O} {C : Nat} (o : Fo P w K mg base CX0 k x qual st dvs kwd f ps (spJ B C semI ps.length)) (kb : KbOk K x qual st dvs kwd f ps (n + 1) ks (0 :: ix.map (· + 1)) dv) (hd : ∀ fd H, RpA (B.wf fd) H dv dd) (hix : ix.length + 1 = ps.length) (hlt : ∀ i ∈ ix, i < n + ks.length + dv.length) :
    FnA P w K mg base CX0 k f ks (spI B C (runF n ix dd semI)) := by
  obtain ⟨fd, F, ok⟩ := o.ex
  obtain ⟨xv, kbn⟩ := kb fd F
  refine ⟨fun A outer s H us ws vs zs Q E hr he r1 r2 l hs => ?_⟩
  obtain ⟨a, dx, He, fo, T, vs', ds, es, rfl, e2, hx, hdx, ne, h1, h2, h3, h4⟩ := hs
  unfold runF at h4
  split at h4
  rotate_left
  · exact h4.elim
  rename_i hn
  have lv : vs'.length = n := by rw [h2.length]; exact hn
  have key : permute (0 :: ix.map (· + 1)) (V.ref a :: vs' ++ zs ++ dv) = V.ref a :: permute ix (vs' ++ zs ++ dv) := by
    unfold permute
    rw [List.filterMap_cons, List.filterMap_map]
    rfl
  have hlen : (permute ix (vs' ++ zs ++ dv)).length = ix.length := by
    rw [permute_len fun i hi => ?_]
    have := hlt i hi
    simp only [List.length_append]
    omega
  refine (ok.toK kbn).run A outer s H us ws (.ref a :: vs') zs Q E hr he r1 r2 l ⟨by rw [List.length_cons, lv], ?_⟩
  rw [key]
  exact ⟨by rw [List.length_cons, hlen, hix], a, dx, He, fo, T, _, _, rfl, e2, hx, hdx, ne, h1, permute_rp ((h2.append h3).append (hd fo _)) ix, h4⟩
/-! ### the drawing of numbers -/
def semTake (ds es : List D) : M R := match ds, es with
  | [.feed, .int m], [] => if 0 < m ∧ m < 1000 then .draw m.toNat fun r => .ret (.at (.int (r : Nat))) else .fail
  | _, _ => .fail
theorem FnOk.toTake {fd : FuncData} {ps : List Str} {ds : List Value} (F : FnOk P w K mg base CX0 k f fd ps spTake) (hb : Binds K fd ps ds) (hd : Vals [] ds) : FnA P w K mg base CX0 k f [] (spC B semTake) :=
  (F.toA hb hd).imp fun vs zs H Q E ⟨fdd, T, ds, es, fo, r1, r2, w⟩ => by
    unfold semTake at w
    split at w <;> first | exact w.elim | skip
    rename_i m
    split at w <;> first | exact w.elim | skip
    rename_i hm
    cases r1 with
    | cons h t =>
      cases h with
      | @feed p l hp =>
        cases t with
        | cons h t =>
          cases h
          cases t
          have hfd : fdd = some (p, l) := hp
          refine ⟨p, l, m, rfl, (fo.fd p l hp).2, hm.1, hm.2, fun r H' h0 h1 mv => ?_⟩
          have e : r = ((r.toNat : Nat) : Int) := (Int.toNat_of_nonneg h0).symm
          rw [e]
          refine w r.toNat (by omega) _ H' ⟨fun b o n hb => mv.1 b o (n p l hfd) hb, fun p' l' h => ?_⟩ (.int _)
          rw [hfd] at h
          cases h
          exact mv.2
end
end G
namespace G
open PySem PySem.Spec L2
open PyProof.Rows hiding St
/-! ### starred items, a star parameter of __init__ -/
def starD : X → M (List D)
  | .p (.lst ds) => .ret ds
  | .p (.tup ds) => .ret ds
  | .c (.l ds) => .ret ds
  | .b (.l ds) => .ret ds
  | _ => .fail
def sStar (f1 : Se X) (fs : Se (List X)) : Se (List X) := fun Γ => (f1 Γ).bind fun x => (starD x).bind fun ds => (fs Γ).bind fun xs => .ret (ds.map X.p ++ xs)
section
variable {Z : Cx} {g : Cf} {T : List Addr} {He : Hp} {e : Expr} {es : List Expr} {f1 : Se X} {fs : Se (List X)}
theorem RpA.xs {S : List Addr} {H0 H : Hp} : ∀ {vs : List V} {ds : List D}, RpA g (off H (T ++ S)) vs ds → RpXs g T S H0 H vs (ds.map X.p)
  | _, _, .nil => .nil
  | _, _, .cons h t => .cons h (RpA.xs t)
theorem RpXs.app {S : List Addr} {H0 H : Hp} : ∀ {vs us : List V} {xs ys : List X}, RpXs g T S H0 H vs xs → RpXs g T S H0 H us ys → RpXs g T S H0 H (vs ++ us) (xs ++ ys)
  | _, _, _, _, .nil, s => s
  | _, _, _, _, .cons h t, s => .cons h (RpXs.app t s)
theorem ea_star {p : Pos} (hK : Z.K = g.K) (he : EV Z g T He e f1) (hr : EA Z g T He es fs) (hs : starEach (.Starred e p :: es) Z.env = (true, eval e Z.env) :: starEach es Z.env := by rfl) : EA Z g T He (.Starred e p :: es) (sStar f1 fs) :=
  pa_w (StX.pa_star he hr hs) fun σ H Q ⟨Γ, S, rl, w⟩ => by
    simp only [sStar, M.wp_bind, M.wp_ret] at w
    refine rdE.use rl (M.wp_mono (fun x w v1 H1 e1 l1 x1 => ?_) w)
    have key : ∀ (p : Addr) (vs : List V) (ds : List D), starD x = .ret ds → v1 = .ref p → (SqT Z.K H1 p vs ∨ SqL Z.K H1 p vs) → RpA g (off H1 (T ++ S)) vs ds → ∃ p xs, v1 = V.ref p ∧ (SqT Z.K H1 p xs ∨ SqL Z.K H1 p xs) ∧ rdA g T He fs σ H1 fun ys H2 => Q (xs ++ ys) H2 := by
      intro p vs ds hd hv hs hr
      rw [hd] at w
      refine ⟨p, vs, hv, hs, rdA.use l1 (M.wp_mono (fun xs w us H2 e2 l2 xx => ?_) w)⟩
      exact w (vs ++ us) H2 (e1.trans e2) (((hr.xs (H0 := H)).mono e2 l1.t).app (xx.early e1 l1.t))
    have key' := fun p vs ds a b c d => key p vs ds a b (hK ▸ c) d
    clear key
    revert w key'
    unfold starD
    split <;> intro w key' <;> first | exact w.elim | skip
    · cases x1 with
      | lst h1 h2 => exact key' _ _ _ rfl rfl (.inr (SqL.of (off_same _ _ _ _ h1))) h2
    · cases x1 with
      | tup h1 h2 => exact key' _ _ _ rfl rfl (.inl (Same.seqTT (off_same _ _) h1)) h2
    · obtain ⟨ad, rfl, _, n, vs, h1, h2⟩ := x1
      exact key' _ _ _ rfl rfl (.inr (SqL.of h1)) (RpA.mono (off_sub (H := H1) fun b hb => List.mem_cons_of_mem ad hb) _ h2)
    · obtain ⟨ad, rfl, _, n, vs, h1, h2⟩ := x1
      exact key' _ _ _ rfl rfl (.inr (SqL.of h1)) h2
end
/-- the run of an __init__(self, *v) -/
def runStarI {α : Type} (sem : List D → M α) (ds es : List D) : M α := if es.length = 0 ∧ ds.length ≤ 100000 then sem [.tup ds] else .fail
section
variable {P : Program} {w : World} {K : PySem.W.Frag} {mg : Str → Option Value} {base : Heap} {k : Nat} {x qual : Str} {st : Stmt} {f : Addr} {B : Cf}
theorem fn_initS {N : List Str} {pv : Str} {fb : Sst} {C : Nat} (D : Fd K x qual st [] [] f) (S : FnScope N ["self", pv] (defScope st)) (hpN : 2 ≤ N.length)
    (hB : ∀ (kV doc pm : Value) (an : Option Addr) (cdv ct : Value) (us rest : List Value), us.length = 1 → bindArgs (PySem.W.fnOf x qual (defArgs st) (defBody st) (defScope st) .none kV doc pm an cdv ct) ⟨us ++ rest, []⟩ = (newTuple rest >>= fun t => pure (([("self" : Str)]).zip us ++ [(pv, t)])))
    (hb : ∀ (cdv : Value) (A : Around) (outer : List Env) (s : Shared) (H He : Hp) (E : XK) (fd : Option (Addr × Addr)) (T : List Addr) (a : Addr), Room k (A.deeper (envOfC qual (defScope st) s.heap.objs.size f cdv)) →
      ESs (cxOf CX0 P w K mg base N qual (defScope st) f cdv A outer s H E).nox (B.wfs fd a) T He (defBody st) fb) :
    FnA P w K mg base CX0 (k + 1) f [] (spI B C (runStarI (runI C N.length fb))) := by
  have o := fo_star0 (mg := mg) (base := base) (P := P) (w := w) (k := k) (ps := ["self"]) (pv := pv) (N := N) D S hB
    (sp := fun vs H Q _ => ∃ x dx p He fd T us ds, vs = [.ref x, .ref p] ∧ H = upd (upd (upd He dx (.own x)) x (.ins (B.ad C) dx [])) p (.tup us) ∧ He x = none ∧ He dx = none ∧ dx ≠ x ∧ upd (upd He dx (.own x)) x (.ins (B.ad C) dx []) p = none ∧ FdOk (B.wf fd) T He ∧ RpA (B.wf fd) (off He T) us ds ∧
      (runI C N.length fb [.tup ds]).wp fun o => ∀ H', Ext fd He H' → RpO (B.wf fd) (x :: T) H' x o → Q .non H')
    fun cdv A outer s H vs Q E hr ⟨a, dx, p, He, fd, T, us, ds, e1, e2, hx, hdx, ne, hp, fo, r, w⟩ => ⟨_, hb cdv A outer s H He E fd T a hr, by
    subst e1
    subst e2
    have l0 := Rl.startI (B := B) (fd := fd) (T := T) (N := N) (us := []) (ds := []) (C := C) hx hdx ne fo .nil (by simp only [List.length_nil]; omega)
    have r1 : RpA (B.wf fd) (off (upd (upd He dx (.own a)) a (.ins (B.ad C) dx [])) (T ++ [a])) us ds := by
      refine RpA.mono ?_ _ r
      have := off_free (T := T) (S := []) hx
      rw [List.append_nil] at this
      exact this.trans ((made_same2 hx hdx ne).offT _)
    have hn := l0.freeTS hp
    have l1 := l0.mono (l0.ext_new (o := .tup us) hp)
    have rt : Rp (B.wf fd) (off (upd (upd (upd He dx (.own a)) a (.ins (B.ad C) dx [])) p (.tup us)) (T ++ [a])) (.ref p) (.tup ds) :=
      .tup (SqT.of (by rw [off_ne hn]; exact upd_same)) (RpA.mono ((Same.newT hp).offT _) _ r1)
    have l2 := l1.set_v (i := 1) (.inl (by decide)) (Rp.cg (g := B.wf fd) (g' := B.wfs fd a) rfl rfl rfl rfl _ rt)
    obtain ⟨n, hn2⟩ : ∃ n, N.length = n + 2 := ⟨N.length - 2, by omega⟩
    have es : (L2.start N [.ref a]).set 1 (some (.ref p)) = L2.start N [.ref a, .ref p] := by
      unfold L2.start
      simp only [hn2, List.length_cons, List.length_nil, List.map_cons, List.map_nil]
      rfl
    have eg : ((.c (.i C []) :: frame (N.length - 1) []).set 1 (.v (.tup ds)) : List Sl) = .c (.i C []) :: frame (N.length - 1) [.tup ds] := by
      rw [hn2]
      rfl
    rw [es, eg] at l2
    refine ⟨_, [a], l2, ?_⟩
    simp only [runI, M.wp_bind] at w
    refine M.wp_mono (fun p w => ?_) w
    obtain ⟨fl, Γ1⟩ := p
    unfold finI at w
    cases fl with
    | bk => exact w.elim
    | ct => exact w.elim
    | rt z => exact w.elim
    | nx =>
      split at w <;> first | exact w.elim | skip
      rename_i o _ h0
      intro σ' S' H' rl fr
      obtain ⟨b, h1, h2, h3⟩ := rl.sl 0 _ h0
      have s0 := rl.s0 a rfl
      rw [s0] at h1
      cases h1
      have h4 : RpO (B.wfs fd a) (a :: T) H' a o := h3.sub fun b hb => (by
        rcases List.mem_cons.mp hb with rfl | hb
        · exact List.mem_append_right _ h2
        · exact List.mem_append_left _ hb)
      exact w H' rl.ex (RpO.cg (g := B.wfs fd a) (g' := B.wf fd) rfl rfl rfl rfl h4)⟩
  refine o.imp fun vs zs H Q E ⟨a, dx, He, fd, T, us, ds, es, h1, h2, hx, hdx, ne, fo, r, rz, w⟩ => ?_
  unfold runStarI at w
  split at w
  · rename_i hz
    refine ⟨[.ref a], us, h1, rfl, big (by rw [r.length]; exact hz.2), fun p hp => ⟨a, dx, p, He, fd, T, us, ds, rfl, ?_, hx, hdx, ne, ?_, fo, r, w⟩⟩
    · rw [h2]
    · rw [← h2]; exact hp
  · exact w.elim
end
section
variable {Z : Cx} {g : Cf} {T S : List Addr} {H0 He H : Hp} {a : Addr} {Γ : List Sl} {σ : St}
/-- a new object that no name holds yet -/
theorem Rl.ext_c (r : Rl g T He S H0 Γ σ) (e : Ext g.fd H0 H) (hn : H0 a = none) (ht : H a ≠ none) : Rl g T He (a :: S) H Γ σ := by
  have t' : ∀ p l, g.fd = some (p, l) → p ∈ T ++ (a :: S) := fun p l h => List.mem_append_left _ (r.t p l h)
  have sm : Same (off H0 (T ++ S)) (off H (T ++ (a :: S))) := (off_free hn).trans (e.off t')
  refine ⟨r.len, fun j s q => ?_, r.ne, fun b h => ?_, fun b h => ?_, r.ft, r.tt, r.ex.trans e, r.s0⟩
  · have y := r.sl j s q
    cases s with
    | no => trivial
    | v d => obtain ⟨v, h1, h2⟩ := y; exact ⟨v, h1, h2.mono sm⟩
    | c o' => obtain ⟨b, h1, h2, h3⟩ := y; exact ⟨b, h1, List.mem_cons_of_mem _ h2, h3.mono (fun o' h => e.at r.t (r.nT h2) h) sm⟩
  · rcases List.mem_cons.mp h with rfl | h
    · exact ht
    · cases q : H0 b with
      | none => exact absurd q (r.tk b h)
      | some u => rw [e.at r.t (r.nT h) q]; intro z; cases z
  · rcases List.mem_cons.mp h with rfl | h
    · exact r.ex.free hn fun p l h z => by
        have := (r.feed h).tk
        rw [← z] at this
        exact this hn
    · exact r.nw b h
theorem RpO.tk {o : O} (r : RpO g T H a o) : H a ≠ none := by
  cases o with
  | l ds => obtain ⟨vs, h1, _⟩ := r; rw [h1]; intro z; cases z
  | i C fs => obtain ⟨dx, fv, h1, _⟩ := r; rw [h1]; intro z; cases z
def sPar2 (kx ky : Bool) (i j : Nat) (f1 f2 : Se X) : Sst := fun Γ => (f1 Γ).bind fun x => (f2 Γ).bind fun y => (asgX kx i x Γ).bind fun Γ1 => (asgX ky j y Γ1).bind fun Γ2 => M.ret (Fl.nx, Γ2)
theorem es_par2 {kx ky : Bool} {i j : Nat} {x y : Str} {a b : Expr} {f1 f2 : Se X} {px py pt pos : Pos} {kt k2 pt2} (h0 : g.ok0 i) (h0' : g.ok0 j) (hc : Z.calm = true) (hN : Z.N.Nodup) (hi : Z.N[i]? = some x) (hj : Z.N[j]? = some y) (hij : i ≠ j)
    (hx : Z.env.scope.names.lookup x = some .local) (hy : Z.env.scope.names.lookup y = some .local) (ha : EV Z g T He a f1) (hb : EV Z g T He b f2)
    (hw : swappedStores [.Tuple [.Name x px, .Name y py] kt pt] (.Tuple [a, b] k2 pt2) Z.env = pure (some [x, y]))
    (hs : swapsWithSole [.Tuple [.Name x px, .Name y py] kt pt] (.Tuple [a, b] k2 pt2) pos.line Z.env = pure false := by rfl)
    (hs1 : starEach [a, b] Z.env = (false, eval a Z.env) :: starEach [b] Z.env := by rfl) (hs2 : starEach [b] Z.env = (false, eval b Z.env) :: starEach [] Z.env := by rfl) :
    ES Z g T He (.Assign [.Tuple [.Name x px, .Name y py] kt pt] (.Tuple [a, b] k2 pt2) pos) (sPar2 kx ky i j f1 f2) :=
  ps_w (ps_par hc hN hi hj hij hx hy (pa_cons ha (pa_cons hb pa_nil hs2) hs1) hw hs) fun D σ H ⟨Γ, S, rl, w⟩ => by
    simp only [sPar2, M.wp_bind] at w
    refine rdE.use rl (M.wp_mono (fun x w v1 H1 e1 l1 x1 => ?_) w)
    have fin : ∀ (Γ1 : List Sl) (S1 : List Addr), asgX kx i x Γ = .ret Γ1 → Rl g T He S1 H1 Γ σ → Rl g T He S1 H1 Γ1 (σ.set i (some v1)) → FrS T S H S1 H1 → ∃ Γ S, Rl g T He S H1 Γ σ ∧ (f2 Γ).wp fun y => ∀ v2 H2, Ext g.fd H1 H2 → RpX g T S H1 H2 v2 y → ∃ v w, [v1, v2] = [v, w] ∧ D.nx ((σ.set i (some v)).set j (some w)) H2 := by
      intro Γ1 S1 ea r1 r2 fr
      refine ⟨Γ, S1, r1, M.wp_mono (fun y w v2 H2 e2 x2 => ⟨_, _, rfl, ?_⟩) w⟩
      rw [ea] at w
      refine asgX_use (keep := ky) h0' r2 e2 x2 ?_
      refine M.wp_mono (fun p w => SPost.from fr w) ?_
      simpa only [M.wp_bind, M.wp_ret] using w
    cases x with
    | b o => refine ⟨Γ, S, l1, M.wp_mono (fun y w => w.elim) w⟩
    | t d => refine ⟨Γ, S, l1, M.wp_mono (fun y w => w.elim) w⟩
    | p d => exact fin _ S rfl l1 (l1.set_v h0 x1) (rl.frs e1)
    | c o =>
      cases kx with
      | false => exact fin _ S rfl l1 (l1.set_v h0 (x1.toD' rfl)) (rl.frs e1)
      | true =>
        obtain ⟨ad, rfl, hn, n, r⟩ := x1
        exact fin _ (ad :: S) rfl (rl.ext_c e1 hn r.tk) (rl.set_c h0 e1 hn r) ((off_free hn).trans (e1.off fun p l h => List.mem_append_left _ (rl.t p l h)))
theorem SameB.flo {B : Cf} {f : Str} {ix : Nat → Option Nat} (h : SameB g B) (o : FlOk B f ix) : FlOk g f ix := ⟨fun C i e => by rw [h.k, h.ad, h.fl]; exact o.ok C i e⟩
theorem SameB.tyv {B : Cf} (h : SameB g B) (d : D) : d.tyv g = d.tyv B := by cases d <;> simp only [D.tyv, h.ad]
theorem SameB.ik {B : Cf} {u : Value} {p : D → Option Bool} (h : SameB g B) (o : IsK B u p) : IsK g u p := ⟨fun d b e => by rw [h.k, h.tyv]; exact o.ok d b e, o.nf⟩
end
/-! isinstance of the built-in classes -/
def bStr : D → Option Bool
  | .str _ => some true
  | .ins _ _ => none
  | .feed => none
  | _ => some false
def bInt : D → Option Bool
  | .int _ => some true
  | .bl _ => some true
  | .ins _ _ => none
  | .feed => none
  | _ => some false
def bBool : D → Option Bool
  | .bl _ => some true
  | .ins _ _ => none
  | .feed => none
  | _ => some false
def bList : D → Option Bool
  | .lst _ => some true
  | .ins _ _ => none
  | .feed => none
  | _ => some false
def bTuple : D → Option Bool
  | .tup _ => some true
  | .ins _ _ => none
  | .feed => none
  | _ => some false
section
variable {g : Cf}
theorem ik_str : IsK g (.type "str") bStr := ⟨fun d b h => by cases d <;> first | (cases h; done) | (cases h; exact kit_ty rfl), rfl⟩
theorem ik_int : IsK g (.type "int") bInt := ⟨fun d b h => by cases d <;> first | (cases h; done) | (cases h; exact kit_ty rfl), rfl⟩
theorem ik_bool : IsK g (.type "bool") bBool := ⟨fun d b h => by cases d <;> first | (cases h; done) | (cases h; exact kit_ty rfl), rfl⟩
theorem ik_list : IsK g (.type "list") bList := ⟨fun d b h => by cases d <;> first | (cases h; done) | (cases h; exact kit_ty rfl), rfl⟩
theorem ik_tuple : IsK g (.type "tuple") bTuple := ⟨fun d b h => by cases d <;> first | (cases h; done) | (cases h; exact kit_ty rfl), rfl⟩
end
/-- a call that no run allows -/
theorem FnA.none {P : Program} {w : World} {K : PySem.W.Frag} {mg : Str → Option Value} {base : Heap} {k : Nat} {f : Addr} {ks : List Str} {B : Cf} {sem : List D → List D → M R} (h : ∀ ds es, sem ds es = .fail) : FnA P w K mg base CX0 k f ks (spC B sem) :=
  ⟨fun A outer s H us ws vs zs Q E hr he r1 r2 l hs => by
    obtain ⟨fd, T, ds, es, _, _, _, z⟩ := hs
    rw [h] at z
    exact z.elim⟩
theorem runF_fail {α : Type} {n : Nat} {ix : List Nat} {dd : List D} {sem : List D → M α} (h : ∀ ds, sem ds = .fail) (ds es : List D) : runF n ix dd sem ds es = .fail := by
  unfold runF
  split
  · exact h _
  · rfl
section
variable {K : PySem.W.Frag} {x qual : Str} {st : Stmt} {dvs : List V} {kwd : List (Str × V)} {f : Addr} {ps : List Str} {n : Nat} {ks : List Str} {ix : List Nat}
/-- all given, though there are defaults -/
theorem kbE (hd : dvs ≠ []) (h : ∀ (T : Addr) (kV doc pm : Value) (an : Option Addr) (cdv ct : Value) (us ws : List Value), us.length = n → ws.length = ks.length →
      bindArgs (PySem.W.fnOf x qual (defArgs st) (defBody st) (defScope st) (.ref T) kV doc pm an cdv ct) ⟨us, ks.zip ws⟩ = pure (ps.zip (permute ix (us ++ ws ++ [])))) : KbOk K x qual st dvs kwd f ps n ks ix [] := fun fd F => by
  obtain ⟨oc, od, dV, kV, doc, pm, an, cdv, ct, osl, rfl, lk, hcd, hD, hK⟩ := F.ex
  rcases hD with ⟨e, _⟩ | ⟨_, T, o, its, m, rfl, lT, oT, rT⟩
  · exact absurd e hd
  · exact ⟨[], fun s us ws _ l1 l2 => .of_eq (h T kV doc pm an cdv ct us ws l1 l2), fun r1 r2 => permute_vals ((r1.append r2).append .nil) ix⟩
theorem kbF (hd : dvs ≠ []) {ms : List (Str × V)} (hk : kwd ≠ []) (hms : ∀ q ∈ ms, q ∈ kwd) (h : ∀ (T D : Addr) (doc pm : Value) (an : Option Addr) (cdv ct : Value) (us ws mv : List Value), us.length = n → ws.length = ks.length → mv.length = ms.length →
      KwChain D ((ms.map (·.1)).zip mv) (bindArgs (PySem.W.fnOf x qual (defArgs st) (defBody st) (defScope st) (.ref T) (.ref D) doc pm an cdv ct) ⟨us, ks.zip ws⟩) (ps.zip (permute ix (us ++ ws ++ mv)))) : KbOk K x qual st dvs kwd f ps n ks ix (ms.map (·.2)) := fun fd F => by
  obtain ⟨oc, od, dV, kV, doc, pm, an, cdv, ct, osl, rfl, lk, hcd, hD, hK⟩ := F.ex
  rcases hD with ⟨e, _⟩ | ⟨_, T, o, its, m, rfl, lT, oT, rT⟩
  · exact absurd e hd
  · rcases hK with e | ⟨D, rfl, hq⟩
    · exact absurd e hk
    · obtain ⟨mv, hl, rk, hks⟩ := kwd_vals (ms := ms) fun q hm => hq q (hms q hm)
      refine ⟨mv, fun s us ws X l1 l2 => ?_, fun r1 r2 => permute_vals ((r1.append r2).append rk) ix⟩
      exact BindsTo.of_looks fun M => KwChain.looks X hks (h T D doc pm an cdv ct us ws mv l1 l2 hl)
end
end G
namespace G
open PySem PySem.Spec L2
open PyProof.Rows hiding St
/-! ### runs looked through by evaluation -/
mutual
def D.eqb : D → D → Bool
  | .non, .non => true
  | .bl a, .bl b => a == b
  | .int a, .int b => a == b
  | .str a, .str b => decide (a = b)
  | .lst a, .lst b => D.eqbs a b
  | .tup a, .tup b => D.eqbs a b
  | .ins c a, .ins d b => c == d && D.eqbs a b
  | .feed, .feed => true
  | _, _ => false
def D.eqbs : List D → List D → Bool
  | [], [] => true
  | a :: as, b :: bs => D.eqb a b && D.eqbs as bs
  | _, _ => false
end
mutual
theorem D.eqb_eq : ∀ {a b : D}, D.eqb a b = true → a = b
  | .non, b, h => by cases b <;> simp_all [D.eqb]
  | .bl _, b, h => by cases b <;> simp_all [D.eqb]
  | .int _, b, h => by cases b <;> simp_all [D.eqb]
  | .str _, b, h => by cases b <;> simp_all [D.eqb]
  | .lst x, b, h => by
    cases b <;> simp only [D.eqb] at h <;> first | (cases h; done) | exact congrArg _ (D.eqbs_eq h)
  | .tup x, b, h => by
    cases b <;> simp only [D.eqb] at h <;> first | (cases h; done) | exact congrArg _ (D.eqbs_eq h)
  | .ins c x, b, h => by
    cases b <;> simp only [D.eqb] at h <;> first | (cases h; done) | skip
    rw [Bool.and_eq_true, beq_iff_eq] at h
    rw [h.1, D.eqbs_eq h.2]
  | .feed, b, h => by cases b <;> simp_all [D.eqb]
theorem D.eqbs_eq : ∀ {a b : List D}, D.eqbs a b = true → a = b
  | [], b, h => by cases b <;> simp_all [D.eqbs]
  | a :: as, b, h => by
    cases b with
    | nil => simp [D.eqbs] at h
    | cons b bs =>
      simp only [D.eqbs, Bool.and_eq_true] at h
      rw [D.eqb_eq h.1, D.eqbs_eq h.2]
end
def O.eqb : O → O → Bool
  | .l a, .l b => D.eqbs a b
  | .i c a, .i d b => c == d && D.eqbs a b
  | _, _ => false
def R.eqb : R → R → Bool
  | .at a, .at b => D.eqb a b
  | .nw a, .nw b => O.eqb a b
  | .dt a, .dt b => D.eqb a b
  | _, _ => false
theorem O.eqb_eq {a b : O} (h : O.eqb a b = true) : a = b := by
  cases a <;> cases b <;> simp only [O.eqb] at h <;> first | (cases h; done) | skip
  · rw [D.eqbs_eq h]
  · rw [Bool.and_eq_true, beq_iff_eq] at h; rw [h.1, D.eqbs_eq h.2]
theorem R.eqb_eq {a b : R} (h : R.eqb a b = true) : a = b := by
  cases a <;> cases b <;> simp only [R.eqb] at h <;> first | (cases h; done) | skip
  · rw [D.eqb_eq h]
  · rw [O.eqb_eq h]
  · rw [D.eqb_eq h]
/-- every outcome passes -/
def M.chk {α : Type} (p : α → Bool) : M α → Bool
  | .ret a => p a
  | .fail => false
  | .draw m k => (List.range m).all fun r => M.chk p (k r)
theorem M.chk_wp {α : Type} {p : α → Bool} : ∀ {m : M α}, m.chk p = true → m.wp fun a => p a = true
  | .ret a, h => h
  | .fail, h => by cases h
  | .draw m k, h => fun r hr => M.chk_wp (List.all_eq_true.mp h r (List.mem_range.mpr hr))
/-- one outcome, told -/
def M.val {α : Type} : M α → Option α
  | .ret a => some a
  | _ => none
theorem M.of_val {α : Type} {m : M α} {a : α} (h : m.val = some a) : m = .ret a := by cases m <;> simp_all [M.val]
def R.is (d : D) : R → Bool
  | .at e => D.eqb e d
  | .nw o => D.eqb o.toD d
  | .dt e => D.eqb e d
def R.toD : R → D
  | .at d => d
  | .nw o => o.toD
  | .dt d => d
/-- .. of a run, closed to evaluation -/
@[irreducible] def M.ok {α : Type} (m : M α) (Q : α → Prop) : Prop := m.wp Q
theorem M.ok_iff {α : Type} {m : M α} {Q : α → Prop} : m.ok Q ↔ m.wp Q := by unfold M.ok; exact Iff.rfl
@[simp] theorem M.ok_ret {α : Type} {a : α} {Q : α → Prop} : (M.ret a).ok Q = Q a := propext M.ok_iff
@[simp] theorem M.ok_fail {α : Type} {Q : α → Prop} : (M.fail : M α).ok Q = False := propext M.ok_iff
@[simp] theorem M.ok_draw {α : Type} {m : Nat} {k : Nat → M α} {Q : α → Prop} : (M.draw m k).ok Q = ∀ r, r < m → (k r).ok Q := by
  refine propext (M.ok_iff.trans ?_)
  exact ⟨fun h r hr => M.ok_iff.mpr (h r hr), fun h r hr => M.ok_iff.mp (h r hr)⟩
theorem M.ok_bind {α β : Type} {m : M α} {f : α → M β} {Q : β → Prop} : (m.bind f).ok Q ↔ m.ok fun a => (f a).ok Q := by
  rw [M.ok_iff, M.ok_iff, M.wp_bind]
  exact ⟨fun h => M.wp_mono (fun a q => M.ok_iff.mpr q) h, fun h => M.wp_mono (fun a q => M.ok_iff.mp q) h⟩
theorem M.ok_mono {α : Type} {P Q : α → Prop} (h : ∀ a, P a → Q a) {m : M α} (q : m.ok P) : m.ok Q := M.ok_iff.mpr (M.wp_mono h (M.ok_iff.mp q))
theorem M.ok_of {α : Type} {m : M α} {a : α} {Q : α → Prop} (h : m = .ret a) (q : Q a) : m.ok Q := by rw [h, M.ok_ret]; exact q
theorem M.chk_ok {α : Type} {p : α → Bool} {m : M α} (h : m.chk p = true) : m.ok fun a => p a = true := M.ok_iff.mpr (M.chk_wp h)
@[simp] theorem tn_p {d : D} : (X.p d).tn = false := rfl
@[simp] theorem tn_c {o : O} : (X.c o).tn = false := rfl
@[simp] theorem tn_b {o : O} : (X.b o).tn = true := rfl
@[simp] theorem tn_t {d : D} : (X.t d).tn = true := rfl
@[simp] theorem ret_p {d : D} : (X.p d).ret = .dt d := rfl
@[simp] theorem ret_c {o : O} : (X.c o).ret = .nw o := rfl
@[simp] theorem ret_b {o : O} : (X.b o).ret = .nw o := rfl
@[simp] theorem ret_t {d : D} : (X.t d).ret = .dt d := rfl
@[simp] theorem RtoD_at {d : D} : (R.at d).toD = d := rfl
@[simp] theorem RtoD_nw {o : O} : (R.nw o).toD = o.toD := rfl
@[simp] theorem RtoD_dt {d : D} : (R.dt d).toD = d := rfl
@[simp] theorem fin_toD {z : R} {tt : Bool} : (z.fin tt).toD = z.toD := by
  cases z with
  | «at» d => rfl
  | nw o => cases tt <;> rfl
  | dt d => show X.toD (if (tt && !d.flat) = true then X.t d else X.p d) = d; split <;> rfl
@[simp] theorem fin_tn {z : R} : (z.fin false).tn = false := by cases z <;> rfl
@[simp] theorem fin_tt {z : R} : (z.fin false).tt = false := by cases z <;> rfl
@[simp] theorem atI_0 {α : Type} (x : α) (xs : List α) : atI (x :: xs) 0 = some x := by
  unfold atI ixN
  rw [if_pos (by decide), if_pos (by simp only [List.length_cons]; omega)]
  rfl
@[simp] theorem atI_1 {α : Type} (x y : α) (xs : List α) : atI (x :: y :: xs) 1 = some y := by
  unfold atI ixN
  rw [if_pos (by decide), if_pos (by simp only [List.length_cons]; omega)]
  rfl
@[simp] theorem atI_2 {α : Type} (x y z : α) (xs : List α) : atI (x :: y :: z :: xs) 2 = some z := by
  unfold atI ixN
  rw [if_pos (by decide), if_pos (by simp only [List.length_cons]; omega)]
  rfl
/-! statements, step by step -/
section
variable {Γ : List Sl} {Q : Fl × List Sl → Prop} {f1 f2 : Sst}
theorem w_seq (h : (f1 Γ).ok fun p => match p.1 with | .nx => (f2 p.2).ok Q | _ => Q p) : (sSeq f1 f2 Γ).ok Q := by
  unfold sSeq
  rw [M.ok_bind]
  refine M.ok_mono (fun p h => ?_) h
  obtain ⟨fl, Γ'⟩ := p
  cases fl with
  | nx => exact h
  | bk => exact M.ok_of rfl h
  | ct => exact M.ok_of rfl h
  | rt z => exact M.ok_of rfl h
theorem w_step (P : List Sl → Prop) (h : (f1 Γ).ok fun p => p.1 = .nx ∧ P p.2) (k : ∀ Γ', P Γ' → (f2 Γ').ok Q) : (sSeq f1 f2 Γ).ok Q := by
  refine w_seq (M.ok_mono (fun p h => ?_) h)
  obtain ⟨fl, Γ'⟩ := p
  obtain ⟨h1, h2⟩ := h
  cases h1
  exact k _ h2
theorem w_if {t : Se Bool} {b : Bool} (h : t Γ = .ret b) (q : ((if b then f1 else f2) Γ).ok Q) : (sIfS t f1 f2 Γ).ok Q := by
  unfold sIfS
  rw [h]
  cases b <;> exact q
theorem w_for {fi : Se (Bool × List D)} {tgt : Tg} {fb : Sst} {ds : List D} (I : List D → List Sl → Prop) (hi : fi Γ = .ret (false, ds)) (h0 : I ds Γ)
    (hs : ∀ d es Γ, I (d :: es) Γ → ∃ as, tgt.asg d = some as ∧ (fb (setG Γ as)).ok fun p => match p.1 with | .nx => I es p.2 | .ct => I es p.2 | .bk => Q (.nx, p.2) | .rt z => Q (.rt z, p.2))
    (he : ∀ Γ, I [] Γ → Q (.nx, Γ)) : (sFor fi tgt fb Γ).ok Q := by
  have e : sFor fi tgt fb Γ = forL tgt fb ds Γ := by unfold sFor; rw [hi]; rfl
  rw [e]
  clear hi e
  induction ds generalizing Γ with
  | nil => exact M.ok_of rfl (he Γ h0)
  | cons d ds ih =>
    obtain ⟨as, h1, h2⟩ := hs d ds Γ h0
    unfold forL
    rw [h1]
    simp only [M.ok_bind]
    refine M.ok_mono (fun p h => ?_) h2
    obtain ⟨fl, Γ'⟩ := p
    cases fl with
    | nx => exact ih h
    | ct => exact ih h
    | bk => exact M.ok_of rfl h
    | rt z => exact M.ok_of rfl h
end
end G
namespace Toy
open PySem L2
def top (i : Nat) : Stmt := PySem.Challenge.pw_tabsure_k05_options_and_places.main.body.getD i (.Pass ⟨0, 0, 0, 0⟩)
abbrev s__wall : Stmt := top 0
abbrev s_InvalidWord___init__ : Stmt := inClass (top 3) 0
abbrev s_InvalidName___init__ : Stmt := inClass (top 4) 0
abbrev s_InvalidNumber___init__ : Stmt := inClass (top 5) 0
abbrev s_TooMany___init__ : Stmt := inClass (top 6) 0
abbrev s_is_number : Stmt := top 13
abbrev s_is_between : Stmt := top 14
abbrev s_is_word : Stmt := top 15
abbrev s_is_plain : Stmt := top 16
abbrev s_is_number_word : Stmt := top 17
abbrev s_is_option_name : Stmt := top 18
abbrev s_is_name : Stmt := top 19
abbrev s_Option___init__ : Stmt := inClass (top 22) 0
abbrev s_Option_all_items : Stmt := inClass (top 22) 1
abbrev s_Option___eq__ : Stmt := inClass (top 22) 2
abbrev s_Option___repr__ : Stmt := inClass (top 22) 3
abbrev s_Place___init__ : Stmt := inClass (top 23) 0
abbrev s_Place___eq__ : Stmt := inClass (top 23) 1
abbrev s_Place___repr__ : Stmt := inClass (top 23) 2
abbrev s_Kind_fits : Stmt := inClass (top 26) 0
abbrev s_Kind_words : Stmt := inClass (top 26) 1
abbrev s_Kind_hint : Stmt := inClass (top 26) 2
abbrev s_Kind_text : Stmt := inClass (top 26) 3
abbrev s_Kind___contains__ : Stmt := inClass (top 26) 4
abbrev s_Kind___eq__ : Stmt := inClass (top 26) 5
abbrev s_Kind___repr__ : Stmt := inClass (top 26) 6
abbrev s_AnyWord_fits : Stmt := inClass (top 27) 0
abbrev s_AnyWord_hint : Stmt := inClass (top 27) 1
abbrev s_AnyWord_text : Stmt := inClass (top 27) 2
abbrev s_OneOf___init__ : Stmt := inClass (top 28) 0
abbrev s_OneOf_fits : Stmt := inClass (top 28) 1
abbrev s_OneOf_words : Stmt := inClass (top 28) 2
abbrev s_OneOf_text : Stmt := inClass (top 28) 3
abbrev s_Number___init__ : Stmt := inClass (top 29) 1
abbrev s_Number_fits : Stmt := inClass (top 29) 2
abbrev s_Number_hint : Stmt := inClass (top 29) 3
abbrev s_Number_text : Stmt := inClass (top 29) 4
abbrev s__law_feed : Stmt := top 31
abbrev s__law_take : Stmt := top 32
abbrev s__law_of : Stmt := top 33
abbrev s__law_mixed : Stmt := top 34
abbrev s__law_same : Stmt := top 35
abbrev s__law_plain_words : Stmt := top 36
abbrev s__law_dashes : Stmt := top 37
abbrev s__law_kind : Stmt := top 38
abbrev s__law_opts : Stmt := top 39
abbrev s__law_items : Stmt := top 40
abbrev s__law_slots : Stmt := top 41
abbrev s__law_ready_kind : Stmt := top 42
abbrev s__law_ready_option : Stmt := top 43
abbrev s__law_ready_place : Stmt := top 44
abbrev s_law : Stmt := top 45
structure Gct (mg : Str → Option Value) : Prop where
  g_LETTERS : ∃ u, mg "LETTERS" = some u ∧ RelV (.str "abcdefghijklmnopqrstuvwxyz") u
  g_FIGURES : ∃ u, mg "FIGURES" = some u ∧ RelV (.str "0123456789") u
  g_SIGNS : ∃ u, mg "SIGNS" = some u ∧ RelV (.str "abcdefghijklmnopqrstuvwxyz0123456789-") u
  g_MOST_SIGNS : ∃ u, mg "MOST_SIGNS" = some u ∧ RelV (.int (8)) u
  g_MOST_LETTERS : ∃ u, mg "MOST_LETTERS" = some u ∧ RelV (.int (6)) u
  g_MOST_TIMES : ∃ u, mg "MOST_TIMES" = some u ∧ RelV (.int (4)) u
  g_MOST_WORDS : ∃ u, mg "MOST_WORDS" = some u ∧ RelV (.int (6)) u

structure Cs where
  Option : Addr
  Place : Addr
  Kind : Addr
  AnyWord : Addr
  OneOf : Addr
  Number : Addr
  Option___init__ : Addr
  Option_all_items : Addr
  Option___eq__ : Addr
  Option___repr__ : Addr
  Place___init__ : Addr
  Place___eq__ : Addr
  Place___repr__ : Addr
  Kind_fits : Addr
  Kind_words : Addr
  Kind_hint : Addr
  Kind_text : Addr
  Kind___contains__ : Addr
  Kind___eq__ : Addr
  Kind___repr__ : Addr
  AnyWord_fits : Addr
  AnyWord_hint : Addr
  AnyWord_text : Addr
  OneOf___init__ : Addr
  OneOf_fits : Addr
  OneOf_words : Addr
  OneOf_text : Addr
  Number___init__ : Addr
  Number_fits : Addr
  Number_hint : Addr
  Number_text : Addr
structure Alls (K : PySem.W.Frag) (mg : Str → Option Value) (c : Cs) : Prop where
  n_Option : mg "Option" = some (.ref c.Option)
  cl_Option : Cls K c.Option
  ty_Option : ∀ {H : Hp} {a dx : Addr} {fs : List (Str × V)}, H a = some (.ins c.Option dx fs) → TyOf K H (.ref a) (.ref c.Option)
  n_Place : mg "Place" = some (.ref c.Place)
  cl_Place : Cls K c.Place
  ty_Place : ∀ {H : Hp} {a dx : Addr} {fs : List (Str × V)}, H a = some (.ins c.Place dx fs) → TyOf K H (.ref a) (.ref c.Place)
  n_Kind : mg "Kind" = some (.ref c.Kind)
  cl_Kind : Cls K c.Kind
  ty_Kind : ∀ {H : Hp} {a dx : Addr} {fs : List (Str × V)}, H a = some (.ins c.Kind dx fs) → TyOf K H (.ref a) (.ref c.Kind)
  n_AnyWord : mg "AnyWord" = some (.ref c.AnyWord)
  cl_AnyWord : Cls K c.AnyWord
  ty_AnyWord : ∀ {H : Hp} {a dx : Addr} {fs : List (Str × V)}, H a = some (.ins c.AnyWord dx fs) → TyOf K H (.ref a) (.ref c.AnyWord)
  n_OneOf : mg "OneOf" = some (.ref c.OneOf)
  cl_OneOf : Cls K c.OneOf
  ty_OneOf : ∀ {H : Hp} {a dx : Addr} {fs : List (Str × V)}, H a = some (.ins c.OneOf dx fs) → TyOf K H (.ref a) (.ref c.OneOf)
  n_Number : mg "Number" = some (.ref c.Number)
  cl_Number : Cls K c.Number
  ty_Number : ∀ {H : Hp} {a dx : Addr} {fs : List (Str × V)}, H a = some (.ins c.Number dx fs) → TyOf K H (.ref a) (.ref c.Number)
  f_Option___init__ : Fd K "__init__" "Option.__init__" s_Option___init__ [.non] [("most", .int (1))] c.Option___init__
  f_Option_all_items : Fd K "all_items" "Option.all_items" s_Option_all_items [] [] c.Option_all_items
  f_Option___eq__ : Fd K "__eq__" "Option.__eq__" s_Option___eq__ [] [] c.Option___eq__
  f_Option___repr__ : Fd K "__repr__" "Option.__repr__" s_Option___repr__ [] [] c.Option___repr__
  f_Place___init__ : Fd K "__init__" "Place.__init__" s_Place___init__ [] [("least", .int (1)), ("most", .int (1))] c.Place___init__
  f_Place___eq__ : Fd K "__eq__" "Place.__eq__" s_Place___eq__ [] [] c.Place___eq__
  f_Place___repr__ : Fd K "__repr__" "Place.__repr__" s_Place___repr__ [] [] c.Place___repr__
  f_Kind_fits : Fd K "fits" "Kind.fits" s_Kind_fits [] [("over", .bl false)] c.Kind_fits
  f_Kind_words : Fd K "words" "Kind.words" s_Kind_words [] [] c.Kind_words
  f_Kind_hint : Fd K "hint" "Kind.hint" s_Kind_hint [] [] c.Kind_hint
  f_Kind_text : Fd K "text" "Kind.text" s_Kind_text [] [] c.Kind_text
  f_Kind___contains__ : Fd K "__contains__" "Kind.__contains__" s_Kind___contains__ [] [] c.Kind___contains__
  f_Kind___eq__ : Fd K "__eq__" "Kind.__eq__" s_Kind___eq__ [] [] c.Kind___eq__
  f_Kind___repr__ : Fd K "__repr__" "Kind.__repr__" s_Kind___repr__ [] [] c.Kind___repr__
  f_AnyWord_fits : Fd K "fits" "AnyWord.fits" s_AnyWord_fits [] [("over", .bl false)] c.AnyWord_fits
  f_AnyWord_hint : Fd K "hint" "AnyWord.hint" s_AnyWord_hint [] [] c.AnyWord_hint
  f_AnyWord_text : Fd K "text" "AnyWord.text" s_AnyWord_text [] [] c.AnyWord_text
  f_OneOf___init__ : Fd K "__init__" "OneOf.__init__" s_OneOf___init__ [] [] c.OneOf___init__
  f_OneOf_fits : Fd K "fits" "OneOf.fits" s_OneOf_fits [] [("over", .bl false)] c.OneOf_fits
  f_OneOf_words : Fd K "words" "OneOf.words" s_OneOf_words [] [] c.OneOf_words
  f_OneOf_text : Fd K "text" "OneOf.text" s_OneOf_text [] [] c.OneOf_text
  f_Number___init__ : Fd K "__init__" "Number.__init__" s_Number___init__ [] [] c.Number___init__
  f_Number_fits : Fd K "fits" "Number.fits" s_Number_fits [] [("over", .bl false)] c.Number_fits
  f_Number_hint : Fd K "hint" "Number.hint" s_Number_hint [] [] c.Number_hint
  f_Number_text : Fd K "text" "Number.text" s_Number_text [] [] c.Number_text
  mk_Option : Mk K c.Option c.Option___init__
  me_Option_all_items : Meth K c.Option "all_items" c.Option_all_items
  me_Option___eq__ : Meth K c.Option "__eq__" c.Option___eq__
  me_Option___repr__ : Meth K c.Option "__repr__" c.Option___repr__
  ne_Option : NoNe K c.Option
  nn_Option : PySem.W.subIn K (.ref c.Option) (.type "NoneType") = some false
  na_Option_name : NoAttr K c.Option "name"
  na_Option_kind : NoAttr K c.Option "kind"
  na_Option_most : NoAttr K c.Option "most"
  mk_Place : Mk K c.Place c.Place___init__
  me_Place___eq__ : Meth K c.Place "__eq__" c.Place___eq__
  me_Place___repr__ : Meth K c.Place "__repr__" c.Place___repr__
  ne_Place : NoNe K c.Place
  nn_Place : PySem.W.subIn K (.ref c.Place) (.type "NoneType") = some false
  na_Place_kind : NoAttr K c.Place "kind"
  na_Place_least : NoAttr K c.Place "least"
  na_Place_most : NoAttr K c.Place "most"
  m_Kind : Mk0 K mg "Kind" c.Kind
  me_Kind_fits : Meth K c.Kind "fits" c.Kind_fits
  me_Kind_words : Meth K c.Kind "words" c.Kind_words
  me_Kind_hint : Meth K c.Kind "hint" c.Kind_hint
  me_Kind_text : Meth K c.Kind "text" c.Kind_text
  me_Kind___contains__ : Meth K c.Kind "__contains__" c.Kind___contains__
  me_Kind___eq__ : Meth K c.Kind "__eq__" c.Kind___eq__
  me_Kind___repr__ : Meth K c.Kind "__repr__" c.Kind___repr__
  ne_Kind : NoNe K c.Kind
  nn_Kind : PySem.W.subIn K (.ref c.Kind) (.type "NoneType") = some false
  m_AnyWord : Mk0 K mg "AnyWord" c.AnyWord
  me_AnyWord_fits : Meth K c.AnyWord "fits" c.AnyWord_fits
  me_AnyWord_words : Meth K c.AnyWord "words" c.Kind_words
  me_AnyWord_hint : Meth K c.AnyWord "hint" c.AnyWord_hint
  me_AnyWord_text : Meth K c.AnyWord "text" c.AnyWord_text
  me_AnyWord___contains__ : Meth K c.AnyWord "__contains__" c.Kind___contains__
  me_AnyWord___eq__ : Meth K c.AnyWord "__eq__" c.Kind___eq__
  me_AnyWord___repr__ : Meth K c.AnyWord "__repr__" c.Kind___repr__
  ne_AnyWord : NoNe K c.AnyWord
  nn_AnyWord : PySem.W.subIn K (.ref c.AnyWord) (.type "NoneType") = some false
  mk_OneOf : Mk K c.OneOf c.OneOf___init__
  me_OneOf_fits : Meth K c.OneOf "fits" c.OneOf_fits
  me_OneOf_words : Meth K c.OneOf "words" c.OneOf_words
  me_OneOf_hint : Meth K c.OneOf "hint" c.Kind_hint
  me_OneOf_text : Meth K c.OneOf "text" c.OneOf_text
  me_OneOf___contains__ : Meth K c.OneOf "__contains__" c.Kind___contains__
  me_OneOf___eq__ : Meth K c.OneOf "__eq__" c.Kind___eq__
  me_OneOf___repr__ : Meth K c.OneOf "__repr__" c.Kind___repr__
  ne_OneOf : NoNe K c.OneOf
  nn_OneOf : PySem.W.subIn K (.ref c.OneOf) (.type "NoneType") = some false
  na_OneOf_own_words : NoAttr K c.OneOf "own_words"
  mk_Number : Mk K c.Number c.Number___init__
  me_Number_fits : Meth K c.Number "fits" c.Number_fits
  me_Number_words : Meth K c.Number "words" c.Kind_words
  me_Number_hint : Meth K c.Number "hint" c.Number_hint
  me_Number_text : Meth K c.Number "text" c.Number_text
  me_Number___contains__ : Meth K c.Number "__contains__" c.Kind___contains__
  me_Number___eq__ : Meth K c.Number "__eq__" c.Kind___eq__
  me_Number___repr__ : Meth K c.Number "__repr__" c.Kind___repr__
  ne_Number : NoNe K c.Number
  nn_Number : PySem.W.subIn K (.ref c.Number) (.type "NoneType") = some false
  na_Number_low : NoAttr K c.Number "low"
  na_Number_high : NoAttr K c.Number "high"
  cv_Number_MOST : ∃ mc u, ClX.CRead K c.Number mc ∧ ClX.CVal K c.Number mc "MOST" (.int (99999)) u
  isa_NoneType_Option : PySem.W.kitOne K (.type "NoneType") (.ref c.Option) = some false
  isa_bool_Option : PySem.W.kitOne K (.type "bool") (.ref c.Option) = some false
  isa_int_Option : PySem.W.kitOne K (.type "int") (.ref c.Option) = some false
  isa_str_Option : PySem.W.kitOne K (.type "str") (.ref c.Option) = some false
  isa_list_Option : PySem.W.kitOne K (.type "list") (.ref c.Option) = some false
  isa_tuple_Option : PySem.W.kitOne K (.type "tuple") (.ref c.Option) = some false
  isa_dict_Option : PySem.W.kitOne K (.type "dict") (.ref c.Option) = some false
  isa_Option_Option : PySem.W.kitOne K (.ref c.Option) (.ref c.Option) = some true
  isa_Place_Option : PySem.W.kitOne K (.ref c.Place) (.ref c.Option) = some false
  isa_Kind_Option : PySem.W.kitOne K (.ref c.Kind) (.ref c.Option) = some false
  isa_AnyWord_Option : PySem.W.kitOne K (.ref c.AnyWord) (.ref c.Option) = some false
  isa_OneOf_Option : PySem.W.kitOne K (.ref c.OneOf) (.ref c.Option) = some false
  isa_Number_Option : PySem.W.kitOne K (.ref c.Number) (.ref c.Option) = some false
  isa_NoneType_Place : PySem.W.kitOne K (.type "NoneType") (.ref c.Place) = some false
  isa_bool_Place : PySem.W.kitOne K (.type "bool") (.ref c.Place) = some false
  isa_int_Place : PySem.W.kitOne K (.type "int") (.ref c.Place) = some false
  isa_str_Place : PySem.W.kitOne K (.type "str") (.ref c.Place) = some false
  isa_list_Place : PySem.W.kitOne K (.type "list") (.ref c.Place) = some false
  isa_tuple_Place : PySem.W.kitOne K (.type "tuple") (.ref c.Place) = some false
  isa_dict_Place : PySem.W.kitOne K (.type "dict") (.ref c.Place) = some false
  isa_Option_Place : PySem.W.kitOne K (.ref c.Option) (.ref c.Place) = some false
  isa_Place_Place : PySem.W.kitOne K (.ref c.Place) (.ref c.Place) = some true
  isa_Kind_Place : PySem.W.kitOne K (.ref c.Kind) (.ref c.Place) = some false
  isa_AnyWord_Place : PySem.W.kitOne K (.ref c.AnyWord) (.ref c.Place) = some false
  isa_OneOf_Place : PySem.W.kitOne K (.ref c.OneOf) (.ref c.Place) = some false
  isa_Number_Place : PySem.W.kitOne K (.ref c.Number) (.ref c.Place) = some false
  isa_NoneType_Kind : PySem.W.kitOne K (.type "NoneType") (.ref c.Kind) = some false
  isa_bool_Kind : PySem.W.kitOne K (.type "bool") (.ref c.Kind) = some false
  isa_int_Kind : PySem.W.kitOne K (.type "int") (.ref c.Kind) = some false
  isa_str_Kind : PySem.W.kitOne K (.type "str") (.ref c.Kind) = some false
  isa_list_Kind : PySem.W.kitOne K (.type "list") (.ref c.Kind) = some false
  isa_tuple_Kind : PySem.W.kitOne K (.type "tuple") (.ref c.Kind) = some false
  isa_dict_Kind : PySem.W.kitOne K (.type "dict") (.ref c.Kind) = some false
  isa_Option_Kind : PySem.W.kitOne K (.ref c.Option) (.ref c.Kind) = some false
  isa_Place_Kind : PySem.W.kitOne K (.ref c.Place) (.ref c.Kind) = some false
  isa_Kind_Kind : PySem.W.kitOne K (.ref c.Kind) (.ref c.Kind) = some true
  isa_AnyWord_Kind : PySem.W.kitOne K (.ref c.AnyWord) (.ref c.Kind) = some true
  isa_OneOf_Kind : PySem.W.kitOne K (.ref c.OneOf) (.ref c.Kind) = some true
  isa_Number_Kind : PySem.W.kitOne K (.ref c.Number) (.ref c.Kind) = some true
  nf_Option_NoneType : PySem.W.notFirst K c.Option (.type "NoneType") = true
  nf_Option_bool : PySem.W.notFirst K c.Option (.type "bool") = true
  nf_Option_int : PySem.W.notFirst K c.Option (.type "int") = true
  nf_Option_str : PySem.W.notFirst K c.Option (.type "str") = true
  nf_Option_list : PySem.W.notFirst K c.Option (.type "list") = true
  nf_Option_tuple : PySem.W.notFirst K c.Option (.type "tuple") = true
  nf_Option_dict : PySem.W.notFirst K c.Option (.type "dict") = true
  nf_Option_Option : PySem.W.notFirst K c.Option (.ref c.Option) = true
  nf_Option_Place : PySem.W.notFirst K c.Option (.ref c.Place) = true
  nf_Option_AnyWord : PySem.W.notFirst K c.Option (.ref c.AnyWord) = true
  nf_Option_OneOf : PySem.W.notFirst K c.Option (.ref c.OneOf) = true
  nf_Option_Number : PySem.W.notFirst K c.Option (.ref c.Number) = true
  nf_Place_NoneType : PySem.W.notFirst K c.Place (.type "NoneType") = true
  nf_Place_bool : PySem.W.notFirst K c.Place (.type "bool") = true
  nf_Place_int : PySem.W.notFirst K c.Place (.type "int") = true
  nf_Place_str : PySem.W.notFirst K c.Place (.type "str") = true
  nf_Place_list : PySem.W.notFirst K c.Place (.type "list") = true
  nf_Place_tuple : PySem.W.notFirst K c.Place (.type "tuple") = true
  nf_Place_dict : PySem.W.notFirst K c.Place (.type "dict") = true
  nf_Place_Option : PySem.W.notFirst K c.Place (.ref c.Option) = true
  nf_Place_Place : PySem.W.notFirst K c.Place (.ref c.Place) = true
  nf_Place_AnyWord : PySem.W.notFirst K c.Place (.ref c.AnyWord) = true
  nf_Place_OneOf : PySem.W.notFirst K c.Place (.ref c.OneOf) = true
  nf_Place_Number : PySem.W.notFirst K c.Place (.ref c.Number) = true
  nf_Kind_NoneType : PySem.W.notFirst K c.Kind (.type "NoneType") = true
  nf_Kind_bool : PySem.W.notFirst K c.Kind (.type "bool") = true
  nf_Kind_int : PySem.W.notFirst K c.Kind (.type "int") = true
  nf_Kind_str : PySem.W.notFirst K c.Kind (.type "str") = true
  nf_Kind_list : PySem.W.notFirst K c.Kind (.type "list") = true
  nf_Kind_tuple : PySem.W.notFirst K c.Kind (.type "tuple") = true
  nf_Kind_dict : PySem.W.notFirst K c.Kind (.type "dict") = true
  nf_Kind_Kind : PySem.W.notFirst K c.Kind (.ref c.Kind) = true
  nf_AnyWord_NoneType : PySem.W.notFirst K c.AnyWord (.type "NoneType") = true
  nf_AnyWord_bool : PySem.W.notFirst K c.AnyWord (.type "bool") = true
  nf_AnyWord_int : PySem.W.notFirst K c.AnyWord (.type "int") = true
  nf_AnyWord_str : PySem.W.notFirst K c.AnyWord (.type "str") = true
  nf_AnyWord_list : PySem.W.notFirst K c.AnyWord (.type "list") = true
  nf_AnyWord_tuple : PySem.W.notFirst K c.AnyWord (.type "tuple") = true
  nf_AnyWord_dict : PySem.W.notFirst K c.AnyWord (.type "dict") = true
  nf_AnyWord_Option : PySem.W.notFirst K c.AnyWord (.ref c.Option) = true
  nf_AnyWord_Place : PySem.W.notFirst K c.AnyWord (.ref c.Place) = true
  nf_AnyWord_Kind : PySem.W.notFirst K c.AnyWord (.ref c.Kind) = true
  nf_AnyWord_AnyWord : PySem.W.notFirst K c.AnyWord (.ref c.AnyWord) = true
  nf_AnyWord_OneOf : PySem.W.notFirst K c.AnyWord (.ref c.OneOf) = true
  nf_AnyWord_Number : PySem.W.notFirst K c.AnyWord (.ref c.Number) = true
  nf_OneOf_NoneType : PySem.W.notFirst K c.OneOf (.type "NoneType") = true
  nf_OneOf_bool : PySem.W.notFirst K c.OneOf (.type "bool") = true
  nf_OneOf_int : PySem.W.notFirst K c.OneOf (.type "int") = true
  nf_OneOf_str : PySem.W.notFirst K c.OneOf (.type "str") = true
  nf_OneOf_list : PySem.W.notFirst K c.OneOf (.type "list") = true
  nf_OneOf_tuple : PySem.W.notFirst K c.OneOf (.type "tuple") = true
  nf_OneOf_dict : PySem.W.notFirst K c.OneOf (.type "dict") = true
  nf_OneOf_Option : PySem.W.notFirst K c.OneOf (.ref c.Option) = true
  nf_OneOf_Place : PySem.W.notFirst K c.OneOf (.ref c.Place) = true
  nf_OneOf_Kind : PySem.W.notFirst K c.OneOf (.ref c.Kind) = true
  nf_OneOf_AnyWord : PySem.W.notFirst K c.OneOf (.ref c.AnyWord) = true
  nf_OneOf_OneOf : PySem.W.notFirst K c.OneOf (.ref c.OneOf) = true
  nf_OneOf_Number : PySem.W.notFirst K c.OneOf (.ref c.Number) = true
  nf_Number_NoneType : PySem.W.notFirst K c.Number (.type "NoneType") = true
  nf_Number_bool : PySem.W.notFirst K c.Number (.type "bool") = true
  nf_Number_int : PySem.W.notFirst K c.Number (.type "int") = true
  nf_Number_str : PySem.W.notFirst K c.Number (.type "str") = true
  nf_Number_list : PySem.W.notFirst K c.Number (.type "list") = true
  nf_Number_tuple : PySem.W.notFirst K c.Number (.type "tuple") = true
  nf_Number_dict : PySem.W.notFirst K c.Number (.type "dict") = true
  nf_Number_Option : PySem.W.notFirst K c.Number (.ref c.Option) = true
  nf_Number_Place : PySem.W.notFirst K c.Number (.ref c.Place) = true
  nf_Number_Kind : PySem.W.notFirst K c.Number (.ref c.Kind) = true
  nf_Number_AnyWord : PySem.W.notFirst K c.Number (.ref c.AnyWord) = true
  nf_Number_OneOf : PySem.W.notFirst K c.Number (.ref c.OneOf) = true
  nf_Number_Number : PySem.W.notFirst K c.Number (.ref c.Number) = true
  g__wall : ∃ f, FdG K mg "_wall" s__wall [] [] f
  g_is_number : ∃ f, FdG K mg "is_number" s_is_number [] [] f
  g_is_between : ∃ f, FdG K mg "is_between" s_is_between [] [] f
  g_is_word : ∃ f, FdG K mg "is_word" s_is_word [] [] f
  g_is_plain : ∃ f, FdG K mg "is_plain" s_is_plain [] [] f
  g_is_number_word : ∃ f, FdG K mg "is_number_word" s_is_number_word [] [] f
  g_is_option_name : ∃ f, FdG K mg "is_option_name" s_is_option_name [] [] f
  g_is_name : ∃ f, FdG K mg "is_name" s_is_name [] [] f
  d__law_feed : Df K mg "_law_feed" s__law_feed
  d__law_take : Df K mg "_law_take" s__law_take
  g__law_of : ∃ f, FdG K mg "_law_of" s__law_of [] [] f
  g__law_mixed : ∃ f, FdG K mg "_law_mixed" s__law_mixed [] [] f
  g__law_same : ∃ f, FdG K mg "_law_same" s__law_same [] [] f
  g__law_plain_words : ∃ f, FdG K mg "_law_plain_words" s__law_plain_words [] [] f
  g__law_dashes : ∃ f, FdG K mg "_law_dashes" s__law_dashes [] [] f
  g__law_kind : ∃ f, FdG K mg "_law_kind" s__law_kind [] [] f
  g__law_opts : ∃ f, FdG K mg "_law_opts" s__law_opts [] [] f
  g__law_items : ∃ f, FdG K mg "_law_items" s__law_items [] [] f
  g__law_slots : ∃ f, FdG K mg "_law_slots" s__law_slots [] [] f
  g__law_ready_kind : ∃ f, FdG K mg "_law_ready_kind" s__law_ready_kind [] [] f
  g__law_ready_option : ∃ f, FdG K mg "_law_ready_option" s__law_ready_option [] [] f
  g__law_ready_place : ∃ f, FdG K mg "_law_ready_place" s__law_ready_place [] [] f
  d_law : Df K mg "law" s_law
  T : Txt mg
  GC : Gct mg
theorem all_mk {K : PySem.W.Frag} {h : Heap} {mg : Str → Option Value} (X : K.In h) (G : h.Ns mainGlobals mg)
    {a_Option : Addr}
    (hn_Option : PySem.W.nsIn K mainGlobals "Option" = some (some (.ref a_Option)))
    {a_Place : Addr}
    (hn_Place : PySem.W.nsIn K mainGlobals "Place" = some (some (.ref a_Place)))
    {a_Kind : Addr}
    (hn_Kind : PySem.W.nsIn K mainGlobals "Kind" = some (some (.ref a_Kind)))
    {a_AnyWord : Addr}
    (hn_AnyWord : PySem.W.nsIn K mainGlobals "AnyWord" = some (some (.ref a_AnyWord)))
    {a_OneOf : Addr}
    (hn_OneOf : PySem.W.nsIn K mainGlobals "OneOf" = some (some (.ref a_OneOf)))
    {a_Number : Addr}
    (hn_Number : PySem.W.nsIn K mainGlobals "Number" = some (some (.ref a_Number)))
    {a_Option___init__ : Addr}
    {a_Option_all_items : Addr}
    {a_Option___eq__ : Addr}
    {a_Option___repr__ : Addr}
    {a_Place___init__ : Addr}
    {a_Place___eq__ : Addr}
    {a_Place___repr__ : Addr}
    {a_Kind_fits : Addr}
    {a_Kind_words : Addr}
    {a_Kind_hint : Addr}
    {a_Kind_text : Addr}
    {a_Kind___contains__ : Addr}
    {a_Kind___eq__ : Addr}
    {a_Kind___repr__ : Addr}
    {a_AnyWord_fits : Addr}
    {a_AnyWord_hint : Addr}
    {a_AnyWord_text : Addr}
    {a_OneOf___init__ : Addr}
    {a_OneOf_fits : Addr}
    {a_OneOf_words : Addr}
    {a_OneOf_text : Addr}
    {a_Number___init__ : Addr}
    {a_Number_fits : Addr}
    {a_Number_hint : Addr}
    {a_Number_text : Addr}
    (hgc : PySem.W.specialIn K (.builtin "object.__class__") "__get__" = some (some (.builtin "getset_descriptor.__get__")))
    (htc : PySem.W.takesIn K (.builtin "object.__class__") = some true)
    (hp_Option : PySem.W.plainGet K a_Option Str.empty = true)
    (hh_Option : PySem.W.hasDictIn K a_Option = true)
    (ho_Option : PySem.W.plainOver K a_Option = true)
    (hs_Option : PySem.W.findIn K (.ref a_Option) "__setattr__" = some (some (.builtin "object.__setattr__")))
    (hk_Option : PySem.W.keepIn K (.ref a_Option) = true)
    (hm_Option : PySem.W.makesIn K a_Option = true)
    (hb_Option : PySem.W.mroIn K a_Option (.type "object") = some true)
    (hc_Option : PySem.W.findIn K (.ref a_Option) "__class__" = some (some (.builtin "object.__class__")))
    (hf_Option___init__ : PySem.W.findIn K (.ref a_Option) "__init__" = some (some (.ref a_Option___init__)))
    (hf_Option_all_items : PySem.W.findIn K (.ref a_Option) "all_items" = some (some (.ref a_Option_all_items)))
    (hf_Option___eq__ : PySem.W.findIn K (.ref a_Option) "__eq__" = some (some (.ref a_Option___eq__)))
    (hf_Option___repr__ : PySem.W.findIn K (.ref a_Option) "__repr__" = some (some (.ref a_Option___repr__)))
    (hp_Place : PySem.W.plainGet K a_Place Str.empty = true)
    (hh_Place : PySem.W.hasDictIn K a_Place = true)
    (ho_Place : PySem.W.plainOver K a_Place = true)
    (hs_Place : PySem.W.findIn K (.ref a_Place) "__setattr__" = some (some (.builtin "object.__setattr__")))
    (hk_Place : PySem.W.keepIn K (.ref a_Place) = true)
    (hm_Place : PySem.W.makesIn K a_Place = true)
    (hb_Place : PySem.W.mroIn K a_Place (.type "object") = some true)
    (hc_Place : PySem.W.findIn K (.ref a_Place) "__class__" = some (some (.builtin "object.__class__")))
    (hf_Place___init__ : PySem.W.findIn K (.ref a_Place) "__init__" = some (some (.ref a_Place___init__)))
    (hf_Place___eq__ : PySem.W.findIn K (.ref a_Place) "__eq__" = some (some (.ref a_Place___eq__)))
    (hf_Place___repr__ : PySem.W.findIn K (.ref a_Place) "__repr__" = some (some (.ref a_Place___repr__)))
    (hp_Kind : PySem.W.plainGet K a_Kind Str.empty = true)
    (hh_Kind : PySem.W.hasDictIn K a_Kind = true)
    (ho_Kind : PySem.W.plainOver K a_Kind = true)
    (hs_Kind : PySem.W.findIn K (.ref a_Kind) "__setattr__" = some (some (.builtin "object.__setattr__")))
    (hk_Kind : PySem.W.keepIn K (.ref a_Kind) = true)
    (hm_Kind : PySem.W.makesIn K a_Kind = true)
    (hb_Kind : PySem.W.mroIn K a_Kind (.type "object") = some true)
    (hc_Kind : PySem.W.findIn K (.ref a_Kind) "__class__" = some (some (.builtin "object.__class__")))
    (hf_Kind_fits : PySem.W.findIn K (.ref a_Kind) "fits" = some (some (.ref a_Kind_fits)))
    (hf_Kind_words : PySem.W.findIn K (.ref a_Kind) "words" = some (some (.ref a_Kind_words)))
    (hf_Kind_hint : PySem.W.findIn K (.ref a_Kind) "hint" = some (some (.ref a_Kind_hint)))
    (hf_Kind_text : PySem.W.findIn K (.ref a_Kind) "text" = some (some (.ref a_Kind_text)))
    (hf_Kind___contains__ : PySem.W.findIn K (.ref a_Kind) "__contains__" = some (some (.ref a_Kind___contains__)))
    (hf_Kind___eq__ : PySem.W.findIn K (.ref a_Kind) "__eq__" = some (some (.ref a_Kind___eq__)))
    (hf_Kind___repr__ : PySem.W.findIn K (.ref a_Kind) "__repr__" = some (some (.ref a_Kind___repr__)))
    (hp_AnyWord : PySem.W.plainGet K a_AnyWord Str.empty = true)
    (hh_AnyWord : PySem.W.hasDictIn K a_AnyWord = true)
    (ho_AnyWord : PySem.W.plainOver K a_AnyWord = true)
    (hs_AnyWord : PySem.W.findIn K (.ref a_AnyWord) "__setattr__" = some (some (.builtin "object.__setattr__")))
    (hk_AnyWord : PySem.W.keepIn K (.ref a_AnyWord) = true)
    (hm_AnyWord : PySem.W.makesIn K a_AnyWord = true)
    (hb_AnyWord : PySem.W.mroIn K a_AnyWord (.type "object") = some true)
    (hc_AnyWord : PySem.W.findIn K (.ref a_AnyWord) "__class__" = some (some (.builtin "object.__class__")))
    (hf_AnyWord_fits : PySem.W.findIn K (.ref a_AnyWord) "fits" = some (some (.ref a_AnyWord_fits)))
    (hf_AnyWord_words : PySem.W.findIn K (.ref a_AnyWord) "words" = some (some (.ref a_Kind_words)))
    (hf_AnyWord_hint : PySem.W.findIn K (.ref a_AnyWord) "hint" = some (some (.ref a_AnyWord_hint)))
    (hf_AnyWord_text : PySem.W.findIn K (.ref a_AnyWord) "text" = some (some (.ref a_AnyWord_text)))
    (hf_AnyWord___contains__ : PySem.W.findIn K (.ref a_AnyWord) "__contains__" = some (some (.ref a_Kind___contains__)))
    (hf_AnyWord___eq__ : PySem.W.findIn K (.ref a_AnyWord) "__eq__" = some (some (.ref a_Kind___eq__)))
    (hf_AnyWord___repr__ : PySem.W.findIn K (.ref a_AnyWord) "__repr__" = some (some (.ref a_Kind___repr__)))
    (hp_OneOf : PySem.W.plainGet K a_OneOf Str.empty = true)
    (hh_OneOf : PySem.W.hasDictIn K a_OneOf = true)
    (ho_OneOf : PySem.W.plainOver K a_OneOf = true)
    (hs_OneOf : PySem.W.findIn K (.ref a_OneOf) "__setattr__" = some (some (.builtin "object.__setattr__")))
    (hk_OneOf : PySem.W.keepIn K (.ref a_OneOf) = true)
    (hm_OneOf : PySem.W.makesIn K a_OneOf = true)
    (hb_OneOf : PySem.W.mroIn K a_OneOf (.type "object") = some true)
    (hc_OneOf : PySem.W.findIn K (.ref a_OneOf) "__class__" = some (some (.builtin "object.__class__")))
    (hf_OneOf_fits : PySem.W.findIn K (.ref a_OneOf) "fits" = some (some (.ref a_OneOf_fits)))
    (hf_OneOf_words : PySem.W.findIn K (.ref a_OneOf) "words" = some (some (.ref a_OneOf_words)))
    (hf_OneOf_hint : PySem.W.findIn K (.ref a_OneOf) "hint" = some (some (.ref a_Kind_hint)))
    (hf_OneOf_text : PySem.W.findIn K (.ref a_OneOf) "text" = some (some (.ref a_OneOf_text)))
    (hf_OneOf___contains__ : PySem.W.findIn K (.ref a_OneOf) "__contains__" = some (some (.ref a_Kind___contains__)))
    (hf_OneOf___eq__ : PySem.W.findIn K (.ref a_OneOf) "__eq__" = some (some (.ref a_Kind___eq__)))
    (hf_OneOf___repr__ : PySem.W.findIn K (.ref a_OneOf) "__repr__" = some (some (.ref a_Kind___repr__)))
    (hf_OneOf___init__ : PySem.W.findIn K (.ref a_OneOf) "__init__" = some (some (.ref a_OneOf___init__)))
    (hp_Number : PySem.W.plainGet K a_Number Str.empty = true)
    (hh_Number : PySem.W.hasDictIn K a_Number = true)
    (ho_Number : PySem.W.plainOver K a_Number = true)
    (hs_Number : PySem.W.findIn K (.ref a_Number) "__setattr__" = some (some (.builtin "object.__setattr__")))
    (hk_Number : PySem.W.keepIn K (.ref a_Number) = true)
    (hm_Number : PySem.W.makesIn K a_Number = true)
    (hb_Number : PySem.W.mroIn K a_Number (.type "object") = some true)
    (hc_Number : PySem.W.findIn K (.ref a_Number) "__class__" = some (some (.builtin "object.__class__")))
    (hf_Number_fits : PySem.W.findIn K (.ref a_Number) "fits" = some (some (.ref a_Number_fits)))
    (hf_Number_words : PySem.W.findIn K (.ref a_Number) "words" = some (some (.ref a_Kind_words)))
    (hf_Number_hint : PySem.W.findIn K (.ref a_Number) "hint" = some (some (.ref a_Number_hint)))
    (hf_Number_text : PySem.W.findIn K (.ref a_Number) "text" = some (some (.ref a_Number_text)))
    (hf_Number___contains__ : PySem.W.findIn K (.ref a_Number) "__contains__" = some (some (.ref a_Kind___contains__)))
    (hf_Number___eq__ : PySem.W.findIn K (.ref a_Number) "__eq__" = some (some (.ref a_Kind___eq__)))
    (hf_Number___repr__ : PySem.W.findIn K (.ref a_Number) "__repr__" = some (some (.ref a_Kind___repr__)))
    (hf_Number___init__ : PySem.W.findIn K (.ref a_Number) "__init__" = some (some (.ref a_Number___init__)))
    (hi_Option___init__ : PySem.W.isFn K (.ref a_Option___init__) = true)
    (hi_Option_all_items : PySem.W.isFn K (.ref a_Option_all_items) = true)
    (hi_Option___eq__ : PySem.W.isFn K (.ref a_Option___eq__) = true)
    (hi_Option___repr__ : PySem.W.isFn K (.ref a_Option___repr__) = true)
    (hi_Place___init__ : PySem.W.isFn K (.ref a_Place___init__) = true)
    (hi_Place___eq__ : PySem.W.isFn K (.ref a_Place___eq__) = true)
    (hi_Place___repr__ : PySem.W.isFn K (.ref a_Place___repr__) = true)
    (hi_Kind_fits : PySem.W.isFn K (.ref a_Kind_fits) = true)
    (hi_Kind_words : PySem.W.isFn K (.ref a_Kind_words) = true)
    (hi_Kind_hint : PySem.W.isFn K (.ref a_Kind_hint) = true)
    (hi_Kind_text : PySem.W.isFn K (.ref a_Kind_text) = true)
    (hi_Kind___contains__ : PySem.W.isFn K (.ref a_Kind___contains__) = true)
    (hi_Kind___eq__ : PySem.W.isFn K (.ref a_Kind___eq__) = true)
    (hi_Kind___repr__ : PySem.W.isFn K (.ref a_Kind___repr__) = true)
    (hi_AnyWord_fits : PySem.W.isFn K (.ref a_AnyWord_fits) = true)
    (hi_AnyWord_hint : PySem.W.isFn K (.ref a_AnyWord_hint) = true)
    (hi_AnyWord_text : PySem.W.isFn K (.ref a_AnyWord_text) = true)
    (hi_OneOf___init__ : PySem.W.isFn K (.ref a_OneOf___init__) = true)
    (hi_OneOf_fits : PySem.W.isFn K (.ref a_OneOf_fits) = true)
    (hi_OneOf_words : PySem.W.isFn K (.ref a_OneOf_words) = true)
    (hi_OneOf_text : PySem.W.isFn K (.ref a_OneOf_text) = true)
    (hi_Number___init__ : PySem.W.isFn K (.ref a_Number___init__) = true)
    (hi_Number_fits : PySem.W.isFn K (.ref a_Number_fits) = true)
    (hi_Number_hint : PySem.W.isFn K (.ref a_Number_hint) = true)
    (hi_Number_text : PySem.W.isFn K (.ref a_Number_text) = true)
    {oc_Option___init__ dc_Option___init__ pm_Option___init__ cd_Option___init__ ct_Option___init__ : Value}
    {od_Option___init__ an_Option___init__ : Option Addr}
    {sl_Option___init__ : Array (Option Value)}
    {T_Option___init__ : Addr}
    {D_Option___init__ : Addr}
    (l_Option___init__ : K.lookup a_Option___init__ = some ⟨oc_Option___init__, od_Option___init__, .func (PySem.W.fnOf "__init__" "Option.__init__" (defArgs s_Option___init__) (defBody s_Option___init__) (defScope s_Option___init__) (.ref T_Option___init__) (.ref D_Option___init__) dc_Option___init__ pm_Option___init__ an_Option___init__ cd_Option___init__ ct_Option___init__), sl_Option___init__⟩)
    (c_Option___init__ : PySem.W.codeIn K cd_Option___init__ "Option.__init__" = true)
    (k_Option___init__ : PySem.W.keepIn K (.ref a_Option___init__) = true)
    {Tc_Option___init__ : Value}
    {Td_Option___init__ : Option Addr}
    {Tn_Option___init__ : Nat}
    {Ts_Option___init__ : Array (Option Value)}
    (d_Option___init__ : K.lookup T_Option___init__ = some ⟨Tc_Option___init__, Td_Option___init__, .seq #[.none] Tn_Option___init__, Ts_Option___init__⟩)
    {kk0_Option___init__ : Tok}
    (w0_Option___init__ : PySem.W.nsIn K D_Option___init__ "most" = some (some (.int (1) kk0_Option___init__)))
    {oc_Option_all_items dc_Option_all_items pm_Option_all_items cd_Option_all_items ct_Option_all_items : Value}
    {od_Option_all_items an_Option_all_items : Option Addr}
    {sl_Option_all_items : Array (Option Value)}
    {kV_Option_all_items : Value}
    (l_Option_all_items : K.lookup a_Option_all_items = some ⟨oc_Option_all_items, od_Option_all_items, .func (PySem.W.fnOf "all_items" "Option.all_items" (defArgs s_Option_all_items) (defBody s_Option_all_items) (defScope s_Option_all_items) .none kV_Option_all_items dc_Option_all_items pm_Option_all_items an_Option_all_items cd_Option_all_items ct_Option_all_items), sl_Option_all_items⟩)
    (c_Option_all_items : PySem.W.codeIn K cd_Option_all_items "Option.all_items" = true)
    (k_Option_all_items : PySem.W.keepIn K (.ref a_Option_all_items) = true)
    {oc_Option___eq__ dc_Option___eq__ pm_Option___eq__ cd_Option___eq__ ct_Option___eq__ : Value}
    {od_Option___eq__ an_Option___eq__ : Option Addr}
    {sl_Option___eq__ : Array (Option Value)}
    {kV_Option___eq__ : Value}
    (l_Option___eq__ : K.lookup a_Option___eq__ = some ⟨oc_Option___eq__, od_Option___eq__, .func (PySem.W.fnOf "__eq__" "Option.__eq__" (defArgs s_Option___eq__) (defBody s_Option___eq__) (defScope s_Option___eq__) .none kV_Option___eq__ dc_Option___eq__ pm_Option___eq__ an_Option___eq__ cd_Option___eq__ ct_Option___eq__), sl_Option___eq__⟩)
    (c_Option___eq__ : PySem.W.codeIn K cd_Option___eq__ "Option.__eq__" = true)
    (k_Option___eq__ : PySem.W.keepIn K (.ref a_Option___eq__) = true)
    {oc_Option___repr__ dc_Option___repr__ pm_Option___repr__ cd_Option___repr__ ct_Option___repr__ : Value}
    {od_Option___repr__ an_Option___repr__ : Option Addr}
    {sl_Option___repr__ : Array (Option Value)}
    {kV_Option___repr__ : Value}
    (l_Option___repr__ : K.lookup a_Option___repr__ = some ⟨oc_Option___repr__, od_Option___repr__, .func (PySem.W.fnOf "__repr__" "Option.__repr__" (defArgs s_Option___repr__) (defBody s_Option___repr__) (defScope s_Option___repr__) .none kV_Option___repr__ dc_Option___repr__ pm_Option___repr__ an_Option___repr__ cd_Option___repr__ ct_Option___repr__), sl_Option___repr__⟩)
    (c_Option___repr__ : PySem.W.codeIn K cd_Option___repr__ "Option.__repr__" = true)
    (k_Option___repr__ : PySem.W.keepIn K (.ref a_Option___repr__) = true)
    {oc_Place___init__ dc_Place___init__ pm_Place___init__ cd_Place___init__ ct_Place___init__ : Value}
    {od_Place___init__ an_Place___init__ : Option Addr}
    {sl_Place___init__ : Array (Option Value)}
    {D_Place___init__ : Addr}
    (l_Place___init__ : K.lookup a_Place___init__ = some ⟨oc_Place___init__, od_Place___init__, .func (PySem.W.fnOf "__init__" "Place.__init__" (defArgs s_Place___init__) (defBody s_Place___init__) (defScope s_Place___init__) .none (.ref D_Place___init__) dc_Place___init__ pm_Place___init__ an_Place___init__ cd_Place___init__ ct_Place___init__), sl_Place___init__⟩)
    (c_Place___init__ : PySem.W.codeIn K cd_Place___init__ "Place.__init__" = true)
    (k_Place___init__ : PySem.W.keepIn K (.ref a_Place___init__) = true)
    {kk0_Place___init__ : Tok}
    (w0_Place___init__ : PySem.W.nsIn K D_Place___init__ "least" = some (some (.int (1) kk0_Place___init__)))
    {kk1_Place___init__ : Tok}
    (w1_Place___init__ : PySem.W.nsIn K D_Place___init__ "most" = some (some (.int (1) kk1_Place___init__)))
    {oc_Place___eq__ dc_Place___eq__ pm_Place___eq__ cd_Place___eq__ ct_Place___eq__ : Value}
    {od_Place___eq__ an_Place___eq__ : Option Addr}
    {sl_Place___eq__ : Array (Option Value)}
    {kV_Place___eq__ : Value}
    (l_Place___eq__ : K.lookup a_Place___eq__ = some ⟨oc_Place___eq__, od_Place___eq__, .func (PySem.W.fnOf "__eq__" "Place.__eq__" (defArgs s_Place___eq__) (defBody s_Place___eq__) (defScope s_Place___eq__) .none kV_Place___eq__ dc_Place___eq__ pm_Place___eq__ an_Place___eq__ cd_Place___eq__ ct_Place___eq__), sl_Place___eq__⟩)
    (c_Place___eq__ : PySem.W.codeIn K cd_Place___eq__ "Place.__eq__" = true)
    (k_Place___eq__ : PySem.W.keepIn K (.ref a_Place___eq__) = true)
    {oc_Place___repr__ dc_Place___repr__ pm_Place___repr__ cd_Place___repr__ ct_Place___repr__ : Value}
    {od_Place___repr__ an_Place___repr__ : Option Addr}
    {sl_Place___repr__ : Array (Option Value)}
    {kV_Place___repr__ : Value}
    (l_Place___repr__ : K.lookup a_Place___repr__ = some ⟨oc_Place___repr__, od_Place___repr__, .func (PySem.W.fnOf "__repr__" "Place.__repr__" (defArgs s_Place___repr__) (defBody s_Place___repr__) (defScope s_Place___repr__) .none kV_Place___repr__ dc_Place___repr__ pm_Place___repr__ an_Place___repr__ cd_Place___repr__ ct_Place___repr__), sl_Place___repr__⟩)
    (c_Place___repr__ : PySem.W.codeIn K cd_Place___repr__ "Place.__repr__" = true)
    (k_Place___repr__ : PySem.W.keepIn K (.ref a_Place___repr__) = true)
    {oc_Kind_fits dc_Kind_fits pm_Kind_fits cd_Kind_fits ct_Kind_fits : Value}
    {od_Kind_fits an_Kind_fits : Option Addr}
    {sl_Kind_fits : Array (Option Value)}
    {D_Kind_fits : Addr}
    (l_Kind_fits : K.lookup a_Kind_fits = some ⟨oc_Kind_fits, od_Kind_fits, .func (PySem.W.fnOf "fits" "Kind.fits" (defArgs s_Kind_fits) (defBody s_Kind_fits) (defScope s_Kind_fits) .none (.ref D_Kind_fits) dc_Kind_fits pm_Kind_fits an_Kind_fits cd_Kind_fits ct_Kind_fits), sl_Kind_fits⟩)
    (c_Kind_fits : PySem.W.codeIn K cd_Kind_fits "Kind.fits" = true)
    (k_Kind_fits : PySem.W.keepIn K (.ref a_Kind_fits) = true)
    (w0_Kind_fits : PySem.W.nsIn K D_Kind_fits "over" = some (some (.bool false)))
    {oc_Kind_words dc_Kind_words pm_Kind_words cd_Kind_words ct_Kind_words : Value}
    {od_Kind_words an_Kind_words : Option Addr}
    {sl_Kind_words : Array (Option Value)}
    {kV_Kind_words : Value}
    (l_Kind_words : K.lookup a_Kind_words = some ⟨oc_Kind_words, od_Kind_words, .func (PySem.W.fnOf "words" "Kind.words" (defArgs s_Kind_words) (defBody s_Kind_words) (defScope s_Kind_words) .none kV_Kind_words dc_Kind_words pm_Kind_words an_Kind_words cd_Kind_words ct_Kind_words), sl_Kind_words⟩)
    (c_Kind_words : PySem.W.codeIn K cd_Kind_words "Kind.words" = true)
    (k_Kind_words : PySem.W.keepIn K (.ref a_Kind_words) = true)
    {oc_Kind_hint dc_Kind_hint pm_Kind_hint cd_Kind_hint ct_Kind_hint : Value}
    {od_Kind_hint an_Kind_hint : Option Addr}
    {sl_Kind_hint : Array (Option Value)}
    {kV_Kind_hint : Value}
    (l_Kind_hint : K.lookup a_Kind_hint = some ⟨oc_Kind_hint, od_Kind_hint, .func (PySem.W.fnOf "hint" "Kind.hint" (defArgs s_Kind_hint) (defBody s_Kind_hint) (defScope s_Kind_hint) .none kV_Kind_hint dc_Kind_hint pm_Kind_hint an_Kind_hint cd_Kind_hint ct_Kind_hint), sl_Kind_hint⟩)
    (c_Kind_hint : PySem.W.codeIn K cd_Kind_hint "Kind.hint" = true)
    (k_Kind_hint : PySem.W.keepIn K (.ref a_Kind_hint) = true)
    {oc_Kind_text dc_Kind_text pm_Kind_text cd_Kind_text ct_Kind_text : Value}
    {od_Kind_text an_Kind_text : Option Addr}
    {sl_Kind_text : Array (Option Value)}
    {kV_Kind_text : Value}
    (l_Kind_text : K.lookup a_Kind_text = some ⟨oc_Kind_text, od_Kind_text, .func (PySem.W.fnOf "text" "Kind.text" (defArgs s_Kind_text) (defBody s_Kind_text) (defScope s_Kind_text) .none kV_Kind_text dc_Kind_text pm_Kind_text an_Kind_text cd_Kind_text ct_Kind_text), sl_Kind_text⟩)
    (c_Kind_text : PySem.W.codeIn K cd_Kind_text "Kind.text" = true)
    (k_Kind_text : PySem.W.keepIn K (.ref a_Kind_text) = true)
    {oc_Kind___contains__ dc_Kind___contains__ pm_Kind___contains__ cd_Kind___contains__ ct_Kind___contains__ : Value}
    {od_Kind___contains__ an_Kind___contains__ : Option Addr}
    {sl_Kind___contains__ : Array (Option Value)}
    {kV_Kind___contains__ : Value}
    (l_Kind___contains__ : K.lookup a_Kind___contains__ = some ⟨oc_Kind___contains__, od_Kind___contains__, .func (PySem.W.fnOf "__contains__" "Kind.__contains__" (defArgs s_Kind___contains__) (defBody s_Kind___contains__) (defScope s_Kind___contains__) .none kV_Kind___contains__ dc_Kind___contains__ pm_Kind___contains__ an_Kind___contains__ cd_Kind___contains__ ct_Kind___contains__), sl_Kind___contains__⟩)
    (c_Kind___contains__ : PySem.W.codeIn K cd_Kind___contains__ "Kind.__contains__" = true)
    (k_Kind___contains__ : PySem.W.keepIn K (.ref a_Kind___contains__) = true)
    {oc_Kind___eq__ dc_Kind___eq__ pm_Kind___eq__ cd_Kind___eq__ ct_Kind___eq__ : Value}
    {od_Kind___eq__ an_Kind___eq__ : Option Addr}
    {sl_Kind___eq__ : Array (Option Value)}
    {kV_Kind___eq__ : Value}
    (l_Kind___eq__ : K.lookup a_Kind___eq__ = some ⟨oc_Kind___eq__, od_Kind___eq__, .func (PySem.W.fnOf "__eq__" "Kind.__eq__" (defArgs s_Kind___eq__) (defBody s_Kind___eq__) (defScope s_Kind___eq__) .none kV_Kind___eq__ dc_Kind___eq__ pm_Kind___eq__ an_Kind___eq__ cd_Kind___eq__ ct_Kind___eq__), sl_Kind___eq__⟩)
    (c_Kind___eq__ : PySem.W.codeIn K cd_Kind___eq__ "Kind.__eq__" = true)
    (k_Kind___eq__ : PySem.W.keepIn K (.ref a_Kind___eq__) = true)
    {oc_Kind___repr__ dc_Kind___repr__ pm_Kind___repr__ cd_Kind___repr__ ct_Kind___repr__ : Value}
    {od_Kind___repr__ an_Kind___repr__ : Option Addr}
    {sl_Kind___repr__ : Array (Option Value)}
    {kV_Kind___repr__ : Value}
    (l_Kind___repr__ : K.lookup a_Kind___repr__ = some ⟨oc_Kind___repr__, od_Kind___repr__, .func (PySem.W.fnOf "__repr__" "Kind.__repr__" (defArgs s_Kind___repr__) (defBody s_Kind___repr__) (defScope s_Kind___repr__) .none kV_Kind___repr__ dc_Kind___repr__ pm_Kind___repr__ an_Kind___repr__ cd_Kind___repr__ ct_Kind___repr__), sl_Kind___repr__⟩)
    (c_Kind___repr__ : PySem.W.codeIn K cd_Kind___repr__ "Kind.__repr__" = true)
    (k_Kind___repr__ : PySem.W.keepIn K (.ref a_Kind___repr__) = true)
    {oc_AnyWord_fits dc_AnyWord_fits pm_AnyWord_fits cd_AnyWord_fits ct_AnyWord_fits : Value}
    {od_AnyWord_fits an_AnyWord_fits : Option Addr}
    {sl_AnyWord_fits : Array (Option Value)}
    {D_AnyWord_fits : Addr}
    (l_AnyWord_fits : K.lookup a_AnyWord_fits = some ⟨oc_AnyWord_fits, od_AnyWord_fits, .func (PySem.W.fnOf "fits" "AnyWord.fits" (defArgs s_AnyWord_fits) (defBody s_AnyWord_fits) (defScope s_AnyWord_fits) .none (.ref D_AnyWord_fits) dc_AnyWord_fits pm_AnyWord_fits an_AnyWord_fits cd_AnyWord_fits ct_AnyWord_fits), sl_AnyWord_fits⟩)
    (c_AnyWord_fits : PySem.W.codeIn K cd_AnyWord_fits "AnyWord.fits" = true)
    (k_AnyWord_fits : PySem.W.keepIn K (.ref a_AnyWord_fits) = true)
    (w0_AnyWord_fits : PySem.W.nsIn K D_AnyWord_fits "over" = some (some (.bool false)))
    {oc_AnyWord_hint dc_AnyWord_hint pm_AnyWord_hint cd_AnyWord_hint ct_AnyWord_hint : Value}
    {od_AnyWord_hint an_AnyWord_hint : Option Addr}
    {sl_AnyWord_hint : Array (Option Value)}
    {kV_AnyWord_hint : Value}
    (l_AnyWord_hint : K.lookup a_AnyWord_hint = some ⟨oc_AnyWord_hint, od_AnyWord_hint, .func (PySem.W.fnOf "hint" "AnyWord.hint" (defArgs s_AnyWord_hint) (defBody s_AnyWord_hint) (defScope s_AnyWord_hint) .none kV_AnyWord_hint dc_AnyWord_hint pm_AnyWord_hint an_AnyWord_hint cd_AnyWord_hint ct_AnyWord_hint), sl_AnyWord_hint⟩)
    (c_AnyWord_hint : PySem.W.codeIn K cd_AnyWord_hint "AnyWord.hint" = true)
    (k_AnyWord_hint : PySem.W.keepIn K (.ref a_AnyWord_hint) = true)
    {oc_AnyWord_text dc_AnyWord_text pm_AnyWord_text cd_AnyWord_text ct_AnyWord_text : Value}
    {od_AnyWord_text an_AnyWord_text : Option Addr}
    {sl_AnyWord_text : Array (Option Value)}
    {kV_AnyWord_text : Value}
    (l_AnyWord_text : K.lookup a_AnyWord_text = some ⟨oc_AnyWord_text, od_AnyWord_text, .func (PySem.W.fnOf "text" "AnyWord.text" (defArgs s_AnyWord_text) (defBody s_AnyWord_text) (defScope s_AnyWord_text) .none kV_AnyWord_text dc_AnyWord_text pm_AnyWord_text an_AnyWord_text cd_AnyWord_text ct_AnyWord_text), sl_AnyWord_text⟩)
    (c_AnyWord_text : PySem.W.codeIn K cd_AnyWord_text "AnyWord.text" = true)
    (k_AnyWord_text : PySem.W.keepIn K (.ref a_AnyWord_text) = true)
    {oc_OneOf___init__ dc_OneOf___init__ pm_OneOf___init__ cd_OneOf___init__ ct_OneOf___init__ : Value}
    {od_OneOf___init__ an_OneOf___init__ : Option Addr}
    {sl_OneOf___init__ : Array (Option Value)}
    {kV_OneOf___init__ : Value}
    (l_OneOf___init__ : K.lookup a_OneOf___init__ = some ⟨oc_OneOf___init__, od_OneOf___init__, .func (PySem.W.fnOf "__init__" "OneOf.__init__" (defArgs s_OneOf___init__) (defBody s_OneOf___init__) (defScope s_OneOf___init__) .none kV_OneOf___init__ dc_OneOf___init__ pm_OneOf___init__ an_OneOf___init__ cd_OneOf___init__ ct_OneOf___init__), sl_OneOf___init__⟩)
    (c_OneOf___init__ : PySem.W.codeIn K cd_OneOf___init__ "OneOf.__init__" = true)
    (k_OneOf___init__ : PySem.W.keepIn K (.ref a_OneOf___init__) = true)
    {oc_OneOf_fits dc_OneOf_fits pm_OneOf_fits cd_OneOf_fits ct_OneOf_fits : Value}
    {od_OneOf_fits an_OneOf_fits : Option Addr}
    {sl_OneOf_fits : Array (Option Value)}
    {D_OneOf_fits : Addr}
    (l_OneOf_fits : K.lookup a_OneOf_fits = some ⟨oc_OneOf_fits, od_OneOf_fits, .func (PySem.W.fnOf "fits" "OneOf.fits" (defArgs s_OneOf_fits) (defBody s_OneOf_fits) (defScope s_OneOf_fits) .none (.ref D_OneOf_fits) dc_OneOf_fits pm_OneOf_fits an_OneOf_fits cd_OneOf_fits ct_OneOf_fits), sl_OneOf_fits⟩)
    (c_OneOf_fits : PySem.W.codeIn K cd_OneOf_fits "OneOf.fits" = true)
    (k_OneOf_fits : PySem.W.keepIn K (.ref a_OneOf_fits) = true)
    (w0_OneOf_fits : PySem.W.nsIn K D_OneOf_fits "over" = some (some (.bool false)))
    {oc_OneOf_words dc_OneOf_words pm_OneOf_words cd_OneOf_words ct_OneOf_words : Value}
    {od_OneOf_words an_OneOf_words : Option Addr}
    {sl_OneOf_words : Array (Option Value)}
    {kV_OneOf_words : Value}
    (l_OneOf_words : K.lookup a_OneOf_words = some ⟨oc_OneOf_words, od_OneOf_words, .func (PySem.W.fnOf "words" "OneOf.words" (defArgs s_OneOf_words) (defBody s_OneOf_words) (defScope s_OneOf_words) .none kV_OneOf_words dc_OneOf_words pm_OneOf_words an_OneOf_words cd_OneOf_words ct_OneOf_words), sl_OneOf_words⟩)
    (c_OneOf_words : PySem.W.codeIn K cd_OneOf_words "OneOf.words" = true)
    (k_OneOf_words : PySem.W.keepIn K (.ref a_OneOf_words) = true)
    {oc_OneOf_text dc_OneOf_text pm_OneOf_text cd_OneOf_text ct_OneOf_text : Value}
    {od_OneOf_text an_OneOf_text : Option Addr}
    {sl_OneOf_text : Array (Option Value)}
    {kV_OneOf_text : Value}
    (l_OneOf_text : K.lookup a_OneOf_text = some ⟨oc_OneOf_text, od_OneOf_text, .func (PySem.W.fnOf "text" "OneOf.text" (defArgs s_OneOf_text) (defBody s_OneOf_text) (defScope s_OneOf_text) .none kV_OneOf_text dc_OneOf_text pm_OneOf_text an_OneOf_text cd_OneOf_text ct_OneOf_text), sl_OneOf_text⟩)
    (c_OneOf_text : PySem.W.codeIn K cd_OneOf_text "OneOf.text" = true)
    (k_OneOf_text : PySem.W.keepIn K (.ref a_OneOf_text) = true)
    {oc_Number___init__ dc_Number___init__ pm_Number___init__ cd_Number___init__ ct_Number___init__ : Value}
    {od_Number___init__ an_Number___init__ : Option Addr}
    {sl_Number___init__ : Array (Option Value)}
    {kV_Number___init__ : Value}
    (l_Number___init__ : K.lookup a_Number___init__ = some ⟨oc_Number___init__, od_Number___init__, .func (PySem.W.fnOf "__init__" "Number.__init__" (defArgs s_Number___init__) (defBody s_Number___init__) (defScope s_Number___init__) .none kV_Number___init__ dc_Number___init__ pm_Number___init__ an_Number___init__ cd_Number___init__ ct_Number___init__), sl_Number___init__⟩)
    (c_Number___init__ : PySem.W.codeIn K cd_Number___init__ "Number.__init__" = true)
    (k_Number___init__ : PySem.W.keepIn K (.ref a_Number___init__) = true)
    {oc_Number_fits dc_Number_fits pm_Number_fits cd_Number_fits ct_Number_fits : Value}
    {od_Number_fits an_Number_fits : Option Addr}
    {sl_Number_fits : Array (Option Value)}
    {D_Number_fits : Addr}
    (l_Number_fits : K.lookup a_Number_fits = some ⟨oc_Number_fits, od_Number_fits, .func (PySem.W.fnOf "fits" "Number.fits" (defArgs s_Number_fits) (defBody s_Number_fits) (defScope s_Number_fits) .none (.ref D_Number_fits) dc_Number_fits pm_Number_fits an_Number_fits cd_Number_fits ct_Number_fits), sl_Number_fits⟩)
    (c_Number_fits : PySem.W.codeIn K cd_Number_fits "Number.fits" = true)
    (k_Number_fits : PySem.W.keepIn K (.ref a_Number_fits) = true)
    (w0_Number_fits : PySem.W.nsIn K D_Number_fits "over" = some (some (.bool false)))
    {oc_Number_hint dc_Number_hint pm_Number_hint cd_Number_hint ct_Number_hint : Value}
    {od_Number_hint an_Number_hint : Option Addr}
    {sl_Number_hint : Array (Option Value)}
    {kV_Number_hint : Value}
    (l_Number_hint : K.lookup a_Number_hint = some ⟨oc_Number_hint, od_Number_hint, .func (PySem.W.fnOf "hint" "Number.hint" (defArgs s_Number_hint) (defBody s_Number_hint) (defScope s_Number_hint) .none kV_Number_hint dc_Number_hint pm_Number_hint an_Number_hint cd_Number_hint ct_Number_hint), sl_Number_hint⟩)
    (c_Number_hint : PySem.W.codeIn K cd_Number_hint "Number.hint" = true)
    (k_Number_hint : PySem.W.keepIn K (.ref a_Number_hint) = true)
    {oc_Number_text dc_Number_text pm_Number_text cd_Number_text ct_Number_text : Value}
    {od_Number_text an_Number_text : Option Addr}
    {sl_Number_text : Array (Option Value)}
    {kV_Number_text : Value}
    (l_Number_text : K.lookup a_Number_text = some ⟨oc_Number_text, od_Number_text, .func (PySem.W.fnOf "text" "Number.text" (defArgs s_Number_text) (defBody s_Number_text) (defScope s_Number_text) .none kV_Number_text dc_Number_text pm_Number_text an_Number_text cd_Number_text ct_Number_text), sl_Number_text⟩)
    (c_Number_text : PySem.W.codeIn K cd_Number_text "Number.text" = true)
    (k_Number_text : PySem.W.keepIn K (.ref a_Number_text) = true)
    (he_Option : PySem.W.findIn K (.ref a_Option) "__ne__" = some (some (.builtin "object.__ne__")))
    (hq_Option : PySem.W.subIn K (.ref a_Option) (.type "NoneType") = some false)
    (hx_Option_name : PySem.W.findIn K (.ref a_Option) "name" = some none)
    (hx_Option_kind : PySem.W.findIn K (.ref a_Option) "kind" = some none)
    (hx_Option_most : PySem.W.findIn K (.ref a_Option) "most" = some none)
    (he_Place : PySem.W.findIn K (.ref a_Place) "__ne__" = some (some (.builtin "object.__ne__")))
    (hq_Place : PySem.W.subIn K (.ref a_Place) (.type "NoneType") = some false)
    (hx_Place_kind : PySem.W.findIn K (.ref a_Place) "kind" = some none)
    (hx_Place_least : PySem.W.findIn K (.ref a_Place) "least" = some none)
    (hx_Place_most : PySem.W.findIn K (.ref a_Place) "most" = some none)
    (h0_Kind : PySem.W.findIn K (.ref a_Kind) "__init__" = some (some (.builtin "object.__init__")))
    (he_Kind : PySem.W.findIn K (.ref a_Kind) "__ne__" = some (some (.builtin "object.__ne__")))
    (hq_Kind : PySem.W.subIn K (.ref a_Kind) (.type "NoneType") = some false)
    (h0_AnyWord : PySem.W.findIn K (.ref a_AnyWord) "__init__" = some (some (.builtin "object.__init__")))
    (he_AnyWord : PySem.W.findIn K (.ref a_AnyWord) "__ne__" = some (some (.builtin "object.__ne__")))
    (hq_AnyWord : PySem.W.subIn K (.ref a_AnyWord) (.type "NoneType") = some false)
    (he_OneOf : PySem.W.findIn K (.ref a_OneOf) "__ne__" = some (some (.builtin "object.__ne__")))
    (hq_OneOf : PySem.W.subIn K (.ref a_OneOf) (.type "NoneType") = some false)
    (hx_OneOf_own_words : PySem.W.findIn K (.ref a_OneOf) "own_words" = some none)
    (he_Number : PySem.W.findIn K (.ref a_Number) "__ne__" = some (some (.builtin "object.__ne__")))
    (hq_Number : PySem.W.subIn K (.ref a_Number) (.type "NoneType") = some false)
    (hx_Number_low : PySem.W.findIn K (.ref a_Number) "low" = some none)
    (hx_Number_high : PySem.W.findIn K (.ref a_Number) "high" = some none)
    {tc_Number_MOST : Tok}
    (hr_Number_MOST : PySem.W.readsIn K a_Number (.type "type") = true)
    (hg_Number_MOST : PySem.W.specialIn K (.ref a_Number) "__getattribute__" = some (some (.builtin "type.__getattribute__")))
    (hv_Number_MOST : PySem.W.findCls K (.ref a_Number) (.type "type") "MOST" = some (.val (.int (99999) tc_Number_MOST)))
    (ic_Option : PySem.W.isClsIn K a_Option = true)
    (it_Option : PySem.W.typeIn K (.ref a_Option) = some (.type "type"))
    (is_Option : PySem.W.subIn K (.ref a_Option) (.ref a_Option) = some true)
    (ib_NoneType_Option : PySem.W.subIn K (.type "NoneType") (.ref a_Option) = some false)
    (ib_bool_Option : PySem.W.subIn K (.type "bool") (.ref a_Option) = some false)
    (ib_int_Option : PySem.W.subIn K (.type "int") (.ref a_Option) = some false)
    (ib_str_Option : PySem.W.subIn K (.type "str") (.ref a_Option) = some false)
    (ib_list_Option : PySem.W.subIn K (.type "list") (.ref a_Option) = some false)
    (ib_tuple_Option : PySem.W.subIn K (.type "tuple") (.ref a_Option) = some false)
    (ib_dict_Option : PySem.W.subIn K (.type "dict") (.ref a_Option) = some false)
    (io_Option_Option : PySem.W.subIn K (.ref a_Option) (.ref a_Option) = some true)
    (io_Place_Option : PySem.W.subIn K (.ref a_Place) (.ref a_Option) = some false)
    (io_Kind_Option : PySem.W.subIn K (.ref a_Kind) (.ref a_Option) = some false)
    (io_AnyWord_Option : PySem.W.subIn K (.ref a_AnyWord) (.ref a_Option) = some false)
    (io_OneOf_Option : PySem.W.subIn K (.ref a_OneOf) (.ref a_Option) = some false)
    (io_Number_Option : PySem.W.subIn K (.ref a_Number) (.ref a_Option) = some false)
    (ic_Place : PySem.W.isClsIn K a_Place = true)
    (it_Place : PySem.W.typeIn K (.ref a_Place) = some (.type "type"))
    (is_Place : PySem.W.subIn K (.ref a_Place) (.ref a_Place) = some true)
    (ib_NoneType_Place : PySem.W.subIn K (.type "NoneType") (.ref a_Place) = some false)
    (ib_bool_Place : PySem.W.subIn K (.type "bool") (.ref a_Place) = some false)
    (ib_int_Place : PySem.W.subIn K (.type "int") (.ref a_Place) = some false)
    (ib_str_Place : PySem.W.subIn K (.type "str") (.ref a_Place) = some false)
    (ib_list_Place : PySem.W.subIn K (.type "list") (.ref a_Place) = some false)
    (ib_tuple_Place : PySem.W.subIn K (.type "tuple") (.ref a_Place) = some false)
    (ib_dict_Place : PySem.W.subIn K (.type "dict") (.ref a_Place) = some false)
    (io_Option_Place : PySem.W.subIn K (.ref a_Option) (.ref a_Place) = some false)
    (io_Place_Place : PySem.W.subIn K (.ref a_Place) (.ref a_Place) = some true)
    (io_Kind_Place : PySem.W.subIn K (.ref a_Kind) (.ref a_Place) = some false)
    (io_AnyWord_Place : PySem.W.subIn K (.ref a_AnyWord) (.ref a_Place) = some false)
    (io_OneOf_Place : PySem.W.subIn K (.ref a_OneOf) (.ref a_Place) = some false)
    (io_Number_Place : PySem.W.subIn K (.ref a_Number) (.ref a_Place) = some false)
    (ic_Kind : PySem.W.isClsIn K a_Kind = true)
    (it_Kind : PySem.W.typeIn K (.ref a_Kind) = some (.type "type"))
    (is_Kind : PySem.W.subIn K (.ref a_Kind) (.ref a_Kind) = some true)
    (ib_NoneType_Kind : PySem.W.subIn K (.type "NoneType") (.ref a_Kind) = some false)
    (ib_bool_Kind : PySem.W.subIn K (.type "bool") (.ref a_Kind) = some false)
    (ib_int_Kind : PySem.W.subIn K (.type "int") (.ref a_Kind) = some false)
    (ib_str_Kind : PySem.W.subIn K (.type "str") (.ref a_Kind) = some false)
    (ib_list_Kind : PySem.W.subIn K (.type "list") (.ref a_Kind) = some false)
    (ib_tuple_Kind : PySem.W.subIn K (.type "tuple") (.ref a_Kind) = some false)
    (ib_dict_Kind : PySem.W.subIn K (.type "dict") (.ref a_Kind) = some false)
    (io_Option_Kind : PySem.W.subIn K (.ref a_Option) (.ref a_Kind) = some false)
    (io_Place_Kind : PySem.W.subIn K (.ref a_Place) (.ref a_Kind) = some false)
    (io_Kind_Kind : PySem.W.subIn K (.ref a_Kind) (.ref a_Kind) = some true)
    (io_AnyWord_Kind : PySem.W.subIn K (.ref a_AnyWord) (.ref a_Kind) = some true)
    (io_OneOf_Kind : PySem.W.subIn K (.ref a_OneOf) (.ref a_Kind) = some true)
    (io_Number_Kind : PySem.W.subIn K (.ref a_Number) (.ref a_Kind) = some true)
    (nb_Option_NoneType : PySem.W.notFirst K a_Option (.type "NoneType") = true)
    (nb_Option_bool : PySem.W.notFirst K a_Option (.type "bool") = true)
    (nb_Option_int : PySem.W.notFirst K a_Option (.type "int") = true)
    (nb_Option_str : PySem.W.notFirst K a_Option (.type "str") = true)
    (nb_Option_list : PySem.W.notFirst K a_Option (.type "list") = true)
    (nb_Option_tuple : PySem.W.notFirst K a_Option (.type "tuple") = true)
    (nb_Option_dict : PySem.W.notFirst K a_Option (.type "dict") = true)
    (no_Option_Option : PySem.W.notFirst K a_Option (.ref a_Option) = true)
    (no_Option_Place : PySem.W.notFirst K a_Option (.ref a_Place) = true)
    (no_Option_AnyWord : PySem.W.notFirst K a_Option (.ref a_AnyWord) = true)
    (no_Option_OneOf : PySem.W.notFirst K a_Option (.ref a_OneOf) = true)
    (no_Option_Number : PySem.W.notFirst K a_Option (.ref a_Number) = true)
    (nb_Place_NoneType : PySem.W.notFirst K a_Place (.type "NoneType") = true)
    (nb_Place_bool : PySem.W.notFirst K a_Place (.type "bool") = true)
    (nb_Place_int : PySem.W.notFirst K a_Place (.type "int") = true)
    (nb_Place_str : PySem.W.notFirst K a_Place (.type "str") = true)
    (nb_Place_list : PySem.W.notFirst K a_Place (.type "list") = true)
    (nb_Place_tuple : PySem.W.notFirst K a_Place (.type "tuple") = true)
    (nb_Place_dict : PySem.W.notFirst K a_Place (.type "dict") = true)
    (no_Place_Option : PySem.W.notFirst K a_Place (.ref a_Option) = true)
    (no_Place_Place : PySem.W.notFirst K a_Place (.ref a_Place) = true)
    (no_Place_AnyWord : PySem.W.notFirst K a_Place (.ref a_AnyWord) = true)
    (no_Place_OneOf : PySem.W.notFirst K a_Place (.ref a_OneOf) = true)
    (no_Place_Number : PySem.W.notFirst K a_Place (.ref a_Number) = true)
    (nb_Kind_NoneType : PySem.W.notFirst K a_Kind (.type "NoneType") = true)
    (nb_Kind_bool : PySem.W.notFirst K a_Kind (.type "bool") = true)
    (nb_Kind_int : PySem.W.notFirst K a_Kind (.type "int") = true)
    (nb_Kind_str : PySem.W.notFirst K a_Kind (.type "str") = true)
    (nb_Kind_list : PySem.W.notFirst K a_Kind (.type "list") = true)
    (nb_Kind_tuple : PySem.W.notFirst K a_Kind (.type "tuple") = true)
    (nb_Kind_dict : PySem.W.notFirst K a_Kind (.type "dict") = true)
    (no_Kind_Kind : PySem.W.notFirst K a_Kind (.ref a_Kind) = true)
    (nb_AnyWord_NoneType : PySem.W.notFirst K a_AnyWord (.type "NoneType") = true)
    (nb_AnyWord_bool : PySem.W.notFirst K a_AnyWord (.type "bool") = true)
    (nb_AnyWord_int : PySem.W.notFirst K a_AnyWord (.type "int") = true)
    (nb_AnyWord_str : PySem.W.notFirst K a_AnyWord (.type "str") = true)
    (nb_AnyWord_list : PySem.W.notFirst K a_AnyWord (.type "list") = true)
    (nb_AnyWord_tuple : PySem.W.notFirst K a_AnyWord (.type "tuple") = true)
    (nb_AnyWord_dict : PySem.W.notFirst K a_AnyWord (.type "dict") = true)
    (no_AnyWord_Option : PySem.W.notFirst K a_AnyWord (.ref a_Option) = true)
    (no_AnyWord_Place : PySem.W.notFirst K a_AnyWord (.ref a_Place) = true)
    (no_AnyWord_Kind : PySem.W.notFirst K a_AnyWord (.ref a_Kind) = true)
    (no_AnyWord_AnyWord : PySem.W.notFirst K a_AnyWord (.ref a_AnyWord) = true)
    (no_AnyWord_OneOf : PySem.W.notFirst K a_AnyWord (.ref a_OneOf) = true)
    (no_AnyWord_Number : PySem.W.notFirst K a_AnyWord (.ref a_Number) = true)
    (nb_OneOf_NoneType : PySem.W.notFirst K a_OneOf (.type "NoneType") = true)
    (nb_OneOf_bool : PySem.W.notFirst K a_OneOf (.type "bool") = true)
    (nb_OneOf_int : PySem.W.notFirst K a_OneOf (.type "int") = true)
    (nb_OneOf_str : PySem.W.notFirst K a_OneOf (.type "str") = true)
    (nb_OneOf_list : PySem.W.notFirst K a_OneOf (.type "list") = true)
    (nb_OneOf_tuple : PySem.W.notFirst K a_OneOf (.type "tuple") = true)
    (nb_OneOf_dict : PySem.W.notFirst K a_OneOf (.type "dict") = true)
    (no_OneOf_Option : PySem.W.notFirst K a_OneOf (.ref a_Option) = true)
    (no_OneOf_Place : PySem.W.notFirst K a_OneOf (.ref a_Place) = true)
    (no_OneOf_Kind : PySem.W.notFirst K a_OneOf (.ref a_Kind) = true)
    (no_OneOf_AnyWord : PySem.W.notFirst K a_OneOf (.ref a_AnyWord) = true)
    (no_OneOf_OneOf : PySem.W.notFirst K a_OneOf (.ref a_OneOf) = true)
    (no_OneOf_Number : PySem.W.notFirst K a_OneOf (.ref a_Number) = true)
    (nb_Number_NoneType : PySem.W.notFirst K a_Number (.type "NoneType") = true)
    (nb_Number_bool : PySem.W.notFirst K a_Number (.type "bool") = true)
    (nb_Number_int : PySem.W.notFirst K a_Number (.type "int") = true)
    (nb_Number_str : PySem.W.notFirst K a_Number (.type "str") = true)
    (nb_Number_list : PySem.W.notFirst K a_Number (.type "list") = true)
    (nb_Number_tuple : PySem.W.notFirst K a_Number (.type "tuple") = true)
    (nb_Number_dict : PySem.W.notFirst K a_Number (.type "dict") = true)
    (no_Number_Option : PySem.W.notFirst K a_Number (.ref a_Option) = true)
    (no_Number_Place : PySem.W.notFirst K a_Number (.ref a_Place) = true)
    (no_Number_Kind : PySem.W.notFirst K a_Number (.ref a_Kind) = true)
    (no_Number_AnyWord : PySem.W.notFirst K a_Number (.ref a_AnyWord) = true)
    (no_Number_OneOf : PySem.W.notFirst K a_Number (.ref a_OneOf) = true)
    (no_Number_Number : PySem.W.notFirst K a_Number (.ref a_Number) = true)
    {a__wall : Addr}
    (hn__wall : PySem.W.nsIn K mainGlobals "_wall" = some (some (.ref a__wall)))
    {oc__wall dc__wall pm__wall cd__wall ct__wall : Value}
    {od__wall an__wall : Option Addr}
    {sl__wall : Array (Option Value)}
    {kV__wall : Value}
    (l__wall : K.lookup a__wall = some ⟨oc__wall, od__wall, .func (PySem.W.fnOf "_wall" "_wall" (defArgs s__wall) (defBody s__wall) (defScope s__wall) .none kV__wall dc__wall pm__wall an__wall cd__wall ct__wall), sl__wall⟩)
    (c__wall : PySem.W.codeIn K cd__wall "_wall" = true)
    (k__wall : PySem.W.keepIn K (.ref a__wall) = true)
    {a_is_number : Addr}
    (hn_is_number : PySem.W.nsIn K mainGlobals "is_number" = some (some (.ref a_is_number)))
    {oc_is_number dc_is_number pm_is_number cd_is_number ct_is_number : Value}
    {od_is_number an_is_number : Option Addr}
    {sl_is_number : Array (Option Value)}
    {kV_is_number : Value}
    (l_is_number : K.lookup a_is_number = some ⟨oc_is_number, od_is_number, .func (PySem.W.fnOf "is_number" "is_number" (defArgs s_is_number) (defBody s_is_number) (defScope s_is_number) .none kV_is_number dc_is_number pm_is_number an_is_number cd_is_number ct_is_number), sl_is_number⟩)
    (c_is_number : PySem.W.codeIn K cd_is_number "is_number" = true)
    (k_is_number : PySem.W.keepIn K (.ref a_is_number) = true)
    {a_is_between : Addr}
    (hn_is_between : PySem.W.nsIn K mainGlobals "is_between" = some (some (.ref a_is_between)))
    {oc_is_between dc_is_between pm_is_between cd_is_between ct_is_between : Value}
    {od_is_between an_is_between : Option Addr}
    {sl_is_between : Array (Option Value)}
    {kV_is_between : Value}
    (l_is_between : K.lookup a_is_between = some ⟨oc_is_between, od_is_between, .func (PySem.W.fnOf "is_between" "is_between" (defArgs s_is_between) (defBody s_is_between) (defScope s_is_between) .none kV_is_between dc_is_between pm_is_between an_is_between cd_is_between ct_is_between), sl_is_between⟩)
    (c_is_between : PySem.W.codeIn K cd_is_between "is_between" = true)
    (k_is_between : PySem.W.keepIn K (.ref a_is_between) = true)
    {a_is_word : Addr}
    (hn_is_word : PySem.W.nsIn K mainGlobals "is_word" = some (some (.ref a_is_word)))
    {oc_is_word dc_is_word pm_is_word cd_is_word ct_is_word : Value}
    {od_is_word an_is_word : Option Addr}
    {sl_is_word : Array (Option Value)}
    {kV_is_word : Value}
    (l_is_word : K.lookup a_is_word = some ⟨oc_is_word, od_is_word, .func (PySem.W.fnOf "is_word" "is_word" (defArgs s_is_word) (defBody s_is_word) (defScope s_is_word) .none kV_is_word dc_is_word pm_is_word an_is_word cd_is_word ct_is_word), sl_is_word⟩)
    (c_is_word : PySem.W.codeIn K cd_is_word "is_word" = true)
    (k_is_word : PySem.W.keepIn K (.ref a_is_word) = true)
    {a_is_plain : Addr}
    (hn_is_plain : PySem.W.nsIn K mainGlobals "is_plain" = some (some (.ref a_is_plain)))
    {oc_is_plain dc_is_plain pm_is_plain cd_is_plain ct_is_plain : Value}
    {od_is_plain an_is_plain : Option Addr}
    {sl_is_plain : Array (Option Value)}
    {kV_is_plain : Value}
    (l_is_plain : K.lookup a_is_plain = some ⟨oc_is_plain, od_is_plain, .func (PySem.W.fnOf "is_plain" "is_plain" (defArgs s_is_plain) (defBody s_is_plain) (defScope s_is_plain) .none kV_is_plain dc_is_plain pm_is_plain an_is_plain cd_is_plain ct_is_plain), sl_is_plain⟩)
    (c_is_plain : PySem.W.codeIn K cd_is_plain "is_plain" = true)
    (k_is_plain : PySem.W.keepIn K (.ref a_is_plain) = true)
    {a_is_number_word : Addr}
    (hn_is_number_word : PySem.W.nsIn K mainGlobals "is_number_word" = some (some (.ref a_is_number_word)))
    {oc_is_number_word dc_is_number_word pm_is_number_word cd_is_number_word ct_is_number_word : Value}
    {od_is_number_word an_is_number_word : Option Addr}
    {sl_is_number_word : Array (Option Value)}
    {kV_is_number_word : Value}
    (l_is_number_word : K.lookup a_is_number_word = some ⟨oc_is_number_word, od_is_number_word, .func (PySem.W.fnOf "is_number_word" "is_number_word" (defArgs s_is_number_word) (defBody s_is_number_word) (defScope s_is_number_word) .none kV_is_number_word dc_is_number_word pm_is_number_word an_is_number_word cd_is_number_word ct_is_number_word), sl_is_number_word⟩)
    (c_is_number_word : PySem.W.codeIn K cd_is_number_word "is_number_word" = true)
    (k_is_number_word : PySem.W.keepIn K (.ref a_is_number_word) = true)
    {a_is_option_name : Addr}
    (hn_is_option_name : PySem.W.nsIn K mainGlobals "is_option_name" = some (some (.ref a_is_option_name)))
    {oc_is_option_name dc_is_option_name pm_is_option_name cd_is_option_name ct_is_option_name : Value}
    {od_is_option_name an_is_option_name : Option Addr}
    {sl_is_option_name : Array (Option Value)}
    {kV_is_option_name : Value}
    (l_is_option_name : K.lookup a_is_option_name = some ⟨oc_is_option_name, od_is_option_name, .func (PySem.W.fnOf "is_option_name" "is_option_name" (defArgs s_is_option_name) (defBody s_is_option_name) (defScope s_is_option_name) .none kV_is_option_name dc_is_option_name pm_is_option_name an_is_option_name cd_is_option_name ct_is_option_name), sl_is_option_name⟩)
    (c_is_option_name : PySem.W.codeIn K cd_is_option_name "is_option_name" = true)
    (k_is_option_name : PySem.W.keepIn K (.ref a_is_option_name) = true)
    {a_is_name : Addr}
    (hn_is_name : PySem.W.nsIn K mainGlobals "is_name" = some (some (.ref a_is_name)))
    {oc_is_name dc_is_name pm_is_name cd_is_name ct_is_name : Value}
    {od_is_name an_is_name : Option Addr}
    {sl_is_name : Array (Option Value)}
    {kV_is_name : Value}
    (l_is_name : K.lookup a_is_name = some ⟨oc_is_name, od_is_name, .func (PySem.W.fnOf "is_name" "is_name" (defArgs s_is_name) (defBody s_is_name) (defScope s_is_name) .none kV_is_name dc_is_name pm_is_name an_is_name cd_is_name ct_is_name), sl_is_name⟩)
    (c_is_name : PySem.W.codeIn K cd_is_name "is_name" = true)
    (k_is_name : PySem.W.keepIn K (.ref a_is_name) = true)
    {a__law_feed : Addr}
    (hn__law_feed : PySem.W.nsIn K mainGlobals "_law_feed" = some (some (.ref a__law_feed)))
    {oc__law_feed dc__law_feed pm__law_feed cd__law_feed ct__law_feed : Value}
    {od__law_feed an__law_feed : Option Addr}
    {sl__law_feed : Array (Option Value)}
    {kV__law_feed : Value}
    (l__law_feed : K.lookup a__law_feed = some ⟨oc__law_feed, od__law_feed, .func (PySem.W.fnOf "_law_feed" "_law_feed" (defArgs s__law_feed) (defBody s__law_feed) (defScope s__law_feed) .none kV__law_feed dc__law_feed pm__law_feed an__law_feed cd__law_feed ct__law_feed), sl__law_feed⟩)
    (c__law_feed : PySem.W.codeIn K cd__law_feed "_law_feed" = true)
    (k__law_feed : PySem.W.keepIn K (.ref a__law_feed) = true)
    {a__law_take : Addr}
    (hn__law_take : PySem.W.nsIn K mainGlobals "_law_take" = some (some (.ref a__law_take)))
    {oc__law_take dc__law_take pm__law_take cd__law_take ct__law_take : Value}
    {od__law_take an__law_take : Option Addr}
    {sl__law_take : Array (Option Value)}
    {kV__law_take : Value}
    (l__law_take : K.lookup a__law_take = some ⟨oc__law_take, od__law_take, .func (PySem.W.fnOf "_law_take" "_law_take" (defArgs s__law_take) (defBody s__law_take) (defScope s__law_take) .none kV__law_take dc__law_take pm__law_take an__law_take cd__law_take ct__law_take), sl__law_take⟩)
    (c__law_take : PySem.W.codeIn K cd__law_take "_law_take" = true)
    (k__law_take : PySem.W.keepIn K (.ref a__law_take) = true)
    {a__law_of : Addr}
    (hn__law_of : PySem.W.nsIn K mainGlobals "_law_of" = some (some (.ref a__law_of)))
    {oc__law_of dc__law_of pm__law_of cd__law_of ct__law_of : Value}
    {od__law_of an__law_of : Option Addr}
    {sl__law_of : Array (Option Value)}
    {kV__law_of : Value}
    (l__law_of : K.lookup a__law_of = some ⟨oc__law_of, od__law_of, .func (PySem.W.fnOf "_law_of" "_law_of" (defArgs s__law_of) (defBody s__law_of) (defScope s__law_of) .none kV__law_of dc__law_of pm__law_of an__law_of cd__law_of ct__law_of), sl__law_of⟩)
    (c__law_of : PySem.W.codeIn K cd__law_of "_law_of" = true)
    (k__law_of : PySem.W.keepIn K (.ref a__law_of) = true)
    {a__law_mixed : Addr}
    (hn__law_mixed : PySem.W.nsIn K mainGlobals "_law_mixed" = some (some (.ref a__law_mixed)))
    {oc__law_mixed dc__law_mixed pm__law_mixed cd__law_mixed ct__law_mixed : Value}
    {od__law_mixed an__law_mixed : Option Addr}
    {sl__law_mixed : Array (Option Value)}
    {kV__law_mixed : Value}
    (l__law_mixed : K.lookup a__law_mixed = some ⟨oc__law_mixed, od__law_mixed, .func (PySem.W.fnOf "_law_mixed" "_law_mixed" (defArgs s__law_mixed) (defBody s__law_mixed) (defScope s__law_mixed) .none kV__law_mixed dc__law_mixed pm__law_mixed an__law_mixed cd__law_mixed ct__law_mixed), sl__law_mixed⟩)
    (c__law_mixed : PySem.W.codeIn K cd__law_mixed "_law_mixed" = true)
    (k__law_mixed : PySem.W.keepIn K (.ref a__law_mixed) = true)
    {a__law_same : Addr}
    (hn__law_same : PySem.W.nsIn K mainGlobals "_law_same" = some (some (.ref a__law_same)))
    {oc__law_same dc__law_same pm__law_same cd__law_same ct__law_same : Value}
    {od__law_same an__law_same : Option Addr}
    {sl__law_same : Array (Option Value)}
    {kV__law_same : Value}
    (l__law_same : K.lookup a__law_same = some ⟨oc__law_same, od__law_same, .func (PySem.W.fnOf "_law_same" "_law_same" (defArgs s__law_same) (defBody s__law_same) (defScope s__law_same) .none kV__law_same dc__law_same pm__law_same an__law_same cd__law_same ct__law_same), sl__law_same⟩)
    (c__law_same : PySem.W.codeIn K cd__law_same "_law_same" = true)
    (k__law_same : PySem.W.keepIn K (.ref a__law_same) = true)
    {a__law_plain_words : Addr}
    (hn__law_plain_words : PySem.W.nsIn K mainGlobals "_law_plain_words" = some (some (.ref a__law_plain_words)))
    {oc__law_plain_words dc__law_plain_words pm__law_plain_words cd__law_plain_words ct__law_plain_words : Value}
    {od__law_plain_words an__law_plain_words : Option Addr}
    {sl__law_plain_words : Array (Option Value)}
    {kV__law_plain_words : Value}
    (l__law_plain_words : K.lookup a__law_plain_words = some ⟨oc__law_plain_words, od__law_plain_words, .func (PySem.W.fnOf "_law_plain_words" "_law_plain_words" (defArgs s__law_plain_words) (defBody s__law_plain_words) (defScope s__law_plain_words) .none kV__law_plain_words dc__law_plain_words pm__law_plain_words an__law_plain_words cd__law_plain_words ct__law_plain_words), sl__law_plain_words⟩)
    (c__law_plain_words : PySem.W.codeIn K cd__law_plain_words "_law_plain_words" = true)
    (k__law_plain_words : PySem.W.keepIn K (.ref a__law_plain_words) = true)
    {a__law_dashes : Addr}
    (hn__law_dashes : PySem.W.nsIn K mainGlobals "_law_dashes" = some (some (.ref a__law_dashes)))
    {oc__law_dashes dc__law_dashes pm__law_dashes cd__law_dashes ct__law_dashes : Value}
    {od__law_dashes an__law_dashes : Option Addr}
    {sl__law_dashes : Array (Option Value)}
    {kV__law_dashes : Value}
    (l__law_dashes : K.lookup a__law_dashes = some ⟨oc__law_dashes, od__law_dashes, .func (PySem.W.fnOf "_law_dashes" "_law_dashes" (defArgs s__law_dashes) (defBody s__law_dashes) (defScope s__law_dashes) .none kV__law_dashes dc__law_dashes pm__law_dashes an__law_dashes cd__law_dashes ct__law_dashes), sl__law_dashes⟩)
    (c__law_dashes : PySem.W.codeIn K cd__law_dashes "_law_dashes" = true)
    (k__law_dashes : PySem.W.keepIn K (.ref a__law_dashes) = true)
    {a__law_kind : Addr}
    (hn__law_kind : PySem.W.nsIn K mainGlobals "_law_kind" = some (some (.ref a__law_kind)))
    {oc__law_kind dc__law_kind pm__law_kind cd__law_kind ct__law_kind : Value}
    {od__law_kind an__law_kind : Option Addr}
    {sl__law_kind : Array (Option Value)}
    {kV__law_kind : Value}
    (l__law_kind : K.lookup a__law_kind = some ⟨oc__law_kind, od__law_kind, .func (PySem.W.fnOf "_law_kind" "_law_kind" (defArgs s__law_kind) (defBody s__law_kind) (defScope s__law_kind) .none kV__law_kind dc__law_kind pm__law_kind an__law_kind cd__law_kind ct__law_kind), sl__law_kind⟩)
    (c__law_kind : PySem.W.codeIn K cd__law_kind "_law_kind" = true)
    (k__law_kind : PySem.W.keepIn K (.ref a__law_kind) = true)
    {a__law_opts : Addr}
    (hn__law_opts : PySem.W.nsIn K mainGlobals "_law_opts" = some (some (.ref a__law_opts)))
    {oc__law_opts dc__law_opts pm__law_opts cd__law_opts ct__law_opts : Value}
    {od__law_opts an__law_opts : Option Addr}
    {sl__law_opts : Array (Option Value)}
    {kV__law_opts : Value}
    (l__law_opts : K.lookup a__law_opts = some ⟨oc__law_opts, od__law_opts, .func (PySem.W.fnOf "_law_opts" "_law_opts" (defArgs s__law_opts) (defBody s__law_opts) (defScope s__law_opts) .none kV__law_opts dc__law_opts pm__law_opts an__law_opts cd__law_opts ct__law_opts), sl__law_opts⟩)
    (c__law_opts : PySem.W.codeIn K cd__law_opts "_law_opts" = true)
    (k__law_opts : PySem.W.keepIn K (.ref a__law_opts) = true)
    {a__law_items : Addr}
    (hn__law_items : PySem.W.nsIn K mainGlobals "_law_items" = some (some (.ref a__law_items)))
    {oc__law_items dc__law_items pm__law_items cd__law_items ct__law_items : Value}
    {od__law_items an__law_items : Option Addr}
    {sl__law_items : Array (Option Value)}
    {kV__law_items : Value}
    (l__law_items : K.lookup a__law_items = some ⟨oc__law_items, od__law_items, .func (PySem.W.fnOf "_law_items" "_law_items" (defArgs s__law_items) (defBody s__law_items) (defScope s__law_items) .none kV__law_items dc__law_items pm__law_items an__law_items cd__law_items ct__law_items), sl__law_items⟩)
    (c__law_items : PySem.W.codeIn K cd__law_items "_law_items" = true)
    (k__law_items : PySem.W.keepIn K (.ref a__law_items) = true)
    {a__law_slots : Addr}
    (hn__law_slots : PySem.W.nsIn K mainGlobals "_law_slots" = some (some (.ref a__law_slots)))
    {oc__law_slots dc__law_slots pm__law_slots cd__law_slots ct__law_slots : Value}
    {od__law_slots an__law_slots : Option Addr}
    {sl__law_slots : Array (Option Value)}
    {kV__law_slots : Value}
    (l__law_slots : K.lookup a__law_slots = some ⟨oc__law_slots, od__law_slots, .func (PySem.W.fnOf "_law_slots" "_law_slots" (defArgs s__law_slots) (defBody s__law_slots) (defScope s__law_slots) .none kV__law_slots dc__law_slots pm__law_slots an__law_slots cd__law_slots ct__law_slots), sl__law_slots⟩)
    (c__law_slots : PySem.W.codeIn K cd__law_slots "_law_slots" = true)
    (k__law_slots : PySem.W.keepIn K (.ref a__law_slots) = true)
    {a__law_ready_kind : Addr}
    (hn__law_ready_kind : PySem.W.nsIn K mainGlobals "_law_ready_kind" = some (some (.ref a__law_ready_kind)))
    {oc__law_ready_kind dc__law_ready_kind pm__law_ready_kind cd__law_ready_kind ct__law_ready_kind : Value}
    {od__law_ready_kind an__law_ready_kind : Option Addr}
    {sl__law_ready_kind : Array (Option Value)}
    {kV__law_ready_kind : Value}
    (l__law_ready_kind : K.lookup a__law_ready_kind = some ⟨oc__law_ready_kind, od__law_ready_kind, .func (PySem.W.fnOf "_law_ready_kind" "_law_ready_kind" (defArgs s__law_ready_kind) (defBody s__law_ready_kind) (defScope s__law_ready_kind) .none kV__law_ready_kind dc__law_ready_kind pm__law_ready_kind an__law_ready_kind cd__law_ready_kind ct__law_ready_kind), sl__law_ready_kind⟩)
    (c__law_ready_kind : PySem.W.codeIn K cd__law_ready_kind "_law_ready_kind" = true)
    (k__law_ready_kind : PySem.W.keepIn K (.ref a__law_ready_kind) = true)
    {a__law_ready_option : Addr}
    (hn__law_ready_option : PySem.W.nsIn K mainGlobals "_law_ready_option" = some (some (.ref a__law_ready_option)))
    {oc__law_ready_option dc__law_ready_option pm__law_ready_option cd__law_ready_option ct__law_ready_option : Value}
    {od__law_ready_option an__law_ready_option : Option Addr}
    {sl__law_ready_option : Array (Option Value)}
    {kV__law_ready_option : Value}
    (l__law_ready_option : K.lookup a__law_ready_option = some ⟨oc__law_ready_option, od__law_ready_option, .func (PySem.W.fnOf "_law_ready_option" "_law_ready_option" (defArgs s__law_ready_option) (defBody s__law_ready_option) (defScope s__law_ready_option) .none kV__law_ready_option dc__law_ready_option pm__law_ready_option an__law_ready_option cd__law_ready_option ct__law_ready_option), sl__law_ready_option⟩)
    (c__law_ready_option : PySem.W.codeIn K cd__law_ready_option "_law_ready_option" = true)
    (k__law_ready_option : PySem.W.keepIn K (.ref a__law_ready_option) = true)
    {a__law_ready_place : Addr}
    (hn__law_ready_place : PySem.W.nsIn K mainGlobals "_law_ready_place" = some (some (.ref a__law_ready_place)))
    {oc__law_ready_place dc__law_ready_place pm__law_ready_place cd__law_ready_place ct__law_ready_place : Value}
    {od__law_ready_place an__law_ready_place : Option Addr}
    {sl__law_ready_place : Array (Option Value)}
    {kV__law_ready_place : Value}
    (l__law_ready_place : K.lookup a__law_ready_place = some ⟨oc__law_ready_place, od__law_ready_place, .func (PySem.W.fnOf "_law_ready_place" "_law_ready_place" (defArgs s__law_ready_place) (defBody s__law_ready_place) (defScope s__law_ready_place) .none kV__law_ready_place dc__law_ready_place pm__law_ready_place an__law_ready_place cd__law_ready_place ct__law_ready_place), sl__law_ready_place⟩)
    (c__law_ready_place : PySem.W.codeIn K cd__law_ready_place "_law_ready_place" = true)
    (k__law_ready_place : PySem.W.keepIn K (.ref a__law_ready_place) = true)
    {a_law : Addr}
    (hn_law : PySem.W.nsIn K mainGlobals "law" = some (some (.ref a_law)))
    {oc_law dc_law pm_law cd_law ct_law : Value}
    {od_law an_law : Option Addr}
    {sl_law : Array (Option Value)}
    {kV_law : Value}
    (l_law : K.lookup a_law = some ⟨oc_law, od_law, .func (PySem.W.fnOf "law" "law" (defArgs s_law) (defBody s_law) (defScope s_law) .none kV_law dc_law pm_law an_law cd_law ct_law), sl_law⟩)
    (c_law : PySem.W.codeIn K cd_law "law" = true)
    (k_law : PySem.W.keepIn K (.ref a_law) = true)
    (z0 : PySem.W.nsIn K mainGlobals "len" = some none)
    (z1 : PySem.W.nsIn K mainGlobals "int" = some none)
    (z2 : PySem.W.nsIn K mainGlobals "str" = some none)
    (z3 : PySem.W.nsIn K mainGlobals "bool" = some none)
    (z4 : PySem.W.nsIn K mainGlobals "list" = some none)
    (z5 : PySem.W.nsIn K mainGlobals "tuple" = some none)
    (z6 : PySem.W.nsIn K mainGlobals "range" = some none)
    (z7 : PySem.W.nsIn K mainGlobals "isinstance" = some none)
    (z8 : PySem.W.nsIn K mainGlobals "all" = some none)
    (z9 : PySem.W.nsIn K mainGlobals "any" = some none)
    (z10 : PySem.W.nsIn K mainGlobals "sum" = some none)
    (z11 : PySem.W.nsIn K mainGlobals "max" = some none)
    (z12 : PySem.W.nsIn K mainGlobals "min" = some none)
    (z13 : PySem.W.nsIn K mainGlobals "sorted" = some none)
    (z14 : PySem.W.nsIn K mainGlobals "enumerate" = some none)
    (z15 : PySem.W.nsIn K mainGlobals "zip" = some none)
    (z16 : PySem.W.nsIn K mainGlobals "dict" = some none)
    (z17 : PySem.W.nsIn K mainGlobals "set" = some none)
    (z18 : PySem.W.nsIn K mainGlobals "repr" = some none)
    (z19 : PySem.W.nsIn K mainGlobals "super" = some none)
    {t0 : Tok}
    (cst0 : PySem.W.nsIn K mainGlobals "LETTERS" = some (some (.str "abcdefghijklmnopqrstuvwxyz" t0)))
    {t1 : Tok}
    (cst1 : PySem.W.nsIn K mainGlobals "FIGURES" = some (some (.str "0123456789" t1)))
    {t2 : Tok}
    (cst2 : PySem.W.nsIn K mainGlobals "SIGNS" = some (some (.str "abcdefghijklmnopqrstuvwxyz0123456789-" t2)))
    {t3 : Tok}
    (cst3 : PySem.W.nsIn K mainGlobals "MOST_SIGNS" = some (some (.int (8) t3)))
    {t4 : Tok}
    (cst4 : PySem.W.nsIn K mainGlobals "MOST_LETTERS" = some (some (.int (6) t4)))
    {t5 : Tok}
    (cst5 : PySem.W.nsIn K mainGlobals "MOST_TIMES" = some (some (.int (4) t5)))
    {t6 : Tok}
    (cst6 : PySem.W.nsIn K mainGlobals "MOST_WORDS" = some (some (.int (6) t6)))
    : ∃ c : Cs, Alls K mg c :=
  ⟨⟨a_Option, a_Place, a_Kind, a_AnyWord, a_OneOf, a_Number, a_Option___init__, a_Option_all_items, a_Option___eq__, a_Option___repr__, a_Place___init__, a_Place___eq__, a_Place___repr__, a_Kind_fits, a_Kind_words, a_Kind_hint, a_Kind_text, a_Kind___contains__, a_Kind___eq__, a_Kind___repr__, a_AnyWord_fits, a_AnyWord_hint, a_AnyWord_text, a_OneOf___init__, a_OneOf_fits, a_OneOf_words, a_OneOf_text, a_Number___init__, a_Number_fits, a_Number_hint, a_Number_text⟩, {
    n_Option := PySem.W.mg_of X G hn_Option,
    cl_Option := ⟨hp_Option, hh_Option, ho_Option, hs_Option⟩,
    ty_Option := fun e => .ins e ⟨hp_Option, hh_Option, ho_Option, hs_Option⟩ hc_Option hgc htc hb_Option,
    n_Place := PySem.W.mg_of X G hn_Place,
    cl_Place := ⟨hp_Place, hh_Place, ho_Place, hs_Place⟩,
    ty_Place := fun e => .ins e ⟨hp_Place, hh_Place, ho_Place, hs_Place⟩ hc_Place hgc htc hb_Place,
    n_Kind := PySem.W.mg_of X G hn_Kind,
    cl_Kind := ⟨hp_Kind, hh_Kind, ho_Kind, hs_Kind⟩,
    ty_Kind := fun e => .ins e ⟨hp_Kind, hh_Kind, ho_Kind, hs_Kind⟩ hc_Kind hgc htc hb_Kind,
    n_AnyWord := PySem.W.mg_of X G hn_AnyWord,
    cl_AnyWord := ⟨hp_AnyWord, hh_AnyWord, ho_AnyWord, hs_AnyWord⟩,
    ty_AnyWord := fun e => .ins e ⟨hp_AnyWord, hh_AnyWord, ho_AnyWord, hs_AnyWord⟩ hc_AnyWord hgc htc hb_AnyWord,
    n_OneOf := PySem.W.mg_of X G hn_OneOf,
    cl_OneOf := ⟨hp_OneOf, hh_OneOf, ho_OneOf, hs_OneOf⟩,
    ty_OneOf := fun e => .ins e ⟨hp_OneOf, hh_OneOf, ho_OneOf, hs_OneOf⟩ hc_OneOf hgc htc hb_OneOf,
    n_Number := PySem.W.mg_of X G hn_Number,
    cl_Number := ⟨hp_Number, hh_Number, ho_Number, hs_Number⟩,
    ty_Number := fun e => .ins e ⟨hp_Number, hh_Number, ho_Number, hs_Number⟩ hc_Number hgc htc hb_Number,
    f_Option___init__ := fd_mk l_Option___init__ c_Option___init__ k_Option___init__ (dfl_of (its := [.none]) d_Option___init__ rfl (.cons rfl .nil)) (kwd_of fun p hp => by
      simp only [List.mem_cons, List.not_mem_nil, or_false] at hp
      rcases hp with rfl
      · exact ⟨_, w0_Option___init__, ⟨_, rfl⟩⟩),
    f_Option_all_items := fd_mk l_Option_all_items c_Option_all_items k_Option_all_items dfl_none kwd_none,
    f_Option___eq__ := fd_mk l_Option___eq__ c_Option___eq__ k_Option___eq__ dfl_none kwd_none,
    f_Option___repr__ := fd_mk l_Option___repr__ c_Option___repr__ k_Option___repr__ dfl_none kwd_none,
    f_Place___init__ := fd_mk l_Place___init__ c_Place___init__ k_Place___init__ dfl_none (kwd_of fun p hp => by
      simp only [List.mem_cons, List.not_mem_nil, or_false] at hp
      rcases hp with rfl | rfl
      · exact ⟨_, w0_Place___init__, ⟨_, rfl⟩⟩
      · exact ⟨_, w1_Place___init__, ⟨_, rfl⟩⟩),
    f_Place___eq__ := fd_mk l_Place___eq__ c_Place___eq__ k_Place___eq__ dfl_none kwd_none,
    f_Place___repr__ := fd_mk l_Place___repr__ c_Place___repr__ k_Place___repr__ dfl_none kwd_none,
    f_Kind_fits := fd_mk l_Kind_fits c_Kind_fits k_Kind_fits dfl_none (kwd_of fun p hp => by
      simp only [List.mem_cons, List.not_mem_nil, or_false] at hp
      rcases hp with rfl
      · exact ⟨_, w0_Kind_fits, rfl⟩),
    f_Kind_words := fd_mk l_Kind_words c_Kind_words k_Kind_words dfl_none kwd_none,
    f_Kind_hint := fd_mk l_Kind_hint c_Kind_hint k_Kind_hint dfl_none kwd_none,
    f_Kind_text := fd_mk l_Kind_text c_Kind_text k_Kind_text dfl_none kwd_none,
    f_Kind___contains__ := fd_mk l_Kind___contains__ c_Kind___contains__ k_Kind___contains__ dfl_none kwd_none,
    f_Kind___eq__ := fd_mk l_Kind___eq__ c_Kind___eq__ k_Kind___eq__ dfl_none kwd_none,
    f_Kind___repr__ := fd_mk l_Kind___repr__ c_Kind___repr__ k_Kind___repr__ dfl_none kwd_none,
    f_AnyWord_fits := fd_mk l_AnyWord_fits c_AnyWord_fits k_AnyWord_fits dfl_none (kwd_of fun p hp => by
      simp only [List.mem_cons, List.not_mem_nil, or_false] at hp
      rcases hp with rfl
      · exact ⟨_, w0_AnyWord_fits, rfl⟩),
    f_AnyWord_hint := fd_mk l_AnyWord_hint c_AnyWord_hint k_AnyWord_hint dfl_none kwd_none,
    f_AnyWord_text := fd_mk l_AnyWord_text c_AnyWord_text k_AnyWord_text dfl_none kwd_none,
    f_OneOf___init__ := fd_mk l_OneOf___init__ c_OneOf___init__ k_OneOf___init__ dfl_none kwd_none,
    f_OneOf_fits := fd_mk l_OneOf_fits c_OneOf_fits k_OneOf_fits dfl_none (kwd_of fun p hp => by
      simp only [List.mem_cons, List.not_mem_nil, or_false] at hp
      rcases hp with rfl
      · exact ⟨_, w0_OneOf_fits, rfl⟩),
    f_OneOf_words := fd_mk l_OneOf_words c_OneOf_words k_OneOf_words dfl_none kwd_none,
    f_OneOf_text := fd_mk l_OneOf_text c_OneOf_text k_OneOf_text dfl_none kwd_none,
    f_Number___init__ := fd_mk l_Number___init__ c_Number___init__ k_Number___init__ dfl_none kwd_none,
    f_Number_fits := fd_mk l_Number_fits c_Number_fits k_Number_fits dfl_none (kwd_of fun p hp => by
      simp only [List.mem_cons, List.not_mem_nil, or_false] at hp
      rcases hp with rfl
      · exact ⟨_, w0_Number_fits, rfl⟩),
    f_Number_hint := fd_mk l_Number_hint c_Number_hint k_Number_hint dfl_none kwd_none,
    f_Number_text := fd_mk l_Number_text c_Number_text k_Number_text dfl_none kwd_none,
    mk_Option := ⟨hm_Option, hf_Option___init__, hi_Option___init__, hk_Option⟩,
    me_Option_all_items := ⟨hf_Option_all_items, hi_Option_all_items, k_Option_all_items⟩,
    me_Option___eq__ := ⟨hf_Option___eq__, hi_Option___eq__, k_Option___eq__⟩,
    me_Option___repr__ := ⟨hf_Option___repr__, hi_Option___repr__, k_Option___repr__⟩,
    ne_Option := ⟨he_Option, hb_Option⟩,
    nn_Option := hq_Option,
    na_Option_name := hx_Option_name,
    na_Option_kind := hx_Option_kind,
    na_Option_most := hx_Option_most,
    mk_Place := ⟨hm_Place, hf_Place___init__, hi_Place___init__, hk_Place⟩,
    me_Place___eq__ := ⟨hf_Place___eq__, hi_Place___eq__, k_Place___eq__⟩,
    me_Place___repr__ := ⟨hf_Place___repr__, hi_Place___repr__, k_Place___repr__⟩,
    ne_Place := ⟨he_Place, hb_Place⟩,
    nn_Place := hq_Place,
    na_Place_kind := hx_Place_kind,
    na_Place_least := hx_Place_least,
    na_Place_most := hx_Place_most,
    m_Kind := ⟨hm_Kind, h0_Kind, hk_Kind, PySem.W.mg_of X G hn_Kind⟩,
    me_Kind_fits := ⟨hf_Kind_fits, hi_Kind_fits, k_Kind_fits⟩,
    me_Kind_words := ⟨hf_Kind_words, hi_Kind_words, k_Kind_words⟩,
    me_Kind_hint := ⟨hf_Kind_hint, hi_Kind_hint, k_Kind_hint⟩,
    me_Kind_text := ⟨hf_Kind_text, hi_Kind_text, k_Kind_text⟩,
    me_Kind___contains__ := ⟨hf_Kind___contains__, hi_Kind___contains__, k_Kind___contains__⟩,
    me_Kind___eq__ := ⟨hf_Kind___eq__, hi_Kind___eq__, k_Kind___eq__⟩,
    me_Kind___repr__ := ⟨hf_Kind___repr__, hi_Kind___repr__, k_Kind___repr__⟩,
    ne_Kind := ⟨he_Kind, hb_Kind⟩,
    nn_Kind := hq_Kind,
    m_AnyWord := ⟨hm_AnyWord, h0_AnyWord, hk_AnyWord, PySem.W.mg_of X G hn_AnyWord⟩,
    me_AnyWord_fits := ⟨hf_AnyWord_fits, hi_AnyWord_fits, k_AnyWord_fits⟩,
    me_AnyWord_words := ⟨hf_AnyWord_words, hi_Kind_words, k_Kind_words⟩,
    me_AnyWord_hint := ⟨hf_AnyWord_hint, hi_AnyWord_hint, k_AnyWord_hint⟩,
    me_AnyWord_text := ⟨hf_AnyWord_text, hi_AnyWord_text, k_AnyWord_text⟩,
    me_AnyWord___contains__ := ⟨hf_AnyWord___contains__, hi_Kind___contains__, k_Kind___contains__⟩,
    me_AnyWord___eq__ := ⟨hf_AnyWord___eq__, hi_Kind___eq__, k_Kind___eq__⟩,
    me_AnyWord___repr__ := ⟨hf_AnyWord___repr__, hi_Kind___repr__, k_Kind___repr__⟩,
    ne_AnyWord := ⟨he_AnyWord, hb_AnyWord⟩,
    nn_AnyWord := hq_AnyWord,
    mk_OneOf := ⟨hm_OneOf, hf_OneOf___init__, hi_OneOf___init__, hk_OneOf⟩,
    me_OneOf_fits := ⟨hf_OneOf_fits, hi_OneOf_fits, k_OneOf_fits⟩,
    me_OneOf_words := ⟨hf_OneOf_words, hi_OneOf_words, k_OneOf_words⟩,
    me_OneOf_hint := ⟨hf_OneOf_hint, hi_Kind_hint, k_Kind_hint⟩,
    me_OneOf_text := ⟨hf_OneOf_text, hi_OneOf_text, k_OneOf_text⟩,
    me_OneOf___contains__ := ⟨hf_OneOf___contains__, hi_Kind___contains__, k_Kind___contains__⟩,
    me_OneOf___eq__ := ⟨hf_OneOf___eq__, hi_Kind___eq__, k_Kind___eq__⟩,
    me_OneOf___repr__ := ⟨hf_OneOf___repr__, hi_Kind___repr__, k_Kind___repr__⟩,
    ne_OneOf := ⟨he_OneOf, hb_OneOf⟩,
    nn_OneOf := hq_OneOf,
    na_OneOf_own_words := hx_OneOf_own_words,
    mk_Number := ⟨hm_Number, hf_Number___init__, hi_Number___init__, hk_Number⟩,
    me_Number_fits := ⟨hf_Number_fits, hi_Number_fits, k_Number_fits⟩,
    me_Number_words := ⟨hf_Number_words, hi_Kind_words, k_Kind_words⟩,
    me_Number_hint := ⟨hf_Number_hint, hi_Number_hint, k_Number_hint⟩,
    me_Number_text := ⟨hf_Number_text, hi_Number_text, k_Number_text⟩,
    me_Number___contains__ := ⟨hf_Number___contains__, hi_Kind___contains__, k_Kind___contains__⟩,
    me_Number___eq__ := ⟨hf_Number___eq__, hi_Kind___eq__, k_Kind___eq__⟩,
    me_Number___repr__ := ⟨hf_Number___repr__, hi_Kind___repr__, k_Kind___repr__⟩,
    ne_Number := ⟨he_Number, hb_Number⟩,
    nn_Number := hq_Number,
    na_Number_low := hx_Number_low,
    na_Number_high := hx_Number_high,
    cv_Number_MOST := ⟨_, _, ⟨hr_Number_MOST, hg_Number_MOST⟩, ⟨hv_Number_MOST, ⟨_, rfl⟩⟩⟩,
    isa_NoneType_Option := kit_own ic_Option it_Option is_Option ib_NoneType_Option,
    isa_bool_Option := kit_own ic_Option it_Option is_Option ib_bool_Option,
    isa_int_Option := kit_own ic_Option it_Option is_Option ib_int_Option,
    isa_str_Option := kit_own ic_Option it_Option is_Option ib_str_Option,
    isa_list_Option := kit_own ic_Option it_Option is_Option ib_list_Option,
    isa_tuple_Option := kit_own ic_Option it_Option is_Option ib_tuple_Option,
    isa_dict_Option := kit_own ic_Option it_Option is_Option ib_dict_Option,
    isa_Option_Option := kit_own ic_Option it_Option is_Option io_Option_Option,
    isa_Place_Option := kit_own ic_Option it_Option is_Option io_Place_Option,
    isa_Kind_Option := kit_own ic_Option it_Option is_Option io_Kind_Option,
    isa_AnyWord_Option := kit_own ic_Option it_Option is_Option io_AnyWord_Option,
    isa_OneOf_Option := kit_own ic_Option it_Option is_Option io_OneOf_Option,
    isa_Number_Option := kit_own ic_Option it_Option is_Option io_Number_Option,
    isa_NoneType_Place := kit_own ic_Place it_Place is_Place ib_NoneType_Place,
    isa_bool_Place := kit_own ic_Place it_Place is_Place ib_bool_Place,
    isa_int_Place := kit_own ic_Place it_Place is_Place ib_int_Place,
    isa_str_Place := kit_own ic_Place it_Place is_Place ib_str_Place,
    isa_list_Place := kit_own ic_Place it_Place is_Place ib_list_Place,
    isa_tuple_Place := kit_own ic_Place it_Place is_Place ib_tuple_Place,
    isa_dict_Place := kit_own ic_Place it_Place is_Place ib_dict_Place,
    isa_Option_Place := kit_own ic_Place it_Place is_Place io_Option_Place,
    isa_Place_Place := kit_own ic_Place it_Place is_Place io_Place_Place,
    isa_Kind_Place := kit_own ic_Place it_Place is_Place io_Kind_Place,
    isa_AnyWord_Place := kit_own ic_Place it_Place is_Place io_AnyWord_Place,
    isa_OneOf_Place := kit_own ic_Place it_Place is_Place io_OneOf_Place,
    isa_Number_Place := kit_own ic_Place it_Place is_Place io_Number_Place,
    isa_NoneType_Kind := kit_own ic_Kind it_Kind is_Kind ib_NoneType_Kind,
    isa_bool_Kind := kit_own ic_Kind it_Kind is_Kind ib_bool_Kind,
    isa_int_Kind := kit_own ic_Kind it_Kind is_Kind ib_int_Kind,
    isa_str_Kind := kit_own ic_Kind it_Kind is_Kind ib_str_Kind,
    isa_list_Kind := kit_own ic_Kind it_Kind is_Kind ib_list_Kind,
    isa_tuple_Kind := kit_own ic_Kind it_Kind is_Kind ib_tuple_Kind,
    isa_dict_Kind := kit_own ic_Kind it_Kind is_Kind ib_dict_Kind,
    isa_Option_Kind := kit_own ic_Kind it_Kind is_Kind io_Option_Kind,
    isa_Place_Kind := kit_own ic_Kind it_Kind is_Kind io_Place_Kind,
    isa_Kind_Kind := kit_own ic_Kind it_Kind is_Kind io_Kind_Kind,
    isa_AnyWord_Kind := kit_own ic_Kind it_Kind is_Kind io_AnyWord_Kind,
    isa_OneOf_Kind := kit_own ic_Kind it_Kind is_Kind io_OneOf_Kind,
    isa_Number_Kind := kit_own ic_Kind it_Kind is_Kind io_Number_Kind,
    nf_Option_NoneType := nb_Option_NoneType,
    nf_Option_bool := nb_Option_bool,
    nf_Option_int := nb_Option_int,
    nf_Option_str := nb_Option_str,
    nf_Option_list := nb_Option_list,
    nf_Option_tuple := nb_Option_tuple,
    nf_Option_dict := nb_Option_dict,
    nf_Option_Option := no_Option_Option,
    nf_Option_Place := no_Option_Place,
    nf_Option_AnyWord := no_Option_AnyWord,
    nf_Option_OneOf := no_Option_OneOf,
    nf_Option_Number := no_Option_Number,
    nf_Place_NoneType := nb_Place_NoneType,
    nf_Place_bool := nb_Place_bool,
    nf_Place_int := nb_Place_int,
    nf_Place_str := nb_Place_str,
    nf_Place_list := nb_Place_list,
    nf_Place_tuple := nb_Place_tuple,
    nf_Place_dict := nb_Place_dict,
    nf_Place_Option := no_Place_Option,
    nf_Place_Place := no_Place_Place,
    nf_Place_AnyWord := no_Place_AnyWord,
    nf_Place_OneOf := no_Place_OneOf,
    nf_Place_Number := no_Place_Number,
    nf_Kind_NoneType := nb_Kind_NoneType,
    nf_Kind_bool := nb_Kind_bool,
    nf_Kind_int := nb_Kind_int,
    nf_Kind_str := nb_Kind_str,
    nf_Kind_list := nb_Kind_list,
    nf_Kind_tuple := nb_Kind_tuple,
    nf_Kind_dict := nb_Kind_dict,
    nf_Kind_Kind := no_Kind_Kind,
    nf_AnyWord_NoneType := nb_AnyWord_NoneType,
    nf_AnyWord_bool := nb_AnyWord_bool,
    nf_AnyWord_int := nb_AnyWord_int,
    nf_AnyWord_str := nb_AnyWord_str,
    nf_AnyWord_list := nb_AnyWord_list,
    nf_AnyWord_tuple := nb_AnyWord_tuple,
    nf_AnyWord_dict := nb_AnyWord_dict,
    nf_AnyWord_Option := no_AnyWord_Option,
    nf_AnyWord_Place := no_AnyWord_Place,
    nf_AnyWord_Kind := no_AnyWord_Kind,
    nf_AnyWord_AnyWord := no_AnyWord_AnyWord,
    nf_AnyWord_OneOf := no_AnyWord_OneOf,
    nf_AnyWord_Number := no_AnyWord_Number,
    nf_OneOf_NoneType := nb_OneOf_NoneType,
    nf_OneOf_bool := nb_OneOf_bool,
    nf_OneOf_int := nb_OneOf_int,
    nf_OneOf_str := nb_OneOf_str,
    nf_OneOf_list := nb_OneOf_list,
    nf_OneOf_tuple := nb_OneOf_tuple,
    nf_OneOf_dict := nb_OneOf_dict,
    nf_OneOf_Option := no_OneOf_Option,
    nf_OneOf_Place := no_OneOf_Place,
    nf_OneOf_Kind := no_OneOf_Kind,
    nf_OneOf_AnyWord := no_OneOf_AnyWord,
    nf_OneOf_OneOf := no_OneOf_OneOf,
    nf_OneOf_Number := no_OneOf_Number,
    nf_Number_NoneType := nb_Number_NoneType,
    nf_Number_bool := nb_Number_bool,
    nf_Number_int := nb_Number_int,
    nf_Number_str := nb_Number_str,
    nf_Number_list := nb_Number_list,
    nf_Number_tuple := nb_Number_tuple,
    nf_Number_dict := nb_Number_dict,
    nf_Number_Option := no_Number_Option,
    nf_Number_Place := no_Number_Place,
    nf_Number_Kind := no_Number_Kind,
    nf_Number_AnyWord := no_Number_AnyWord,
    nf_Number_OneOf := no_Number_OneOf,
    nf_Number_Number := no_Number_Number,
    g__wall := ⟨_, ⟨fd_mk l__wall c__wall k__wall dfl_none kwd_none, PySem.W.mg_of X G hn__wall, k__wall⟩⟩,
    g_is_number := ⟨_, ⟨fd_mk l_is_number c_is_number k_is_number dfl_none kwd_none, PySem.W.mg_of X G hn_is_number, k_is_number⟩⟩,
    g_is_between := ⟨_, ⟨fd_mk l_is_between c_is_between k_is_between dfl_none kwd_none, PySem.W.mg_of X G hn_is_between, k_is_between⟩⟩,
    g_is_word := ⟨_, ⟨fd_mk l_is_word c_is_word k_is_word dfl_none kwd_none, PySem.W.mg_of X G hn_is_word, k_is_word⟩⟩,
    g_is_plain := ⟨_, ⟨fd_mk l_is_plain c_is_plain k_is_plain dfl_none kwd_none, PySem.W.mg_of X G hn_is_plain, k_is_plain⟩⟩,
    g_is_number_word := ⟨_, ⟨fd_mk l_is_number_word c_is_number_word k_is_number_word dfl_none kwd_none, PySem.W.mg_of X G hn_is_number_word, k_is_number_word⟩⟩,
    g_is_option_name := ⟨_, ⟨fd_mk l_is_option_name c_is_option_name k_is_option_name dfl_none kwd_none, PySem.W.mg_of X G hn_is_option_name, k_is_option_name⟩⟩,
    g_is_name := ⟨_, ⟨fd_mk l_is_name c_is_name k_is_name dfl_none kwd_none, PySem.W.mg_of X G hn_is_name, k_is_name⟩⟩,
    d__law_feed := df_mk X G hn__law_feed l__law_feed c__law_feed k__law_feed,
    d__law_take := df_mk X G hn__law_take l__law_take c__law_take k__law_take,
    g__law_of := ⟨_, ⟨fd_mk l__law_of c__law_of k__law_of dfl_none kwd_none, PySem.W.mg_of X G hn__law_of, k__law_of⟩⟩,
    g__law_mixed := ⟨_, ⟨fd_mk l__law_mixed c__law_mixed k__law_mixed dfl_none kwd_none, PySem.W.mg_of X G hn__law_mixed, k__law_mixed⟩⟩,
    g__law_same := ⟨_, ⟨fd_mk l__law_same c__law_same k__law_same dfl_none kwd_none, PySem.W.mg_of X G hn__law_same, k__law_same⟩⟩,
    g__law_plain_words := ⟨_, ⟨fd_mk l__law_plain_words c__law_plain_words k__law_plain_words dfl_none kwd_none, PySem.W.mg_of X G hn__law_plain_words, k__law_plain_words⟩⟩,
    g__law_dashes := ⟨_, ⟨fd_mk l__law_dashes c__law_dashes k__law_dashes dfl_none kwd_none, PySem.W.mg_of X G hn__law_dashes, k__law_dashes⟩⟩,
    g__law_kind := ⟨_, ⟨fd_mk l__law_kind c__law_kind k__law_kind dfl_none kwd_none, PySem.W.mg_of X G hn__law_kind, k__law_kind⟩⟩,
    g__law_opts := ⟨_, ⟨fd_mk l__law_opts c__law_opts k__law_opts dfl_none kwd_none, PySem.W.mg_of X G hn__law_opts, k__law_opts⟩⟩,
    g__law_items := ⟨_, ⟨fd_mk l__law_items c__law_items k__law_items dfl_none kwd_none, PySem.W.mg_of X G hn__law_items, k__law_items⟩⟩,
    g__law_slots := ⟨_, ⟨fd_mk l__law_slots c__law_slots k__law_slots dfl_none kwd_none, PySem.W.mg_of X G hn__law_slots, k__law_slots⟩⟩,
    g__law_ready_kind := ⟨_, ⟨fd_mk l__law_ready_kind c__law_ready_kind k__law_ready_kind dfl_none kwd_none, PySem.W.mg_of X G hn__law_ready_kind, k__law_ready_kind⟩⟩,
    g__law_ready_option := ⟨_, ⟨fd_mk l__law_ready_option c__law_ready_option k__law_ready_option dfl_none kwd_none, PySem.W.mg_of X G hn__law_ready_option, k__law_ready_option⟩⟩,
    g__law_ready_place := ⟨_, ⟨fd_mk l__law_ready_place c__law_ready_place k__law_ready_place dfl_none kwd_none, PySem.W.mg_of X G hn__law_ready_place, k__law_ready_place⟩⟩,
    d_law := df_mk X G hn_law l_law c_law k_law,
    T := ⟨PySem.W.mg_none_of X G z0, PySem.W.mg_none_of X G z1, PySem.W.mg_none_of X G z2, PySem.W.mg_none_of X G z3, PySem.W.mg_none_of X G z4, PySem.W.mg_none_of X G z5, PySem.W.mg_none_of X G z6, PySem.W.mg_none_of X G z7, PySem.W.mg_none_of X G z8, PySem.W.mg_none_of X G z9, PySem.W.mg_none_of X G z10, PySem.W.mg_none_of X G z11, PySem.W.mg_none_of X G z12, PySem.W.mg_none_of X G z13, PySem.W.mg_none_of X G z14, PySem.W.mg_none_of X G z15, PySem.W.mg_none_of X G z16, PySem.W.mg_none_of X G z17, PySem.W.mg_none_of X G z18, PySem.W.mg_none_of X G z19⟩,
    GC := ⟨⟨_, PySem.W.mg_of X G cst0, ⟨_, rfl⟩⟩, ⟨_, PySem.W.mg_of X G cst1, ⟨_, rfl⟩⟩, ⟨_, PySem.W.mg_of X G cst2, ⟨_, rfl⟩⟩, ⟨_, PySem.W.mg_of X G cst3, ⟨_, rfl⟩⟩, ⟨_, PySem.W.mg_of X G cst4, ⟨_, rfl⟩⟩, ⟨_, PySem.W.mg_of X G cst5, ⟨_, rfl⟩⟩, ⟨_, PySem.W.mg_of X G cst6, ⟨_, rfl⟩⟩⟩ }⟩
/-! ### the law's drawing -/
section
variable {P : Program} {w : World} {K : PySem.W.Frag} {mg : Str → Option Value} {base : Heap}
theorem sc__law_feed : FnScope ["_law_script"] ["_law_script"] (defScope s__law_feed) := ⟨rfl, rfl, rfl, by decide +kernel, rfl, by decide +kernel, by decide +kernel⟩
theorem c__law_feed_ok (D : Df K mg "_law_feed" s__law_feed) (T : Txt mg) : Cl P w K mg base CX0 1 "_law_feed" (spFeed K) [] := by
  refine cal_mk D sc__law_feed (fun _ _ _ _ _ _ us hl => match us, hl with | [_], _ => rfl) (fun vs H Q E h => ?_) (fun f cdv A outer s H vs Q E hr h => ?_)
  · obtain ⟨a, ns, rfl, _⟩ := h; rfl
  · obtain ⟨a, ns, rfl, hS, hn, k⟩ := h
    refine ⟨_, (pss_one (ps_ret (pe_lst (pa_cons (pe_callTy call_list_of (by rfl) T.b_list (by decide +kernel) (pa_cons (pe_slice sl_list (pv 0) po_none (po_some pe_int)) pa_nil)) (pa_cons pe_int (pa_cons pe_int (pa_cons (pe_op op_add pe_int (pe_op op_mul pe_int (pe_callB call_len_seq (by rfl) T.b_len (by decide +kernel) (pa_cons (pv 0) pa_nil)))) pa_nil))))))), ?_⟩
    refine ⟨_, rfl, 60, rfl, a, _, rfl, hS, fun p1 h1 => ?_⟩
    refine ⟨p1, _, rfl, .inl (SqL.of upd_same), fun p2 h2 => ?_⟩
    have e1 : Same H (upd H p1 (.lst (cutV (ns.map V.int) none (some 60)))) := Same.newT h1
    have e2 := e1.trans (Same.newT (o := .lst (cutV (ns.map V.int) none (some 60))) h2)
    refine ⟨_, rfl, a, _, rfl, .inl (Same.seq e2 hS), _, _, rfl, rfl, .inl (by decide), ?_⟩
    refine ⟨_, _, rfl, rfl, ?_⟩
    refine ⟨by show 4 ≤ sizeLine; decide, fun p3 h3 => ?_⟩
    have hc : cutV (ns.map V.int) none (some 60) = (ns.take (HT.sIx ns.length ns.length (some 60))).map V.int := by
      unfold cutV
      rw [List.length_map]
      show List.take (_ - 0) (List.drop 0 _) = _
      rw [Nat.sub_zero, List.drop_zero, List.map_take]
    refine k _ p2 _ (e2.trans (Same.newT h3)) ⟨ns.take (HT.sIx ns.length ns.length (some 60)), 0, 0, _, upd_same, ?_, ?_, by omega, by omega, ?_, ?_, ?_⟩ ?_ ?_
    · rw [upd_ne (ne_of_none upd_same h3), upd_same, hc]
    · exact ne_of_none upd_same h3
    · rw [List.length_map]; omega
    · rw [List.length_map]; omega
    · rw [List.length_take]; omega
    · exact e2.free h3
    · exact e1.free h2
theorem sc__law_take : FnScope ["_law_feed_here", "_law_many", "_law_cell", "_law_got", "_law_seed"] ["_law_feed_here", "_law_many"] (defScope s__law_take) := ⟨rfl, rfl, rfl, by decide +kernel, rfl, by decide +kernel, by decide +kernel⟩
theorem c__law_take_ok (D : Df K mg "_law_take" s__law_take) (T : Txt mg) : Cl P w K mg base CX0 1 "_law_take" spTake [] := by
  refine cal_mk D sc__law_take (fun _ _ _ _ _ _ us hl => match us, hl with | [_, _], _ => rfl) (fun vs H Q E h => ?_) (fun f cdv A outer s H vs Q E hr h => ?_)
  · obtain ⟨a, l, m, rfl, _⟩ := h; rfl
  · obtain ⟨p, l, m, rfl, hF, m0, m1, k⟩ := h
    refine ⟨_, (Evl.pss_cut (ps_if (PW.pt (pw_and (pt_cmpR op_eq (pe_ix ix_list (pv 0) pe_int (fun _ _ => rfl)) pe_int (nomark _)) (pw_and1 (pt_cmpR op_lt (pe_ix ix_list (pv 0) pe_int (fun _ _ => rfl)) (pe_callB call_len (by rfl) T.b_len (by decide +kernel) (pa_cons (pe_ix ix_list (pv 0) pe_int (fun _ _ => rfl)) pa_nil)) (nomark _))))) (pss_cons (ps_set (i := 2) sc__law_take.nd rfl (by first | exact Or.inl rfl | exact Or.inr rfl) (pe_ix ix_seq (pe_ix ix_list (pv 0) pe_int (fun _ _ => rfl)) (pe_ix ix_list (pv 0) pe_int (fun _ _ => rfl)) (fun _ _ => rfl)))
  (pss_cons (ps_asg (pe_op op_add (pe_ix ix_list (pv 0) pe_int (fun _ _ => rfl)) pe_int) (pg_sub (pv 0) pe_int set_list))
  (pss_one (ps_if (pt_cmpR op_ge (pv 2) (pe_op op_pow pe_int pe_int) (nomark _)) (pss_one (ps_asg (pv 2) (pg_sub (pv 0) pe_int set_list))) (pss_one (ps_asg (pe_op op_modN (pe_callTy call_int1 (by rfl) T.b_int (by decide +kernel) (pa_cons (pe_op op_add (pe_op op_add (pe_op op_mul (pe_ix ix_list (pv 0) pe_int (fun _ _ => rfl)) pe_int) (pe_op op_mul (pe_op op_modN (pe_callTy call_int1 (by rfl) T.b_int (by decide +kernel) (pa_cons (pv 2) pa_nil)) pe_int) pe_int)) pe_int) pa_nil)) pe_int) (pg_sub (pv 0) pe_int set_list))))))) pss_nil)
  (pss_cons (ps_if (pt_cmpR op_gt (pe_ix ix_list (pv 0) pe_int (fun _ _ => rfl)) pe_int (nomark _)) (pss_cons (ps_set (i := 3) sc__law_take.nd rfl (by first | exact Or.inl rfl | exact Or.inr rfl) (pe_op op_modN (pe_callTy call_int1 (by rfl) T.b_int (by decide +kernel) (pa_cons (pe_ix ix_list (pv 0) pe_int (fun _ _ => rfl)) pa_nil)) (pv 1)))
  (pss_cons (ps_asg (pe_op op_fdivN (pe_ix ix_list (pv 0) pe_int (fun _ _ => rfl)) (pv 1)) (pg_sub (pv 0) pe_int set_list))
  (pss_one (ps_ret (pv 3))))) pss_nil)
  (pss_cons (ps_set (i := 4) sc__law_take.nd rfl (by first | exact Or.inl rfl | exact Or.inr rfl) (pe_ix ix_list (pv 0) pe_int (fun _ _ => rfl)))
  (pss_cons (ps_asg (pe_op op_modN (pe_callTy call_int1 (by rfl) T.b_int (by decide +kernel) (pa_cons (pe_op op_add (pe_op op_add (pe_op op_mul (pv 4) (pv 4)) (pe_op op_mul (pv 4) pe_int)) pe_int) pa_nil)) pe_int) (pg_sub (pv 0) pe_int set_list))
  (pss_one (ps_ret (pe_op op_modN (pe_callTy call_int1 (by rfl) T.b_int (by decide +kernel) (pa_cons (pe_op op_add (pe_op op_fdivN (pe_ix ix_list (pv 0) pe_int (fun _ _ => rfl)) pe_int) (pe_op op_mul (pe_op op_modN (pe_callTy call_int1 (by rfl) T.b_int (by decide +kernel) (pa_cons (pe_ix ix_list (pv 0) pe_int (fun _ _ => rfl)) pa_nil)) pe_int) pe_int)) pa_nil)) (pv 1)))))))), ?_⟩
    obtain ⟨ns, i, c, s, hp, hl, hlp, hi, hc, hs, hs2, hn⟩ := id hF
    refine ⟨fun σ' H' => (∃ x, σ' = [some (.ref p), some (.int m), x, none, none]) ∧ Mv p l H H', ?_, ?_⟩
    · have skip : ∀ x, (∃ y, [some (V.ref p), some (V.int m), x, none, none] = [some (V.ref p), some (V.int m), y, none, none]) ∧ Mv p l H H := fun x => ⟨⟨x, rfl⟩, Mv.refl hF⟩
      refine ⟨_, rfl, _, _, _, _, rfl, rfl, SqL.of hp, rfl, rfl, _, rfl, ?_⟩
      refine ite2 (fun hc0 => ?_) (fun _ => iteF (skip none))
      refine ⟨_, rfl, _, _, _, _, rfl, rfl, SqL.of hp, rfl, ⟨_, rfl, _, _, _, _, rfl, rfl, SqL.of hp, rfl, .ref l, _, rfl, .inl ⟨_, SqL.of hl, rfl⟩, ?_⟩⟩
      refine ⟨_, _, rfl, rfl, _, rfl, ?_⟩
      refine ite2 (fun hlt => ?_) (fun _ => skip none)
      have hlt2 : i < ((ns.map V.int).length : Int) := of_decide_eq_true hlt
      rw [List.length_map] at hlt2
      obtain ⟨z, hz⟩ : ∃ z, ns[i.toNat]? = some z := ⟨ns[i.toNat]'(by omega), List.getElem?_eq_getElem (by omega)⟩
      have hat : atI (ns.map V.int) i = some (.int z) := by
        have e : i = (i.toNat : Int) := by omega
        rw [e]
        exact atI_nat (by rw [List.getElem?_map, hz]; rfl)
      refine ⟨_, rfl, _, _, _, _, rfl, rfl, SqL.of hp, rfl, _, rfl, _, _, _, _, rfl, rfl, SqL.of hp, rfl, .inl ⟨l, _, _, _, rfl, rfl, SqL.of hl, hat, ?_⟩⟩
      -- feed[1] = feed[1] + 1
      refine ⟨_, rfl, _, _, _, _, rfl, rfl, SqL.of hp, rfl, _, _, rfl, rfl, _, rfl, p, _, 1, 1, rfl, rfl, hp, rfl, ?_⟩
      have hm1 : Mv p l H (upd H p (.lst [.ref l, .int (i + 1), .int c, .int s])) := Mv.put hl hlp (by omega) hc hs hs2 hn
      refine ⟨_, rfl, _, _, rfl, rfl, ⟨by decide, by decide, by decide⟩, _, _, rfl, rfl, _, rfl, ?_⟩
      refine ite2 (fun hz1 => ?_) (fun _ => ?_)
      · have hz2 : (10 : Int) ^ 18 ≤ z := of_decide_eq_true hz1
        refine ⟨_, rfl, _, rfl, p, _, 2, 2, rfl, rfl, upd_same, rfl, ⟨_, rfl⟩, ?_⟩
        have hz3 : (0 : Int) ≤ z := Int.le_trans (by decide) hz2
        rw [upd_upd]
        exact Mv.put hl hlp (by omega) hz3 hs hs2 hn
      · refine ⟨_, rfl, _, _, _, _, rfl, rfl, SqL.of upd_same, rfl, _, _, rfl, rfl, .inl ⟨by omega, by omega⟩, ?_⟩
        refine ⟨_, rfl, .inl ⟨_, rfl, ?_⟩⟩
        refine ⟨_, _, rfl, rfl, (show (2147483399 : Int) ≠ 0 by decide), _, _, rfl, rfl, .inr ⟨by decide, by decide⟩, _, _, rfl, rfl, _, _, rfl, rfl, .inl ⟨_, rfl, ?_⟩⟩
        refine ⟨_, _, rfl, rfl, (show (2147483647 : Int) ≠ 0 by decide), _, rfl, p, _, 3, 3, rfl, rfl, upd_same, rfl, ⟨_, rfl⟩, ?_⟩
        rw [upd_upd]
        exact Mv.put hl hlp (by omega) hc (mod_lt (by decide)).1 (mod_lt (by decide)).2 hn
    · rintro σ' H' ⟨⟨x, rfl⟩, hm⟩
      obtain ⟨ns, i, c, s, hp, hl, hlp, hi, hc, hs, hs2, hn⟩ := id hm.2
      refine ⟨_, rfl, _, _, _, _, rfl, rfl, SqL.of hp, rfl, _, _, rfl, rfl, _, rfl, ?_⟩
      refine ite2 (fun hc1 => ?_) (fun _ => ?_)
      · have hc2 : (0 : Int) < c := of_decide_eq_true hc1
        refine ⟨_, rfl, _, _, _, _, rfl, rfl, SqL.of hp, rfl, .inl ⟨_, rfl, _, rfl, _, _, rfl, rfl, by omega, ?_⟩⟩
        refine ⟨_, rfl, _, _, _, _, rfl, rfl, SqL.of hp, rfl, _, rfl, _, _, rfl, rfl, ⟨by omega, by omega⟩, _, rfl, p, _, 2, 2, rfl, rfl, hp, rfl, ?_⟩
        refine ⟨_, rfl, ?_⟩
        refine k _ _ (mod_lt m0).1 (mod_lt m0).2 (hm.trans (Mv.put hl hlp hi ?_ hs hs2 hn))
        exact Int.fdiv_nonneg hc (by omega)
      · refine ⟨_, rfl, _, _, _, _, rfl, rfl, SqL.of hp, rfl, ?_⟩
        refine ⟨_, rfl, _, rfl, _, _, rfl, rfl, .inl ⟨by omega, by omega⟩, _, rfl, _, _, rfl, rfl, .inl ⟨by omega, by omega⟩, _, _, rfl, rfl, _, _, rfl, rfl, .inl ⟨_, rfl, ?_⟩⟩
        refine ⟨_, _, rfl, rfl, (show (2147483647 : Int) ≠ 0 by decide), _, rfl, p, _, 3, 3, rfl, rfl, hp, rfl, ?_⟩
        have hm2 := hm.trans (Mv.put hl hlp hi hc (mod_lt (a := s * s + s * 16807 + 1299709) (b := 2147483647) (by decide)).1 (mod_lt (by decide)).2 hn)
        refine ⟨_, rfl, _, _, _, _, rfl, rfl, SqL.of upd_same, rfl, _, _, rfl, rfl, ⟨by decide, by decide⟩, ?_⟩
        refine ⟨_, rfl, _, _, _, _, rfl, rfl, SqL.of upd_same, rfl, .inl ⟨_, rfl, _, _, rfl, rfl, (show (6469 : Int) ≠ 0 by decide), _, _, rfl, rfl, .inr ⟨by decide, by decide⟩, _, _, rfl, rfl, .inl ⟨_, rfl, _, rfl, _, _, rfl, rfl, by omega, ?_⟩⟩⟩
        exact k _ _ (mod_lt m0).1 (mod_lt m0).2 hm2
end
end Toy
namespace Toy
open PySem PySem.Spec L2 G
open PyProof.Rows hiding St
def cP (C : Nat) : Bool := decide (C < 5)
def ix_name : Nat → Option Nat := fun C => match C with | 0 => some 0 | _ => none
def ix_most : Nat → Option Nat := fun C => match C with | 0 => some 2 | 1 => some 2 | _ => none
def ix_kind : Nat → Option Nat := fun C => match C with | 0 => some 1 | 1 => some 0 | _ => none
def ix_least : Nat → Option Nat := fun C => match C with | 1 => some 1 | _ => none
def ix_own_words : Nat → Option Nat := fun C => match C with | 3 => some 0 | _ => none
def ix_low : Nat → Option Nat := fun C => match C with | 4 => some 0 | _ => none
def ix_high : Nat → Option Nat := fun C => match C with | 4 => some 1 | _ => none
def is_Kind : D → Option Bool
  | .ins C _ => (match C with | 0 => some false | 1 => some false | 2 => some true | 3 => some true | 4 => some true | _ => none)
  | .feed => none
  | _ => some false
def is_Place : D → Option Bool
  | .ins C _ => (match C with | 0 => some false | 1 => some true | 2 => some false | 3 => some false | 4 => some false | _ => none)
  | .feed => none
  | _ => some false
def is_Option : D → Option Bool
  | .ins C _ => (match C with | 0 => some true | 1 => some false | 2 => some false | 3 => some false | 4 => some false | _ => none)
  | .feed => none
  | _ => some false
def b__law_mixed : Sst := (sSeq (sPar2 true true 2 3 (sN listD (sCons (sNm 1) sNil)) (sLst sNil))
  (sSeq (sWhile 70 (sB (s2 (eqPy true) (sNm 2) (sLst sNil)))
  (sApp 3 (xPop 2 (sCal 0 semTake (sCons (sNm 0) (sCons (sN lenD (sCons (sNm 2) sNil)) sNil)) sNil))))
  (sRet (sNm 3))))
def f__law_mixed (ds : List D) : M R := runB 4 b__law_mixed ds
def b__law_dashes : Sst := (sRet (sSl (sCal 0 (runF 2 [0, 1] [] f__law_mixed) (sCons (sNm 0) (sCons (sLst (sCons (sK (.str "-a")) (sCons (sK (.str "-b")) (sCons (sK (.str "-all")) (sCons (sK (.str "-abc")) (sCons (sK (.str "-on")) sNil)))))) sNil)) sNil) none (some (sNm 1))))
def f__law_dashes (ds : List D) : M R := runB 2 b__law_dashes ds
def b__law_of : Sst := (sRet (s2 ixD (sNm 1) (sCal 0 semTake (sCons (sNm 0) (sCons (sN lenD (sCons (sNm 1) sNil)) sNil)) sNil)))
def f__law_of (ds : List D) : M R := runB 2 b__law_of ds
def b__law_plain_words : Sst := (sSeq (sAsg false 2 (sLst (sCons (sK (.str "a")) (sCons (sK (.str "b")) (sCons (sK (.str "on")) (sCons (sK (.str "off")) (sCons (sK (.str "5")) (sCons (sK (.str "7")) (sCons (sK (.str "12")) (sCons (sK (.str "x-y")) (sCons (sK (.str "a0")) (sCons (sK (.str "007")) (sCons (sK (.str "q9z")) (sCons (sK (.str "0")) sNil))))))))))))))
  (sRet (sSl (sCal 0 (runF 2 [0, 1] [] f__law_mixed) (sCons (sNm 0) (sCons (sNm 2) sNil)) sNil) none (some (sNm 1)))))
def f__law_plain_words (ds : List D) : M R := runB 3 b__law_plain_words ds
def b__law_kind : Sst := (sSeq (sAsg false 1 (sCal 0 semTake (sCons (sNm 0) (sCons (sK (.int (4))) sNil)) sNil))
  (sSeq (sIfS (sB (s2 ltD (sNm 1) (sK (.int (2))))) (sRet (s2 ixD (sLst (sCons (sTup (sCons (sK (.str "any")) sNil)) (sCons (sTup (sCons (sK (.str "num")) (sCons (sCal 0 (runF 2 [0, 1] [] f__law_of) (sCons (sNm 0) (sCons (sLst (sCons (sK (.int (0))) (sCons (sK (.int (1))) (sCons (sK (.int (5))) sNil)))) sNil)) sNil) (sCons (sCal 0 (runF 2 [0, 1] [] f__law_of) (sCons (sNm 0) (sCons (sLst (sCons (sK (.int (5))) (sCons (sK (.int (9))) (sCons (sK (.int (99999))) sNil)))) sNil)) sNil) sNil)))) sNil))) (sNm 1))) sSkip)
  (sRet (sTup (sCons (sK (.str "of")) (sCons (sN tupleD (sCons (sN sortedD (sCons (sCal 0 (runF 2 [0, 1] [] f__law_plain_words) (sCons (sNm 0) (sCons (s2 addD (sK (.int (1))) (sCal 0 semTake (sCons (sNm 0) (sCons (sK (.int (2))) sNil)) sNil)) sNil)) sNil) sNil)) sNil)) sNil))))))
def f__law_kind (ds : List D) : M R := runB 2 b__law_kind ds
def b__law_opts : Sst := (sSeq (sAsg true 2 (sLst sNil))
  (sSeq (sFor (sSq (sNm 1)) (.n 3)
  (sSeq (sAsg false 4 (sCal 0 (runF 2 [0, 1] [] f__law_of) (sCons (sNm 0) (sCons (sLst (sCons (sK .non) (sCons (sCal 0 (runF 1 [0] [] f__law_kind) (sCons (sNm 0) sNil) sNil) sNil))) sNil)) sNil))
  (sSeq (sAsg false 5 (sCal 0 (runF 2 [0, 1] [] f__law_of) (sCons (sNm 0) (sCons (sLst (sCons (sK (.int (1))) (sCons (sK (.int (1))) (sCons (sK (.int (2))) (sCons (sK (.int (0))) sNil))))) sNil)) sNil))
  (sSeq (sIfS (sB (s2 gtD (sN lenD (sCons (sNm 1) sNil)) (sK (.int (2))))) (sAsgT (.t [4, 5]) (sTup (sCons (sK .non) (sCons (sK (.int (1))) sNil)))) (sIfS (tAndB (sB (s2 (isND false) (sNm 4) (sK .non))) (sB (s2 (eqPy false) (sNm 2) (sLst sNil)))) (sAsg false 5 (sCal 0 (runF 2 [0, 1] [] f__law_of) (sCons (sNm 0) (sCons (sLst (sCons (sNm 5) (sCons (sNm 5) (sCons (sK (.int (3))) (sCons (sK (.int (4))) sNil))))) sNil)) sNil)) sSkip))
  (sSeq (sIfS (tAndB (sB (s2 (eqPy true) (sNm 2) (sLst sNil))) (tAndB (sB (s2 (isND true) (sNm 4) (sK .non))) (sB (s2 (eqPy false) (s2 ixD (sNm 4) (sK (.int (0)))) (sK (.str "of")))))) (sAsg false 5 (sK (.int (1)))) sSkip)
  (sApp 2 (xPure (sTup (sCons (sNm 3) (sCons (sNm 4) (sCons (sNm 5) sNil)))))))))))
  (sRet (sNm 2))))
def f__law_opts (ds : List D) : M R := runB 6 b__law_opts ds
def b_is_name : Sst := (sSeq (sIfS (tOrB (tNotB (sB (sIsi bStr (sNm 0)))) (tNotB (sB (sCh leD leD (sK (.int (1))) (sN lenD (sCons (sNm 0) sNil)) (sK (.int (6))))))) (sRet (sK (.bl false))) sSkip)
  (sRet (sN allD (sCons (sLc (sSg (sNm 0)) (.n 1) [1] tYesB (s2 (inD false) (sNm 1) (sK (.str "abcdefghijklmnopqrstuvwxyz")))) sNil))))
def f_is_name (ds : List D) : M R := runB 2 b_is_name ds
def b_is_option_name : Sst := (sRet (sAnd (sIsi bStr (sNm 0)) (sAnd (s2 (eqPy false) (sSl (sNm 0) none (some (sK (.int (1))))) (sK (.str "-"))) (sCal 0 (runF 1 [0] [] f_is_name) (sCons (sSl (sNm 0) (some (sK (.int (1)))) none) sNil) sNil))))
def f_is_option_name (ds : List D) : M R := runB 1 b_is_option_name ds
def b_is_number : Sst := (sRet (sAnd (sIsi bInt (sNm 0)) (sNot (sIsi bBool (sNm 0)))))
def f_is_number (ds : List D) : M R := runB 1 b_is_number ds
def b_is_between : Sst := (sRet (sAnd (sCal 0 (runF 1 [0] [] f_is_number) (sCons (sNm 0) sNil) sNil) (sCh leD leD (sNm 1) (sNm 0) (sNm 2))))
def f_is_between (ds : List D) : M R := runB 3 b_is_between ds
def b_Option___init__ : Sst := (sSeq (sIfS (tNotB (sB (sCal 0 (runF 1 [0] [] f_is_option_name) (sCons (sNm 1) sNil) sNil))) sNev sSkip)
  (sSeq (sIfS (tNotB (sB (sCal 0 (runF 3 [0, 1, 2] [] f_is_between) (sCons (sNm 3) (sCons (sK (.int (0))) (sCons (sK (.int (4))) sNil))) sNil))) sNev sSkip)
  (sSeq (sStF ix_name 0 (sNm 1))
  (sSeq (sStF ix_kind 0 (sNm 2))
  (sStF ix_most 0 (sNm 3))))))
def f_Option___init__ (ds : List D) : M O := runI 0 4 b_Option___init__ ds
def b_Number___init__ : Sst := (sSeq (sIfS (tNotB (sB (sCal 0 (runF 3 [0, 1, 2] [] f_is_between) (sCons (sNm 1) (sCons (sK (.int (0))) (sCons (sK (.int (99999))) sNil))) sNil))) sNev sSkip)
  (sSeq (sIfS (tNotB (sB (sCal 0 (runF 3 [0, 1, 2] [] f_is_between) (sCons (sNm 2) (sCons (sNm 1) (sCons (sK (.int (99999))) sNil))) sNil))) sNev sSkip)
  (sSeq (sStF ix_low 0 (sNm 1))
  (sStF ix_high 0 (sNm 2)))))
def f_Number___init__ (ds : List D) : M O := runI 4 3 b_Number___init__ ds
def b_is_word : Sst := (sSeq (sIfS (tOrB (tNotB (sB (sIsi bStr (sNm 0)))) (tNotB (sB (sCh leD leD (sK (.int (1))) (sN lenD (sCons (sNm 0) sNil)) (sK (.int (8))))))) (sRet (sK (.bl false))) sSkip)
  (sRet (sN allD (sCons (sLc (sSg (sNm 0)) (.n 1) [1] tYesB (s2 (inD false) (sNm 1) (sK (.str "abcdefghijklmnopqrstuvwxyz0123456789-")))) sNil))))
def f_is_word (ds : List D) : M R := runB 2 b_is_word ds
def b_is_plain : Sst := (sRet (sAnd (sCal 0 (runF 1 [0] [] f_is_word) (sCons (sNm 0) sNil) sNil) (s2 (eqPy true) (s2 ixD (sNm 0) (sK (.int (0)))) (sK (.str "-")))))
def f_is_plain (ds : List D) : M R := runB 1 b_is_plain ds
def b_OneOf___init__ : Sst := (sSeq (sIfS (tNotB (sB (sCh leD leD (sK (.int (1))) (sN lenD (sCons (sNm 1) sNil)) (sK (.int (6)))))) sNev sSkip)
  (sSeq (sFor (sEn (sNm 1)) (.t [2, 3])
  (sIfS (tOrB (tNotB (sB (sCal 0 (runF 1 [0] [] f_is_plain) (sCons (sNm 3) sNil) sNil))) (sB (s2 (inD false) (sNm 3) (sSl (sNm 1) none (some (sNm 2)))))) sNev sSkip))
  (sStF ix_own_words 0 (sN tupleD (sCons (sN sortedD (sCons (sN listD (sCons (sNm 1) sNil)) sNil)) sNil)))))
def f_OneOf___init__ (ds : List D) : M O := runI 3 4 b_OneOf___init__ ds
def b__law_ready_kind : Sst := (sSeq (sIfS (sB (s2 (isND false) (sNm 0) (sK .non))) (sRet (sK .non)) sSkip)
  (sSeq (sIfS (sB (s2 (eqPy false) (s2 ixD (sNm 0) (sK (.int (0)))) (sK (.str "any")))) (sRet (sNew0 2)) sSkip)
  (sSeq (sIfS (sB (s2 (eqPy false) (s2 ixD (sNm 0) (sK (.int (0)))) (sK (.str "num")))) (sRet (sNew 0 (runF 2 [0, 1] [] f_Number___init__) (sCons (s2 ixD (sNm 0) (sK (.int (1)))) (sCons (s2 ixD (sNm 0) (sK (.int (2)))) sNil)) sNil)) sSkip)
  (sSeq (sAsg false 1 (s2 ixD (sNm 0) (sK (.int (1)))))
  (sRet (sIf (sB (s2 (eqPy false) (sN lenD (sCons (sNm 1) sNil)) (sK (.int (1))))) (sNew 0 (runStarI f_OneOf___init__) (sCons (s2 ixD (sNm 1) (sK (.int (0)))) sNil) sNil) (sNew 0 (runStarI f_OneOf___init__) (sCons (s2 ixD (sNm 1) (sK (.int (1)))) (sCons (s2 ixD (sNm 1) (sK (.int (0)))) sNil)) sNil)))))))
def f__law_ready_kind (ds : List D) : M R := runB 2 b__law_ready_kind ds
def b__law_ready_option : Sst := (sRet (sNew 1 (runF 2 [0, 1, 2] [.non] f_Option___init__) (sCons (s2 ixD (sNm 0) (sK (.int (0)))) (sCons (sCal 0 (runF 1 [0] [] f__law_ready_kind) (sCons (s2 ixD (sNm 0) (sK (.int (1)))) sNil) sNil) sNil)) (sCons (s2 ixD (sNm 0) (sK (.int (2)))) sNil)))
def f__law_ready_option (ds : List D) : M R := runB 1 b__law_ready_option ds
def b__law_same (F : Nat → List D → M R) : Sst := (sSeq (sIfS (tOrB (sB (s2 (isND false) (sNm 1) (sK .non))) (sB (s2 (isND false) (sNm 0) (sK .non)))) (sRet (sAnd (s2 (isND false) (sNm 0) (sK .non)) (s2 (isND false) (sNm 1) (sK .non)))) sSkip)
  (sSeq (sIfS (sB (sIsi (fun d => match bList d, bTuple d with | some a, some b => some (a || b) | _, _ => none) (sNm 1))) (sSeq (sIfS (sB (s2 (eqPy true) (sIsi bList (sNm 1)) (sIsi bList (sNm 0)))) (sRet (sK (.bl false))) sSkip)
  (sSeq (sIfS (sB (s2 (eqPy true) (sIsi bTuple (sNm 1)) (sIsi bTuple (sNm 0)))) (sRet (sK (.bl false))) sSkip)
  (sSeq (sIfS (sB (s2 (eqPy true) (sN lenD (sCons (sNm 0) sNil)) (sN lenD (sCons (sNm 1) sNil)))) (sRet (sK (.bl false))) sSkip)
  (sRet (sN allD (sCons (sLc (sRg1 (sCons (sN lenD (sCons (sNm 1) sNil)) sNil)) (.n 2) [2] tYesB (sCal 0 (runF 2 [0, 1] [] (F 0)) (sCons (s2 ixD (sNm 0) (sNm 2)) (sCons (s2 ixD (sNm 1) (sNm 2)) sNil)) sNil)) sNil)))))) sSkip)
  (sSeq (sIfS (sB (sIsi (fun d => match bList d, bTuple d with | some a, some b => some (a || b) | _, _ => none) (sNm 0))) (sRet (sK (.bl false))) sSkip)
  (sSeq (sIfS (sB (s2 (eqPy true) (sIsi bBool (sNm 0)) (sIsi bBool (sNm 1)))) (sRet (sK (.bl false))) sSkip)
  (sRet (sAnd (s2 (eqPy false) (sIsi bStr (sNm 0)) (sIsi bStr (sNm 1))) (s2 (eqPy false) (sNm 0) (sNm 1))))))))
def F_17 : Nat → Nat → List D → M R
  | 0, _, _ => .fail
  | n + 1, k, ds => match k with | 0 => runB 3 (b__law_same (F_17 n)) ds | _ => .fail
def f__law_same (n : Nat) : List D → M R := F_17 n 0
def b_Option___repr__ : Sst := (sRet (sFs (fStr "Option(" (fVal (sFl ix_name (sNm 0)) (fStr ")" fNil)))))
def f_Option___repr__ (ds : List D) : M R := runB 1 b_Option___repr__ ds
def b_AnyWord_text : Sst := (sRet (sK (.str "any")))
def f_AnyWord_text (ds : List D) : M R := runB 1 b_AnyWord_text ds
def b_OneOf_text : Sst := (sRet (sTm joinD (sK (.str " ")) (sLst (sCons (sK (.str "of")) (sStar (sFl ix_own_words (sNm 0)) sNil)))))
def f_OneOf_text (ds : List D) : M R := runB 1 b_OneOf_text ds
def b_Number_text : Sst := (sRet (sFs (fStr "num " (fVal (sFl ix_low (sNm 0)) (fStr " " (fVal (sFl ix_high (sNm 0)) fNil))))))
def f_Number_text (ds : List D) : M R := runB 1 b_Number_text ds
def mt_text_1 : MSem := fun C => match C with | 2 => some (runF 1 [0] [] f_AnyWord_text) | 3 => some (runF 1 [0] [] f_OneOf_text) | 4 => some (runF 1 [0] [] f_Number_text) | _ => none
def b_Place___repr__ : Sst := (sRet (sFs (fStr "Place(" (fVal (sMth 0 mt_text_1 (sFl ix_kind (sNm 0)) sNil sNil) (fStr " " (fVal (sFl ix_least (sNm 0)) (fStr " " (fVal (sFl ix_most (sNm 0)) (fStr ")" fNil)))))))))
def f_Place___repr__ (ds : List D) : M R := runB 1 b_Place___repr__ ds
def b_Kind___repr__ : Sst := (sRet (sFs (fStr "Kind(" (fVal (sMth 0 mt_text_1 (sNm 0) sNil sNil) (fStr ")" fNil)))))
def f_Kind___repr__ (ds : List D) : M R := runB 1 b_Kind___repr__ ds
def b_Kind___eq__ : Sst := (sRet (sAnd (sIsi is_Kind (sNm 1)) (s2 (eqPy false) (sMth 0 mt_text_1 (sNm 0) sNil sNil) (sMth 0 mt_text_1 (sNm 1) sNil sNil))))
def f_Kind___eq__ (ds : List D) : M R := runB 2 b_Kind___eq__ ds
def mt_eq_r25 (F : Nat → List D → M R) : MSem := fun C => match C with | 0 => some (runF 2 [0, 1] [] (F 1)) | 1 => some (runF 2 [0, 1] [] (F 0)) | 2 => some (runF 2 [0, 1] [] f_Kind___eq__) | 3 => some (runF 2 [0, 1] [] f_Kind___eq__) | 4 => some (runF 2 [0, 1] [] f_Kind___eq__) | _ => none
def b_Place___eq__ (F : Nat → List D → M R) : Sst := (sSeq (sIfS (tNotB (sB (sIsi is_Place (sNm 1)))) (sRet (sK (.bl false))) sSkip)
  (sRet (sAnd (sEq false cP (mt_eq_r25 F) (sFl ix_kind (sNm 0)) (sFl ix_kind (sNm 1))) (sAnd (s2 (eqPy false) (sFl ix_least (sNm 0)) (sFl ix_least (sNm 1))) (s2 (eqPy false) (sFl ix_most (sNm 0)) (sFl ix_most (sNm 1)))))))
def b_Option___eq__ (F : Nat → List D → M R) : Sst := (sSeq (sIfS (tNotB (sB (sIsi is_Option (sNm 1)))) (sRet (sK (.bl false))) sSkip)
  (sRet (sAnd (s2 (eqPy false) (sFl ix_name (sNm 0)) (sFl ix_name (sNm 1))) (sAnd (sEq false cP (mt_eq_r25 F) (sFl ix_kind (sNm 0)) (sFl ix_kind (sNm 1))) (s2 (eqPy false) (sFl ix_most (sNm 0)) (sFl ix_most (sNm 1)))))))
def F_25 : Nat → Nat → List D → M R
  | 0, _, _ => .fail
  | n + 1, k, ds => match k with | 0 => runB 2 (b_Place___eq__ (F_25 n)) ds | 1 => runB 2 (b_Option___eq__ (F_25 n)) ds | _ => .fail
def f_Place___eq__ (n : Nat) : List D → M R := F_25 n 0
def f_Option___eq__ (n : Nat) : List D → M R := F_25 n 1
def b_Kind_words : Sst := (sRet (sLst sNil))
def f_Kind_words (ds : List D) : M R := runB 1 b_Kind_words ds
def b_OneOf_words : Sst := (sRet (sN listD (sCons (sFl ix_own_words (sNm 0)) sNil)))
def f_OneOf_words (ds : List D) : M R := runB 1 b_OneOf_words ds
def mt_words_1 : MSem := fun C => match C with | 2 => some (runF 1 [0] [] f_Kind_words) | 3 => some (runF 1 [0] [] f_OneOf_words) | 4 => some (runF 1 [0] [] f_Kind_words) | _ => none
def b_Option_all_items : Sst := (sSeq (sAsg false 1 (sIf (sB (s2 (isND false) (sFl ix_kind (sNm 0)) (sK .non))) (sLst sNil) (sMth 0 mt_words_1 (sFl ix_kind (sNm 0)) sNil sNil)))
  (sRet (sLst (sCons (sFl ix_name (sNm 0)) (sStar (sLc (sSq (sNm 1)) (.n 2) [2] tYesB (s2 addD (s2 addD (sFl ix_name (sNm 0)) (sK (.str "="))) (sNm 2))) sNil)))))
def f_Option_all_items (ds : List D) : M R := runB 3 b_Option_all_items ds
def b__law_items : Sst := (sSeq (sAsg true 1 (sLst sNil))
  (sSeq (sFor (sSq (sNm 0)) (.t [2, 3, 4])
  (sSeq (sApp 1 (xPure (sNm 2)))
  (sIfS (tAndB (sB (s2 (isND true) (sNm 3) (sK .non))) (sB (s2 (eqPy false) (s2 ixD (sNm 3) (sK (.int (0)))) (sK (.str "of"))))) (sAsg true 1 (s2 addD (sNm 1) (sLc (sSq (s2 ixD (sNm 3) (sK (.int (1))))) (.n 5) [5] tYesB (s2 addD (s2 addD (sNm 2) (sK (.str "="))) (sNm 5))))) sSkip)))
  (sRet (sNm 1))))
def f__law_items (ds : List D) : M R := runB 6 b__law_items ds
def b__law_slots : Sst := (sSeq (sAsg false 2 (sLst (sCons (sTup (sCons (sK (.int (1))) (sCons (sK (.int (1))) sNil))) (sCons (sTup (sCons (sK (.int (0))) (sCons (sK (.int (1))) sNil))) (sCons (sTup (sCons (sK (.int (1))) (sCons (sK (.int (2))) sNil))) (sCons (sTup (sCons (sK (.int (0))) (sCons (sK (.int (0))) sNil))) (sCons (sTup (sCons (sK (.int (2))) (sCons (sK (.int (2))) sNil))) (sCons (sTup (sCons (sK (.int (1))) (sCons (sK (.int (0))) sNil))) sNil))))))))
  (sSeq (sAsg true 3 (sLst sNil))
  (sSeq (sFor (sRg1 (sCons (sNm 1) sNil)) (.n 4)
  (sSeq (sPar2 false false 5 6 (sCal 0 (runF 1 [0] [] f__law_kind) (sCons (sNm 0) sNil) sNil) (sCal 0 (runF 2 [0, 1] [] f__law_of) (sCons (sNm 0) (sCons (sNm 2) sNil)) sNil))
  (sApp 3 (xPure (sTup (sCons (sNm 5) (sCons (s2 ixD (sNm 6) (sK (.int (0)))) (sCons (s2 ixD (sNm 6) (sK (.int (1)))) sNil))))))))
  (sRet (sNm 3)))))
def f__law_slots (ds : List D) : M R := runB 7 b__law_slots ds
def b_Place___init__ : Sst := (sSeq (sIfS (tNotB (sB (sCal 0 (runF 3 [0, 1, 2] [] f_is_between) (sCons (sNm 2) (sCons (sK (.int (0))) (sCons (sK (.int (4))) sNil))) sNil))) sNev sSkip)
  (sSeq (sIfS (tAndB (tNotB (sB (sCal 0 (runF 3 [0, 1, 2] [] f_is_between) (sCons (sNm 3) (sCons (sN maxD (sCons (sLst (sCons (sNm 2) (sCons (sK (.int (1))) sNil))) sNil)) (sCons (sK (.int (4))) sNil))) sNil))) (tNotB (sB (sCal 0 (runF 3 [0, 1, 2] [] f_is_between) (sCons (sNm 3) (sCons (sK (.int (0))) (sCons (sK (.int (0))) sNil))) sNil)))) sNev sSkip)
  (sSeq (sStF ix_kind 0 (sNm 1))
  (sSeq (sStF ix_least 0 (sNm 2))
  (sStF ix_most 0 (sNm 3))))))
def f_Place___init__ (ds : List D) : M O := runI 1 4 b_Place___init__ ds
def b__law_ready_place : Sst := (sRet (sNew 2 (runF 1 [0, 1, 2] [] f_Place___init__) (sCons (sCal 0 (runF 1 [0] [] f__law_ready_kind) (sCons (s2 ixD (sNm 0) (sK (.int (0)))) sNil) sNil) sNil) (sCons (s2 ixD (sNm 0) (sK (.int (1)))) (sCons (s2 ixD (sNm 0) (sK (.int (2)))) sNil))))
def f__law_ready_place (ds : List D) : M R := runB 1 b__law_ready_place ds
def mt___repr___1 : MSem := fun C => match C with | 0 => some (runF 1 [0] [] f_Option___repr__) | 1 => some (runF 1 [0] [] f_Place___repr__) | 2 => some (runF 1 [0] [] f_Kind___repr__) | 3 => some (runF 1 [0] [] f_Kind___repr__) | 4 => some (runF 1 [0] [] f_Kind___repr__) | _ => none
def mt_eq : MSem := fun C => match C with | 0 => some (runF 2 [0, 1] [] (f_Option___eq__ 8)) | 1 => some (runF 2 [0, 1] [] (f_Place___eq__ 8)) | 2 => some (runF 2 [0, 1] [] f_Kind___eq__) | 3 => some (runF 2 [0, 1] [] f_Kind___eq__) | 4 => some (runF 2 [0, 1] [] f_Kind___eq__) | _ => none
def mt_all_items_1 : MSem := fun C => match C with | 0 => some (runF 1 [0] [] f_Option_all_items) | _ => none
def b_law : Sst := (sSeq (sFor (sRg1 (sCons (sK (.int (6))) sNil)) (.n 2)
  (sSeq (sAsg false 3 (sCal 0 (runF 2 [0, 1] [] f__law_dashes) (sCons (sNm 1) (sCons (sK (.int (2))) sNil)) sNil))
  (sSeq (sPar2 false false 4 5 (sCal 0 (runF 2 [0, 1] [] f__law_opts) (sCons (sNm 1) (sCons (sNm 3) sNil)) sNil) (sCal 0 (runF 2 [0, 1] [] f__law_opts) (sCons (sNm 1) (sCons (sNm 3) sNil)) sNil))
  (sSeq (sPar2 false false 6 7 (s2 ixD (sNm 4) (sK (.int (0)))) (sCal 0 (runF 2 [0, 1] [] f__law_of) (sCons (sNm 1) (sCons (sLst (sCons (s2 ixD (sNm 4) (sK (.int (1)))) (sCons (s2 ixD (sNm 5) (sK (.int (0)))) (sCons (s2 ixD (sNm 4) (sK (.int (0)))) sNil)))) sNil)) sNil))
  (sSeq (sPar2 false false 8 9 (sCal 0 (runF 1 [0] [] f__law_ready_option) (sCons (sNm 6) sNil) sNil) (sCal 0 (runF 1 [0] [] f__law_ready_option) (sCons (sNm 7) sNil) sNil))
  (sSeq (sIfS (tNotB (sB (sCal 0 (runF 2 [0, 1] [] (f__law_same 8)) (sCons (sLst (sCons (sFl ix_name (sNm 8)) (sCons (sFl ix_most (sNm 8)) (sCons (sUnI mt___repr___1 chkS (sNm 8)) (sCons (s2 (isND false) (sFl ix_kind (sNm 8)) (sK .non)) sNil))))) (sCons (sLst (sCons (s2 ixD (sNm 6) (sK (.int (0)))) (sCons (s2 ixD (sNm 6) (sK (.int (2)))) (sCons (s2 addD (s2 addD (sK (.str "Option(")) (s2 ixD (sNm 6) (sK (.int (0))))) (sK (.str ")"))) (sCons (s2 (isND false) (s2 ixD (sNm 6) (sK (.int (1)))) (sK .non)) sNil))))) sNil)) sNil))) (sRet (sK (.bl false))) sSkip)
  (sSeq (sIfS (tAndB (sB (s2 (isND true) (s2 ixD (sNm 6) (sK (.int (1)))) (sK .non))) (sB (sEq true cP mt_eq (sFl ix_kind (sNm 8)) (sCal 0 (runF 1 [0] [] f__law_ready_kind) (sCons (s2 ixD (sNm 6) (sK (.int (1)))) sNil) sNil)))) (sRet (sK (.bl false))) sSkip)
  (sSeq (sFor (sRg1 (sCons (sK (.int (2))) sNil)) (.n 10)
  (sSeq (sAsg true 11 (sMth 0 mt_all_items_1 (sNm 8) sNil sNil))
  (sSeq (sIfS (tNotB (sB (sCal 0 (runF 2 [0, 1] [] (f__law_same 8)) (sCons (sNm 11) (sCons (sCal 0 (runF 1 [0] [] f__law_items) (sCons (sLst (sCons (sNm 6) sNil)) sNil) sNil) sNil)) sNil))) (sRet (sK (.bl false))) sSkip)
  (sApp 11 (xPure (sK (.str "x")))))))
  (sSeq (sIfS (tOrB (sB (s2 (eqPy true) (sEq false cP mt_eq (sNm 8) (sNm 9)) (s2 (eqPy false) (sNm 6) (sNm 7)))) (sB (s2 (eqPy false) (sEq true cP mt_eq (sNm 8) (sNm 9)) (s2 (eqPy false) (sNm 6) (sNm 7))))) (sRet (sK (.bl false))) sSkip)
  (sSeq (sAsg false 12 (sCal 0 (runF 2 [0, 1] [] f__law_slots) (sCons (sNm 1) (sCons (sK (.int (2))) sNil)) sNil))
  (sSeq (sPar2 false false 13 14 (s2 ixD (sNm 12) (sK (.int (0)))) (sCal 0 (runF 2 [0, 1] [] f__law_of) (sCons (sNm 1) (sCons (sNm 12) sNil)) sNil))
  (sSeq (sPar2 false false 15 16 (sCal 0 (runF 1 [0] [] f__law_ready_place) (sCons (sNm 13) sNil) sNil) (sCal 0 (runF 1 [0] [] f__law_ready_place) (sCons (sNm 14) sNil) sNil))
  (sSeq (sAsg false 17 (s2 addD (s2 addD (s2 addD (s2 addD (sMth 0 mt_text_1 (sFl ix_kind (sNm 15)) sNil sNil) (sK (.str " "))) (sN strD (sCons (s2 ixD (sNm 13) (sK (.int (1)))) sNil))) (sK (.str " "))) (sN strD (sCons (s2 ixD (sNm 13) (sK (.int (2)))) sNil))))
  (sSeq (sIfS (tNotB (sB (sCal 0 (runF 2 [0, 1] [] (f__law_same 8)) (sCons (sLst (sCons (sFl ix_least (sNm 15)) (sCons (sFl ix_most (sNm 15)) (sCons (sUnI mt___repr___1 chkS (sNm 15)) (sCons (sEq false cP mt_eq (sNm 15) (sNm 16)) (sCons (sEq true cP mt_eq (sNm 15) (sNm 16)) sNil)))))) (sCons (sLst (sCons (s2 ixD (sNm 13) (sK (.int (1)))) (sCons (s2 ixD (sNm 13) (sK (.int (2)))) (sCons (s2 addD (s2 addD (sK (.str "Place(")) (sNm 17)) (sK (.str ")"))) (sCons (s2 (eqPy false) (sNm 13) (sNm 14)) (sCons (s2 (eqPy true) (sNm 13) (sNm 14)) sNil)))))) sNil)) sNil))) (sRet (sK (.bl false))) sSkip)
  (sIfS (tOrB (sB (sEq true cP mt_eq (sFl ix_kind (sNm 15)) (sCal 0 (runF 1 [0] [] f__law_ready_kind) (sCons (s2 ixD (sNm 13) (sK (.int (0)))) sNil) sNil))) (tOrB (sB (sEq false cP mt_eq (sNm 8) (sNm 15))) (sB (sEq false cP mt_eq (sNm 15) (s2 ixD (sNm 6) (sK (.int (0)))))))) (sRet (sK (.bl false))) sSkip)))))))))))))))
  (sSeq (sPar2 false false 18 19 (sNew 0 (runF 1 [0, 1, 2] [.non, .int (1)] f_Option___init__) (sCons (sK (.str "-x")) sNil) sNil) (sNew 0 (runF 1 [0, 1, 2] [.int (1), .int (1)] f_Place___init__) (sCons (sNew0 2) sNil) sNil))
  (sSeq (sAsg false 20 (sLst (sCons (sFl ix_kind (sNm 18)) (sCons (sFl ix_most (sNm 18)) (sCons (sMth 0 mt_all_items_1 (sNm 18) sNil sNil) (sCons (sFl ix_least (sNm 19)) (sCons (sFl ix_most (sNm 19)) sNil)))))))
  (sRet (sCal 0 (runF 2 [0, 1] [] (f__law_same 8)) (sCons (sNm 20) (sCons (sLst (sCons (sK .non) (sCons (sK (.int (1))) (sCons (sLst (sCons (sK (.str "-x")) sNil)) (sCons (sK (.int (1))) (sCons (sK (.int (1))) sNil)))))) sNil)) sNil)))))
end Toy
namespace Toy
open PySem PySem.Spec L2 G
open PyProof.Rows hiding St
/-! ### classes, attributes -/
def Bc (K : PySem.W.Frag) (c : Cs) : Cf := { K := K, ad := fun C => match C with | 0 => c.Option | 1 => c.Place | 2 => c.AnyWord | 3 => c.OneOf | 4 => c.Number | _ => c.Option, fl := fun C => match C with | 0 => ["name", "kind", "most"] | 1 => ["kind", "least", "most"] | 2 => [] | 3 => ["own_words"] | 4 => ["low", "high"] | _ => [], fd := none, self := none }
section
variable {P : Program} {w : World} {K : PySem.W.Frag} {mg : Str → Option Value} {base : Heap} {c : Cs}
theorem tyf (A : Alls K mg c) : TyF (Bc K c) cP := ⟨fun C h => match C, h with | 0, h => A.ty_Option | 1, h => A.ty_Place | 2, h => A.ty_AnyWord | 3, h => A.ty_OneOf | 4, h => A.ty_Number | (_ + 5), h => absurd h (by simp [cP])⟩
theorem fl_name (A : Alls K mg c) : FlOk (Bc K c) "name" ix_name := ⟨fun C i h => match C, h with | 0, h => (by cases h; exact ⟨A.cl_Option, A.na_Option_name, rfl, (show (["name", "kind", "most"] : List Str).Nodup by decide)⟩) | 1, h => (by cases h) | 2, h => (by cases h) | 3, h => (by cases h) | 4, h => (by cases h) | (_ + 5), h => (by cases h)⟩
theorem fl_most (A : Alls K mg c) : FlOk (Bc K c) "most" ix_most := ⟨fun C i h => match C, h with | 0, h => (by cases h; exact ⟨A.cl_Option, A.na_Option_most, rfl, (show (["name", "kind", "most"] : List Str).Nodup by decide)⟩) | 1, h => (by cases h; exact ⟨A.cl_Place, A.na_Place_most, rfl, (show (["kind", "least", "most"] : List Str).Nodup by decide)⟩) | 2, h => (by cases h) | 3, h => (by cases h) | 4, h => (by cases h) | (_ + 5), h => (by cases h)⟩
theorem fl_kind (A : Alls K mg c) : FlOk (Bc K c) "kind" ix_kind := ⟨fun C i h => match C, h with | 0, h => (by cases h; exact ⟨A.cl_Option, A.na_Option_kind, rfl, (show (["name", "kind", "most"] : List Str).Nodup by decide)⟩) | 1, h => (by cases h; exact ⟨A.cl_Place, A.na_Place_kind, rfl, (show (["kind", "least", "most"] : List Str).Nodup by decide)⟩) | 2, h => (by cases h) | 3, h => (by cases h) | 4, h => (by cases h) | (_ + 5), h => (by cases h)⟩
theorem fl_least (A : Alls K mg c) : FlOk (Bc K c) "least" ix_least := ⟨fun C i h => match C, h with | 0, h => (by cases h) | 1, h => (by cases h; exact ⟨A.cl_Place, A.na_Place_least, rfl, (show (["kind", "least", "most"] : List Str).Nodup by decide)⟩) | 2, h => (by cases h) | 3, h => (by cases h) | 4, h => (by cases h) | (_ + 5), h => (by cases h)⟩
theorem fl_own_words (A : Alls K mg c) : FlOk (Bc K c) "own_words" ix_own_words := ⟨fun C i h => match C, h with | 0, h => (by cases h) | 1, h => (by cases h) | 2, h => (by cases h) | 3, h => (by cases h; exact ⟨A.cl_OneOf, A.na_OneOf_own_words, rfl, (show (["own_words"] : List Str).Nodup by decide)⟩) | 4, h => (by cases h) | (_ + 5), h => (by cases h)⟩
theorem fl_low (A : Alls K mg c) : FlOk (Bc K c) "low" ix_low := ⟨fun C i h => match C, h with | 0, h => (by cases h) | 1, h => (by cases h) | 2, h => (by cases h) | 3, h => (by cases h) | 4, h => (by cases h; exact ⟨A.cl_Number, A.na_Number_low, rfl, (show (["low", "high"] : List Str).Nodup by decide)⟩) | (_ + 5), h => (by cases h)⟩
theorem fl_high (A : Alls K mg c) : FlOk (Bc K c) "high" ix_high := ⟨fun C i h => match C, h with | 0, h => (by cases h) | 1, h => (by cases h) | 2, h => (by cases h) | 3, h => (by cases h) | 4, h => (by cases h; exact ⟨A.cl_Number, A.na_Number_high, rfl, (show (["low", "high"] : List Str).Nodup by decide)⟩) | (_ + 5), h => (by cases h)⟩
theorem ik_Kind (A : Alls K mg c) : IsK (Bc K c) (.ref c.Kind) is_Kind := ⟨fun d b h => by
  cases d with
  | non => cases h; exact A.isa_NoneType_Kind
  | bl b => cases h; exact A.isa_bool_Kind
  | int i => cases h; exact A.isa_int_Kind
  | str s => cases h; exact A.isa_str_Kind
  | lst l => cases h; exact A.isa_list_Kind
  | tup l => cases h; exact A.isa_tuple_Kind
  | feed => cases h
  | ins C fs => exact (match C, h with | 0, h => (by cases h; exact A.isa_Option_Kind) | 1, h => (by cases h; exact A.isa_Place_Kind) | 2, h => (by cases h; exact A.isa_AnyWord_Kind) | 3, h => (by cases h; exact A.isa_OneOf_Kind) | 4, h => (by cases h; exact A.isa_Number_Kind) | (_ + 5), h => (by cases h)), rfl⟩
theorem hP_Kind : ∀ C fs, (is_Kind (.ins C fs)).isSome = true → cP C = true := fun C fs h => match C, h with | 0, h => rfl | 1, h => rfl | 2, h => rfl | 3, h => rfl | 4, h => rfl | (_ + 5), h => (by cases h)
theorem ik_Place (A : Alls K mg c) : IsK (Bc K c) (.ref c.Place) is_Place := ⟨fun d b h => by
  cases d with
  | non => cases h; exact A.isa_NoneType_Place
  | bl b => cases h; exact A.isa_bool_Place
  | int i => cases h; exact A.isa_int_Place
  | str s => cases h; exact A.isa_str_Place
  | lst l => cases h; exact A.isa_list_Place
  | tup l => cases h; exact A.isa_tuple_Place
  | feed => cases h
  | ins C fs => exact (match C, h with | 0, h => (by cases h; exact A.isa_Option_Place) | 1, h => (by cases h; exact A.isa_Place_Place) | 2, h => (by cases h; exact A.isa_AnyWord_Place) | 3, h => (by cases h; exact A.isa_OneOf_Place) | 4, h => (by cases h; exact A.isa_Number_Place) | (_ + 5), h => (by cases h)), rfl⟩
theorem hP_Place : ∀ C fs, (is_Place (.ins C fs)).isSome = true → cP C = true := fun C fs h => match C, h with | 0, h => rfl | 1, h => rfl | 2, h => rfl | 3, h => rfl | 4, h => rfl | (_ + 5), h => (by cases h)
theorem ik_Option (A : Alls K mg c) : IsK (Bc K c) (.ref c.Option) is_Option := ⟨fun d b h => by
  cases d with
  | non => cases h; exact A.isa_NoneType_Option
  | bl b => cases h; exact A.isa_bool_Option
  | int i => cases h; exact A.isa_int_Option
  | str s => cases h; exact A.isa_str_Option
  | lst l => cases h; exact A.isa_list_Option
  | tup l => cases h; exact A.isa_tuple_Option
  | feed => cases h
  | ins C fs => exact (match C, h with | 0, h => (by cases h; exact A.isa_Option_Option) | 1, h => (by cases h; exact A.isa_Place_Option) | 2, h => (by cases h; exact A.isa_AnyWord_Option) | 3, h => (by cases h; exact A.isa_OneOf_Option) | 4, h => (by cases h; exact A.isa_Number_Option) | (_ + 5), h => (by cases h)), rfl⟩
theorem hP_Option : ∀ C fs, (is_Option (.ins C fs)).isSome = true → cP C = true := fun C fs h => match C, h with | 0, h => rfl | 1, h => rfl | 2, h => rfl | 3, h => rfl | 4, h => rfl | (_ + 5), h => (by cases h)
theorem cf__law_take_2 (A : Alls K mg c) : ClF P w K mg base CX0 1 "_law_take" [] (spC (Bc K c) semTake) := by
  obtain ⟨f, fd, ps, ds, F, hm, hk, hb, hv⟩ := (c__law_take_ok (P := P) (w := w) (base := base) A.d__law_take A.T).ex
  exact ⟨f, hm, hk, G.FnOk.toTake F hb hv⟩
theorem sc__law_mixed : FnScope ["_law_feed_here", "_law_some", "_law_row", "_law_found"] ["_law_feed_here", "_law_some"] (defScope s__law_mixed) := ⟨rfl, rfl, rfl, by decide +kernel, rfl, by decide +kernel, by decide +kernel⟩
theorem o__law_mixed (A : Alls K mg c) : ∃ f, mg "_law_mixed" = some (.ref f) ∧ PySem.W.keepIn K (.ref f) = true ∧ Fo P w K mg base CX0 (1 + 1) "_law_mixed" "_law_mixed" s__law_mixed [] [] f ["_law_feed_here", "_law_some"] (spB (Bc K c) f__law_mixed 2) := by
  obtain ⟨f, G⟩ := A.g__law_mixed
  exact ⟨f, G.mg, G.kp, fn_run (P := P) (w := w) (base := base) (B := Bc K c) G.fd sc__law_mixed rfl fun cdv A' outer s H E fd T hr =>
  (es_cons (es_par2 (kx := true) (ky := true) (i := 2) (j := 3) (.inr rfl) (.inr rfl) (by rfl) sc__law_mixed.nd rfl rfl (by decide) rfl rfl (ev_cT call_list_of pr_list (by rfl) A.T.b_list (by decide +kernel) (ea_cons (ev_nm (i := 1) rfl (by first | exact .inl rfl | exact .inr (.inl rfl) | exact .inr (.inr rfl))) ea_nil)) (ev_lst ea_nil) (by rfl))
  (es_cons (es_while 70 PassesOwn.never (et_cmp (op_neD hr.units) pr_ne (ev_nm (i := 2) rfl (by first | exact .inl rfl | exact .inr (.inl rfl) | exact .inr (.inr rfl))) (ev_lst ea_nil) (nomark _))
  (es_one (es_app (i := 3) rfl (by first | exact .inl rfl | exact .inr (.inl rfl) | exact .inr (.inr rfl)) (ex_pop (i := 2) rfl (by first | exact .inl rfl | exact .inr (.inl rfl) | exact .inr (.inr rfl)) (ev_cal (B := Bc K c) ⟨rfl, rfl, rfl⟩ (cf__law_take_2 A) (hr.mono (by decide)) (by rfl) (ea_cons (ev_nm (i := 0) rfl (by first | exact .inl rfl | exact .inr (.inl rfl) | exact .inr (.inr rfl))) (ea_cons (ev_cB call_len pr_len (by rfl) A.T.b_len (by decide +kernel) (ea_cons (ev_nm (i := 2) rfl (by first | exact .inl rfl | exact .inr (.inl rfl) | exact .inr (.inr rfl))) ea_nil)) ea_nil)) ek_nil)))))
  (es_one (es_ret (ev_nm (i := 3) rfl (by first | exact .inl rfl | exact .inr (.inl rfl) | exact .inr (.inr rfl)))))))⟩
theorem cf__law_mixed_2 (A : Alls K mg c) : ClF P w K mg base CX0 (1 + 1) "_law_mixed" [] (spC (Bc K c) (runF 2 [0, 1] [] f__law_mixed)) := by
  obtain ⟨f, h1, h2, o⟩ := o__law_mixed (P := P) (w := w) (base := base) A
  exact ⟨f, h1, h2, (form_of (n := 2) (ix := [0, 1]) (dd := []) o (kbA fun kV doc pm an cdv ct us ws h1 h2 => match us, ws, h1, h2 with | [_, _], [], _, _ => rfl) (fun _ _ => .nil) rfl (by decide))⟩
theorem sc__law_dashes : FnScope ["_law_feed_here", "_law_many"] ["_law_feed_here", "_law_many"] (defScope s__law_dashes) := ⟨rfl, rfl, rfl, by decide +kernel, rfl, by decide +kernel, by decide +kernel⟩
theorem o__law_dashes (A : Alls K mg c) : ∃ f, mg "_law_dashes" = some (.ref f) ∧ PySem.W.keepIn K (.ref f) = true ∧ Fo P w K mg base CX0 (3 + 1) "_law_dashes" "_law_dashes" s__law_dashes [] [] f ["_law_feed_here", "_law_many"] (spB (Bc K c) f__law_dashes 2) := by
  obtain ⟨f, G⟩ := A.g__law_dashes
  exact ⟨f, G.mg, G.kp, fn_run (P := P) (w := w) (base := base) (B := Bc K c) G.fd sc__law_dashes rfl fun cdv A' outer s H E fd T hr =>
  (es_one (es_ret (ev_sl rfl (ev_cal (B := Bc K c) ⟨rfl, rfl, rfl⟩ (cf__law_mixed_2 A) (hr.mono (by decide)) (by rfl) (ea_cons (ev_nm (i := 0) rfl (by first | exact .inl rfl | exact .inr (.inl rfl) | exact .inr (.inr rfl))) (ea_cons (ev_lst (ea_cons ev_str (ea_cons ev_str (ea_cons ev_str (ea_cons ev_str (ea_cons ev_str ea_nil)))))) ea_nil)) ek_nil) eo_none (eo_some (ev_nm (i := 1) rfl (by first | exact .inl rfl | exact .inr (.inl rfl) | exact .inr (.inr rfl)))))))⟩
theorem cf__law_dashes_2 (A : Alls K mg c) : ClF P w K mg base CX0 (3 + 1) "_law_dashes" [] (spC (Bc K c) (runF 2 [0, 1] [] f__law_dashes)) := by
  obtain ⟨f, h1, h2, o⟩ := o__law_dashes (P := P) (w := w) (base := base) A
  exact ⟨f, h1, h2, (form_of (n := 2) (ix := [0, 1]) (dd := []) o (kbA fun kV doc pm an cdv ct us ws h1 h2 => match us, ws, h1, h2 with | [_, _], [], _, _ => rfl) (fun _ _ => .nil) rfl (by decide))⟩
theorem sc__law_of : FnScope ["_law_feed_here", "_law_some"] ["_law_feed_here", "_law_some"] (defScope s__law_of) := ⟨rfl, rfl, rfl, by decide +kernel, rfl, by decide +kernel, by decide +kernel⟩
theorem o__law_of (A : Alls K mg c) : ∃ f, mg "_law_of" = some (.ref f) ∧ PySem.W.keepIn K (.ref f) = true ∧ Fo P w K mg base CX0 (1 + 1) "_law_of" "_law_of" s__law_of [] [] f ["_law_feed_here", "_law_some"] (spB (Bc K c) f__law_of 2) := by
  obtain ⟨f, G⟩ := A.g__law_of
  exact ⟨f, G.mg, G.kp, fn_run (P := P) (w := w) (base := base) (B := Bc K c) G.fd sc__law_of rfl fun cdv A' outer s H E fd T hr =>
  (es_one (es_ret (ev_ix rfl (ev_nm (i := 1) rfl (by first | exact .inl rfl | exact .inr (.inl rfl) | exact .inr (.inr rfl))) (ev_cal (B := Bc K c) ⟨rfl, rfl, rfl⟩ (cf__law_take_2 A) (hr.mono (by decide)) (by rfl) (ea_cons (ev_nm (i := 0) rfl (by first | exact .inl rfl | exact .inr (.inl rfl) | exact .inr (.inr rfl))) (ea_cons (ev_cB call_len pr_len (by rfl) A.T.b_len (by decide +kernel) (ea_cons (ev_nm (i := 1) rfl (by first | exact .inl rfl | exact .inr (.inl rfl) | exact .inr (.inr rfl))) ea_nil)) ea_nil)) ek_nil))))⟩
theorem cf__law_of_2 (A : Alls K mg c) : ClF P w K mg base CX0 (1 + 1) "_law_of" [] (spC (Bc K c) (runF 2 [0, 1] [] f__law_of)) := by
  obtain ⟨f, h1, h2, o⟩ := o__law_of (P := P) (w := w) (base := base) A
  exact ⟨f, h1, h2, (form_of (n := 2) (ix := [0, 1]) (dd := []) o (kbA fun kV doc pm an cdv ct us ws h1 h2 => match us, ws, h1, h2 with | [_, _], [], _, _ => rfl) (fun _ _ => .nil) rfl (by decide))⟩
theorem sc__law_plain_words : FnScope ["_law_feed_here", "_law_many", "_law_menu"] ["_law_feed_here", "_law_many"] (defScope s__law_plain_words) := ⟨rfl, rfl, rfl, by decide +kernel, rfl, by decide +kernel, by decide +kernel⟩
theorem o__law_plain_words (A : Alls K mg c) : ∃ f, mg "_law_plain_words" = some (.ref f) ∧ PySem.W.keepIn K (.ref f) = true ∧ Fo P w K mg base CX0 (3 + 1) "_law_plain_words" "_law_plain_words" s__law_plain_words [] [] f ["_law_feed_here", "_law_many"] (spB (Bc K c) f__law_plain_words 2) := by
  obtain ⟨f, G⟩ := A.g__law_plain_words
  exact ⟨f, G.mg, G.kp, fn_run (P := P) (w := w) (base := base) (B := Bc K c) G.fd sc__law_plain_words rfl fun cdv A' outer s H E fd T hr =>
  (es_cons (es_set (keep := false) (i := 2) (.inr rfl) sc__law_plain_words.nd rfl (by first | exact Or.inl rfl | exact Or.inr rfl) (ev_lst (ea_cons ev_str (ea_cons ev_str (ea_cons ev_str (ea_cons ev_str (ea_cons ev_str (ea_cons ev_str (ea_cons ev_str (ea_cons ev_str (ea_cons ev_str (ea_cons ev_str (ea_cons ev_str (ea_cons ev_str ea_nil))))))))))))))
  (es_one (es_ret (ev_sl rfl (ev_cal (B := Bc K c) ⟨rfl, rfl, rfl⟩ (cf__law_mixed_2 A) (hr.mono (by decide)) (by rfl) (ea_cons (ev_nm (i := 0) rfl (by first | exact .inl rfl | exact .inr (.inl rfl) | exact .inr (.inr rfl))) (ea_cons (ev_nm (i := 2) rfl (by first | exact .inl rfl | exact .inr (.inl rfl) | exact .inr (.inr rfl))) ea_nil)) ek_nil) eo_none (eo_some (ev_nm (i := 1) rfl (by first | exact .inl rfl | exact .inr (.inl rfl) | exact .inr (.inr rfl))))))))⟩
theorem cf__law_plain_words_2 (A : Alls K mg c) : ClF P w K mg base CX0 (3 + 1) "_law_plain_words" [] (spC (Bc K c) (runF 2 [0, 1] [] f__law_plain_words)) := by
  obtain ⟨f, h1, h2, o⟩ := o__law_plain_words (P := P) (w := w) (base := base) A
  exact ⟨f, h1, h2, (form_of (n := 2) (ix := [0, 1]) (dd := []) o (kbA fun kV doc pm an cdv ct us ws h1 h2 => match us, ws, h1, h2 with | [_, _], [], _, _ => rfl) (fun _ _ => .nil) rfl (by decide))⟩
theorem sc__law_kind : FnScope ["_law_feed_here", "_law_way"] ["_law_feed_here"] (defScope s__law_kind) := ⟨rfl, rfl, rfl, by decide +kernel, rfl, by decide +kernel, by decide +kernel⟩
theorem o__law_kind (A : Alls K mg c) : ∃ f, mg "_law_kind" = some (.ref f) ∧ PySem.W.keepIn K (.ref f) = true ∧ Fo P w K mg base CX0 (5 + 1) "_law_kind" "_law_kind" s__law_kind [] [] f ["_law_feed_here"] (spB (Bc K c) f__law_kind 1) := by
  obtain ⟨f, G⟩ := A.g__law_kind
  exact ⟨f, G.mg, G.kp, fn_run (P := P) (w := w) (base := base) (B := Bc K c) G.fd sc__law_kind rfl fun cdv A' outer s H E fd T hr =>
  (es_cons (es_set (keep := false) (i := 1) (.inr rfl) sc__law_kind.nd rfl (by first | exact Or.inl rfl | exact Or.inr rfl) (ev_cal (B := Bc K c) ⟨rfl, rfl, rfl⟩ (cf__law_take_2 A) (hr.mono (by decide)) (by rfl) (ea_cons (ev_nm (i := 0) rfl (by first | exact .inl rfl | exact .inr (.inl rfl) | exact .inr (.inr rfl))) (ea_cons ev_int ea_nil)) ek_nil))
  (es_cons (es_if (et_cmp op_lt pr_lt (ev_nm (i := 1) rfl (by first | exact .inl rfl | exact .inr (.inl rfl) | exact .inr (.inr rfl))) ev_int (nomark _)) (es_one (es_ret (ev_ix rfl (ev_lst (ea_cons (ev_tup (ea_cons ev_str ea_nil)) (ea_cons (ev_tup (ea_cons ev_str (ea_cons (ev_cal (B := Bc K c) ⟨rfl, rfl, rfl⟩ (cf__law_of_2 A) (hr.mono (by decide)) (by rfl) (ea_cons (ev_nm (i := 0) rfl (by first | exact .inl rfl | exact .inr (.inl rfl) | exact .inr (.inr rfl))) (ea_cons (ev_lst (ea_cons ev_int (ea_cons ev_int (ea_cons ev_int ea_nil)))) ea_nil)) ek_nil) (ea_cons (ev_cal (B := Bc K c) ⟨rfl, rfl, rfl⟩ (cf__law_of_2 A) (hr.mono (by decide)) (by rfl) (ea_cons (ev_nm (i := 0) rfl (by first | exact .inl rfl | exact .inr (.inl rfl) | exact .inr (.inr rfl))) (ea_cons (ev_lst (ea_cons ev_int (ea_cons ev_int (ea_cons ev_int ea_nil)))) ea_nil)) ek_nil) ea_nil)))) ea_nil))) (ev_nm (i := 1) rfl (by first | exact .inl rfl | exact .inr (.inl rfl) | exact .inr (.inr rfl)))))) es_nil)
  (es_one (es_ret (ev_tup (ea_cons ev_str (ea_cons (ev_cT call_tuple_of pr_tuple (by rfl) A.T.b_tuple (by decide +kernel) (ea_cons (ev_cB cr_sortedS pr_sorted (by rfl) A.T.b_sorted (by decide +kernel) (ea_cons (ev_cal (B := Bc K c) ⟨rfl, rfl, rfl⟩ (cf__law_plain_words_2 A) (hr.mono (by decide)) (by rfl) (ea_cons (ev_nm (i := 0) rfl (by first | exact .inl rfl | exact .inr (.inl rfl) | exact .inr (.inr rfl))) (ea_cons (ev_bin op_Add pr_add ev_int (ev_cal (B := Bc K c) ⟨rfl, rfl, rfl⟩ (cf__law_take_2 A) (hr.mono (by decide)) (by rfl) (ea_cons (ev_nm (i := 0) rfl (by first | exact .inl rfl | exact .inr (.inl rfl) | exact .inr (.inr rfl))) (ea_cons ev_int ea_nil)) ek_nil)) ea_nil)) ek_nil) ea_nil)) ea_nil)) ea_nil)))))))⟩
theorem cf__law_kind_1 (A : Alls K mg c) : ClF P w K mg base CX0 (5 + 1) "_law_kind" [] (spC (Bc K c) (runF 1 [0] [] f__law_kind)) := by
  obtain ⟨f, h1, h2, o⟩ := o__law_kind (P := P) (w := w) (base := base) A
  exact ⟨f, h1, h2, (form_of (n := 1) (ix := [0]) (dd := []) o (kbA fun kV doc pm an cdv ct us ws h1 h2 => match us, ws, h1, h2 with | [_], [], _, _ => rfl) (fun _ _ => .nil) rfl (by decide))⟩
theorem sc__law_opts : FnScope ["_law_feed_here", "_law_names", "_law_found", "_law_nam", "_law_sort_z", "_law_cap"] ["_law_feed_here", "_law_names"] (defScope s__law_opts) := ⟨rfl, rfl, rfl, by decide +kernel, rfl, by decide +kernel, by decide +kernel⟩
theorem o__law_opts (A : Alls K mg c) : ∃ f, mg "_law_opts" = some (.ref f) ∧ PySem.W.keepIn K (.ref f) = true ∧ Fo P w K mg base CX0 (7 + 1) "_law_opts" "_law_opts" s__law_opts [] [] f ["_law_feed_here", "_law_names"] (spB (Bc K c) f__law_opts 2) := by
  obtain ⟨f, G⟩ := A.g__law_opts
  exact ⟨f, G.mg, G.kp, fn_run (P := P) (w := w) (base := base) (B := Bc K c) G.fd sc__law_opts rfl fun cdv A' outer s H E fd T hr =>
  (es_cons (es_set (keep := true) (i := 2) (.inr rfl) sc__law_opts.nd rfl (by first | exact Or.inl rfl | exact Or.inr rfl) (ev_lst ea_nil))
  (es_cons (es_for PassesOwn.never rfl (ei_sq rfl (ev_nm (i := 1) rfl (by first | exact .inl rfl | exact .inr (.inl rfl) | exact .inr (.inr rfl)))) (eg_n (i := 3) (.inr rfl) sc__law_opts.nd rfl (by first | exact Or.inl rfl | exact Or.inr rfl))
  (es_cons (es_set (keep := false) (i := 4) (.inr rfl) sc__law_opts.nd rfl (by first | exact Or.inl rfl | exact Or.inr rfl) (ev_cal (B := Bc K c) ⟨rfl, rfl, rfl⟩ (cf__law_of_2 A) (hr.mono (by decide)) (by rfl) (ea_cons (ev_nm (i := 0) rfl (by first | exact .inl rfl | exact .inr (.inl rfl) | exact .inr (.inr rfl))) (ea_cons (ev_lst (ea_cons ev_non (ea_cons (ev_cal (B := Bc K c) ⟨rfl, rfl, rfl⟩ (cf__law_kind_1 A) (hr.mono (by decide)) (by rfl) (ea_cons (ev_nm (i := 0) rfl (by first | exact .inl rfl | exact .inr (.inl rfl) | exact .inr (.inr rfl))) ea_nil) ek_nil) ea_nil))) ea_nil)) ek_nil))
  (es_cons (es_set (keep := false) (i := 5) (.inr rfl) sc__law_opts.nd rfl (by first | exact Or.inl rfl | exact Or.inr rfl) (ev_cal (B := Bc K c) ⟨rfl, rfl, rfl⟩ (cf__law_of_2 A) (hr.mono (by decide)) (by rfl) (ea_cons (ev_nm (i := 0) rfl (by first | exact .inl rfl | exact .inr (.inl rfl) | exact .inr (.inr rfl))) (ea_cons (ev_lst (ea_cons ev_int (ea_cons ev_int (ea_cons ev_int (ea_cons ev_int ea_nil))))) ea_nil)) ek_nil))
  (es_cons (es_if (et_cmp op_gt pr_gt (ev_cB call_len pr_len (by rfl) A.T.b_len (by decide +kernel) (ea_cons (ev_nm (i := 1) rfl (by first | exact .inl rfl | exact .inr (.inl rfl) | exact .inr (.inr rfl))) ea_nil)) ev_int (nomark _)) (es_one (es_setT (ev_tup (ea_cons ev_non (ea_cons ev_int ea_nil))) (eg_t (is := [4, 5]) (fun _ _ => .inr rfl) rfl rfl (egs_cons (i := 4) sc__law_opts.nd rfl (by first | exact Or.inl rfl | exact Or.inr rfl) (egs_cons (i := 5) sc__law_opts.nd rfl (by first | exact Or.inl rfl | exact Or.inr rfl) egs_nil))))) (es_one (es_if (et_w (ew_and (et_cmp op_isN pr_isN (ev_nm (i := 4) rfl (by first | exact .inl rfl | exact .inr (.inl rfl) | exact .inr (.inr rfl))) ev_non (nomark _)) (ew_and1 (et_cmp (op_eqD hr.units) pr_eq (ev_nm (i := 2) rfl (by first | exact .inl rfl | exact .inr (.inl rfl) | exact .inr (.inr rfl))) (ev_lst ea_nil) (nomark _))))) (es_one (es_set (keep := false) (i := 5) (.inr rfl) sc__law_opts.nd rfl (by first | exact Or.inl rfl | exact Or.inr rfl) (ev_cal (B := Bc K c) ⟨rfl, rfl, rfl⟩ (cf__law_of_2 A) (hr.mono (by decide)) (by rfl) (ea_cons (ev_nm (i := 0) rfl (by first | exact .inl rfl | exact .inr (.inl rfl) | exact .inr (.inr rfl))) (ea_cons (ev_lst (ea_cons (ev_nm (i := 5) rfl (by first | exact .inl rfl | exact .inr (.inl rfl) | exact .inr (.inr rfl))) (ea_cons (ev_nm (i := 5) rfl (by first | exact .inl rfl | exact .inr (.inl rfl) | exact .inr (.inr rfl))) (ea_cons ev_int (ea_cons ev_int ea_nil))))) ea_nil)) ek_nil))) es_nil)))
  (es_cons (es_if (et_w (ew_and (et_cmp (op_neD hr.units) pr_ne (ev_nm (i := 2) rfl (by first | exact .inl rfl | exact .inr (.inl rfl) | exact .inr (.inr rfl))) (ev_lst ea_nil) (nomark _)) (ew_and (et_cmp op_notN pr_notN (ev_nm (i := 4) rfl (by first | exact .inl rfl | exact .inr (.inl rfl) | exact .inr (.inr rfl))) ev_non (nomark _)) (ew_and1 (et_cmp (op_eqD hr.units) pr_eq (ev_ix rfl (ev_nm (i := 4) rfl (by first | exact .inl rfl | exact .inr (.inl rfl) | exact .inr (.inr rfl))) ev_int) ev_str (nomark _)))))) (es_one (es_set (keep := false) (i := 5) (.inr rfl) sc__law_opts.nd rfl (by first | exact Or.inl rfl | exact Or.inr rfl) ev_int)) es_nil)
  (es_one (es_app (i := 2) rfl (by first | exact .inl rfl | exact .inr (.inl rfl) | exact .inr (.inr rfl)) (ex_pure (ev_tup (ea_cons (ev_nm (i := 3) rfl (by first | exact .inl rfl | exact .inr (.inl rfl) | exact .inr (.inr rfl))) (ea_cons (ev_nm (i := 4) rfl (by first | exact .inl rfl | exact .inr (.inl rfl) | exact .inr (.inr rfl))) (ea_cons (ev_nm (i := 5) rfl (by first | exact .inl rfl | exact .inr (.inl rfl) | exact .inr (.inr rfl))) ea_nil))))))))))))
  (es_one (es_ret (ev_nm (i := 2) rfl (by first | exact .inl rfl | exact .inr (.inl rfl) | exact .inr (.inr rfl)))))))⟩
theorem cf__law_opts_2 (A : Alls K mg c) : ClF P w K mg base CX0 (7 + 1) "_law_opts" [] (spC (Bc K c) (runF 2 [0, 1] [] f__law_opts)) := by
  obtain ⟨f, h1, h2, o⟩ := o__law_opts (P := P) (w := w) (base := base) A
  exact ⟨f, h1, h2, (form_of (n := 2) (ix := [0, 1]) (dd := []) o (kbA fun kV doc pm an cdv ct us ws h1 h2 => match us, ws, h1, h2 with | [_, _], [], _, _ => rfl) (fun _ _ => .nil) rfl (by decide))⟩
theorem sc_is_name : FnScope ["value", "sign"] ["value"] (defScope s_is_name) := ⟨rfl, rfl, rfl, by decide +kernel, rfl, by decide +kernel, by decide +kernel⟩
theorem o_is_name (A : Alls K mg c) : ∃ f, mg "is_name" = some (.ref f) ∧ PySem.W.keepIn K (.ref f) = true ∧ Fo P w K mg base CX0 (0 + 1) "is_name" "is_name" s_is_name [] [] f ["value"] (spB (Bc K c) f_is_name 1) := by
  obtain ⟨f, G⟩ := A.g_is_name
  exact ⟨f, G.mg, G.kp, fn_run (P := P) (w := w) (base := base) (B := Bc K c) G.fd sc_is_name rfl fun cdv A' outer s H E fd T hr =>
  (es_cons (es_if (et_w (ew_or (et_not (et_val (ev_isi (p := bStr) rfl (SameB.tf (B := Bc K c) ⟨rfl, rfl, rfl⟩ (tyf A)) (fun C fs h => by cases h) (ik_str) (.ty _) (by rfl) A.T.b_isinstance (ev_nm (i := 0) rfl (by first | exact .inl rfl | exact .inr (.inl rfl) | exact .inr (.inr rfl))) (pe_bltn (v := .ty "str") (by rfl) A.T.b_str (by decide +kernel) rfl)))) (ew_or1 (et_not (et_chain op_le op_le pr_le pr_le ev_int (ev_cB call_len pr_len (by rfl) A.T.b_len (by decide +kernel) (ea_cons (ev_nm (i := 0) rfl (by first | exact .inl rfl | exact .inr (.inl rfl) | exact .inr (.inr rfl))) ea_nil)) (ev_k (C8.pe_gc (by rfl) A.GC.g_MOST_LETTERS) (.int _))))))) (es_one (es_ret ev_bl)) es_nil)
  (es_one (es_ret (ev_cB (cr_all rfl) pr_all (by rfl) A.T.b_all (by decide +kernel) (ea_cons (ev_lc (own := [("sign", 1)]) rfl sc_is_name.nd (ei_str (ev_nm (i := 0) rfl (by first | exact .inl rfl | exact .inr (.inl rfl) | exact .inr (.inr rfl)))) (blkOk_by (N := ["value", "sign"]) (sc := defScope s_is_name) (by decide +kernel)) (fun _ _ => .inr rfl) (by decide) (fun _ _ _ _ _ => (eg_n (i := 1) (.inr rfl) sc_is_name.nd rfl (Or.inl rfl))) (fun _ _ _ _ _ => ets_nil) (fun _ _ _ _ _ => (ev_cmp op_In pr_in (ev_nm (i := 1) rfl (by first | exact .inl rfl | exact .inr (.inl rfl) | exact .inr (.inr rfl))) (ev_k (C8.pe_gc (by rfl) A.GC.g_LETTERS) (.str _ (by decide +kernel))) (by rfl)))) ea_nil)))))⟩
theorem cf_is_name_1 (A : Alls K mg c) : ClF P w K mg base CX0 (0 + 1) "is_name" [] (spC (Bc K c) (runF 1 [0] [] f_is_name)) := by
  obtain ⟨f, h1, h2, o⟩ := o_is_name (P := P) (w := w) (base := base) A
  exact ⟨f, h1, h2, (form_of (n := 1) (ix := [0]) (dd := []) o (kbA fun kV doc pm an cdv ct us ws h1 h2 => match us, ws, h1, h2 with | [_], [], _, _ => rfl) (fun _ _ => .nil) rfl (by decide))⟩
theorem sc_is_option_name : FnScope ["value"] ["value"] (defScope s_is_option_name) := ⟨rfl, rfl, rfl, by decide +kernel, rfl, by decide +kernel, by decide +kernel⟩
theorem o_is_option_name (A : Alls K mg c) : ∃ f, mg "is_option_name" = some (.ref f) ∧ PySem.W.keepIn K (.ref f) = true ∧ Fo P w K mg base CX0 (2 + 1) "is_option_name" "is_option_name" s_is_option_name [] [] f ["value"] (spB (Bc K c) f_is_option_name 1) := by
  obtain ⟨f, G⟩ := A.g_is_option_name
  exact ⟨f, G.mg, G.kp, fn_run (P := P) (w := w) (base := base) (B := Bc K c) G.fd sc_is_option_name rfl fun cdv A' outer s H E fd T hr =>
  (es_one (es_ret (ev_and (ev_isi (p := bStr) rfl (SameB.tf (B := Bc K c) ⟨rfl, rfl, rfl⟩ (tyf A)) (fun C fs h => by cases h) (ik_str) (.ty _) (by rfl) A.T.b_isinstance (ev_nm (i := 0) rfl (by first | exact .inl rfl | exact .inr (.inl rfl) | exact .inr (.inr rfl))) (pe_bltn (v := .ty "str") (by rfl) A.T.b_str (by decide +kernel) rfl)) (ev_and (ev_cmp (op_eqD hr.units) pr_eq (ev_sl rfl (ev_nm (i := 0) rfl (by first | exact .inl rfl | exact .inr (.inl rfl) | exact .inr (.inr rfl))) eo_none (eo_some ev_int)) ev_str (nomark _)) (ev_one (ev_cal (B := Bc K c) ⟨rfl, rfl, rfl⟩ (cf_is_name_1 A) (hr.mono (by decide)) (by rfl) (ea_cons (ev_sl rfl (ev_nm (i := 0) rfl (by first | exact .inl rfl | exact .inr (.inl rfl) | exact .inr (.inr rfl))) (eo_some ev_int) eo_none) ea_nil) ek_nil))))))⟩
theorem cf_is_option_name_1 (A : Alls K mg c) : ClF P w K mg base CX0 (2 + 1) "is_option_name" [] (spC (Bc K c) (runF 1 [0] [] f_is_option_name)) := by
  obtain ⟨f, h1, h2, o⟩ := o_is_option_name (P := P) (w := w) (base := base) A
  exact ⟨f, h1, h2, (form_of (n := 1) (ix := [0]) (dd := []) o (kbA fun kV doc pm an cdv ct us ws h1 h2 => match us, ws, h1, h2 with | [_], [], _, _ => rfl) (fun _ _ => .nil) rfl (by decide))⟩
theorem sc_is_number : FnScope ["value"] ["value"] (defScope s_is_number) := ⟨rfl, rfl, rfl, by decide +kernel, rfl, by decide +kernel, by decide +kernel⟩
theorem o_is_number (A : Alls K mg c) : ∃ f, mg "is_number" = some (.ref f) ∧ PySem.W.keepIn K (.ref f) = true ∧ Fo P w K mg base CX0 (0 + 1) "is_number" "is_number" s_is_number [] [] f ["value"] (spB (Bc K c) f_is_number 1) := by
  obtain ⟨f, G⟩ := A.g_is_number
  exact ⟨f, G.mg, G.kp, fn_run (P := P) (w := w) (base := base) (B := Bc K c) G.fd sc_is_number rfl fun cdv A' outer s H E fd T hr =>
  (es_one (es_ret (ev_and (ev_isi (p := bInt) rfl (SameB.tf (B := Bc K c) ⟨rfl, rfl, rfl⟩ (tyf A)) (fun C fs h => by cases h) (ik_int) (.ty _) (by rfl) A.T.b_isinstance (ev_nm (i := 0) rfl (by first | exact .inl rfl | exact .inr (.inl rfl) | exact .inr (.inr rfl))) (pe_bltn (v := .ty "int") (by rfl) A.T.b_int (by decide +kernel) rfl)) (ev_one (ev_not (ev_isi (p := bBool) rfl (SameB.tf (B := Bc K c) ⟨rfl, rfl, rfl⟩ (tyf A)) (fun C fs h => by cases h) (ik_bool) (.ty _) (by rfl) A.T.b_isinstance (ev_nm (i := 0) rfl (by first | exact .inl rfl | exact .inr (.inl rfl) | exact .inr (.inr rfl))) (pe_bltn (v := .ty "bool") (by rfl) A.T.b_bool (by decide +kernel) rfl)))))))⟩
theorem cf_is_number_1 (A : Alls K mg c) : ClF P w K mg base CX0 (0 + 1) "is_number" [] (spC (Bc K c) (runF 1 [0] [] f_is_number)) := by
  obtain ⟨f, h1, h2, o⟩ := o_is_number (P := P) (w := w) (base := base) A
  exact ⟨f, h1, h2, (form_of (n := 1) (ix := [0]) (dd := []) o (kbA fun kV doc pm an cdv ct us ws h1 h2 => match us, ws, h1, h2 with | [_], [], _, _ => rfl) (fun _ _ => .nil) rfl (by decide))⟩
theorem sc_is_between : FnScope ["value", "least", "most"] ["value", "least", "most"] (defScope s_is_between) := ⟨rfl, rfl, rfl, by decide +kernel, rfl, by decide +kernel, by decide +kernel⟩
theorem o_is_between (A : Alls K mg c) : ∃ f, mg "is_between" = some (.ref f) ∧ PySem.W.keepIn K (.ref f) = true ∧ Fo P w K mg base CX0 (2 + 1) "is_between" "is_between" s_is_between [] [] f ["value", "least", "most"] (spB (Bc K c) f_is_between 3) := by
  obtain ⟨f, G⟩ := A.g_is_between
  exact ⟨f, G.mg, G.kp, fn_run (P := P) (w := w) (base := base) (B := Bc K c) G.fd sc_is_between rfl fun cdv A' outer s H E fd T hr =>
  (es_one (es_ret (ev_and (ev_cal (B := Bc K c) ⟨rfl, rfl, rfl⟩ (cf_is_number_1 A) (hr.mono (by decide)) (by rfl) (ea_cons (ev_nm (i := 0) rfl (by first | exact .inl rfl | exact .inr (.inl rfl) | exact .inr (.inr rfl))) ea_nil) ek_nil) (ev_one (ev_chain op_le op_le pr_le pr_le (ev_nm (i := 1) rfl (by first | exact .inl rfl | exact .inr (.inl rfl) | exact .inr (.inr rfl))) (ev_nm (i := 0) rfl (by first | exact .inl rfl | exact .inr (.inl rfl) | exact .inr (.inr rfl))) (ev_nm (i := 2) rfl (by first | exact .inl rfl | exact .inr (.inl rfl) | exact .inr (.inr rfl))))))))⟩
theorem cf_is_between_3 (A : Alls K mg c) : ClF P w K mg base CX0 (2 + 1) "is_between" [] (spC (Bc K c) (runF 3 [0, 1, 2] [] f_is_between)) := by
  obtain ⟨f, h1, h2, o⟩ := o_is_between (P := P) (w := w) (base := base) A
  exact ⟨f, h1, h2, (form_of (n := 3) (ix := [0, 1, 2]) (dd := []) o (kbA fun kV doc pm an cdv ct us ws h1 h2 => match us, ws, h1, h2 with | [_, _, _], [], _, _ => rfl) (fun _ _ => .nil) rfl (by decide))⟩
theorem sc_Option___init__ : FnScope ["self", "name", "kind", "most"] ["self", "name", "kind", "most"] (defScope s_Option___init__) := ⟨rfl, rfl, rfl, by decide +kernel, rfl, by decide +kernel, by decide +kernel⟩
theorem o_Option___init__ (A : Alls K mg c) : Fo P w K mg base CX0 (4 + 1) "__init__" "Option.__init__" s_Option___init__ [.non] [("most", .int (1))] c.Option___init__ ["self", "name", "kind", "most"] (spJ (Bc K c) 0 f_Option___init__ 4) :=
  fn_init (P := P) (w := w) (base := base) (B := Bc K c) A.f_Option___init__ sc_Option___init__ (by decide) (by decide) fun cdv A' outer s H He E fd T a hr =>
  (es_cons (es_if (et_not (et_val (ev_cal (B := Bc K c) ⟨rfl, rfl, rfl⟩ (cf_is_option_name_1 A) (hr.mono (by decide)) (by rfl) (ea_cons (ev_nm (i := 1) rfl (by first | exact .inl rfl | exact .inr (.inl rfl) | exact .inr (.inr rfl))) ea_nil) ek_nil))) (es_one es_never) es_nil)
  (es_cons (es_if (et_not (et_val (ev_cal (B := Bc K c) ⟨rfl, rfl, rfl⟩ (cf_is_between_3 A) (hr.mono (by decide)) (by rfl) (ea_cons (ev_nm (i := 3) rfl (by first | exact .inl rfl | exact .inr (.inl rfl) | exact .inr (.inr rfl))) (ea_cons ev_int (ea_cons (ev_k (C8.pe_gc (by rfl) A.GC.g_MOST_TIMES) (.int _)) ea_nil))) ek_nil))) (es_one es_never) es_nil)
  (es_cons (es_stf (i := 0) rfl (SameB.flo (B := Bc K c) ⟨rfl, rfl, rfl⟩ (fl_name A)) rfl (by first | exact .inl rfl | exact .inr (.inl rfl) | exact .inr (.inr rfl)) (ev_nm (i := 1) rfl (by first | exact .inl rfl | exact .inr (.inl rfl) | exact .inr (.inr rfl))))
  (es_cons (es_stf (i := 0) rfl (SameB.flo (B := Bc K c) ⟨rfl, rfl, rfl⟩ (fl_kind A)) rfl (by first | exact .inl rfl | exact .inr (.inl rfl) | exact .inr (.inr rfl)) (ev_nm (i := 2) rfl (by first | exact .inl rfl | exact .inr (.inl rfl) | exact .inr (.inr rfl))))
  (es_one (es_stf (i := 0) rfl (SameB.flo (B := Bc K c) ⟨rfl, rfl, rfl⟩ (fl_most A)) rfl (by first | exact .inl rfl | exact .inr (.inl rfl) | exact .inr (.inr rfl)) (ev_nm (i := 3) rfl (by first | exact .inl rfl | exact .inr (.inl rfl) | exact .inr (.inr rfl)))))))))
theorem mk_Option_1 (A : Alls K mg c) : MkA P w K mg base CX0 (4 + 1) "Option" ((Bc K c).ad 0) [] (spI (Bc K c) 0 (runF 1 [0, 1, 2] [.non, .int (1)] f_Option___init__)) :=
  ⟨⟨_, A.mk_Option, (form_init (n := 1) (ix := [0, 1, 2]) (dd := [.non, .int (1)]) (o_Option___init__ (P := P) (w := w) (base := base) A) (kbD (ms := [("most", .int (1))]) (by simp) (by simp) (by simp) fun T D doc pm an cdv ct us ws its mv h1 h2 h3 h4 => match us, ws, its, mv, h1, h2, h3, h4 with | [_, _], [], [_], [_], _, _, _, _ => ⟨_, rfl, ⟨_, _, _, _, _, _, rfl, rfl, rfl⟩⟩) (fun _ _ => (.cons .non (.cons (.int _) .nil))) rfl (by decide))⟩, A.n_Option⟩
theorem mk_Option_2_most (A : Alls K mg c) : MkA P w K mg base CX0 (4 + 1) "Option" ((Bc K c).ad 0) ["most"] (spI (Bc K c) 0 (runF 2 [0, 1, 2] [.non] f_Option___init__)) :=
  ⟨⟨_, A.mk_Option, (form_init (n := 2) (ix := [0, 1, 2]) (dd := [.non]) (o_Option___init__ (P := P) (w := w) (base := base) A) (kbC (by simp) fun T kV doc pm an cdv ct us ws its h1 h2 h3 => match us, ws, its, h1, h2, h3 with | [_, _, _], [_], [_], _, _, _ => ⟨_, rfl, rfl⟩) (fun _ _ => (.cons .non .nil)) rfl (by decide))⟩, A.n_Option⟩
theorem sc_Number___init__ : FnScope ["self", "low", "high"] ["self", "low", "high"] (defScope s_Number___init__) := ⟨rfl, rfl, rfl, by decide +kernel, rfl, by decide +kernel, by decide +kernel⟩
theorem o_Number___init__ (A : Alls K mg c) : Fo P w K mg base CX0 (4 + 1) "__init__" "Number.__init__" s_Number___init__ [] [] c.Number___init__ ["self", "low", "high"] (spJ (Bc K c) 4 f_Number___init__ 3) :=
  fn_init (P := P) (w := w) (base := base) (B := Bc K c) A.f_Number___init__ sc_Number___init__ (by decide) (by decide) fun cdv A' outer s H He E fd T a hr =>
  (es_cons (es_if (et_not (et_val (ev_cal (B := Bc K c) ⟨rfl, rfl, rfl⟩ (cf_is_between_3 A) (hr.mono (by decide)) (by rfl) (ea_cons (ev_nm (i := 1) rfl (by first | exact .inl rfl | exact .inr (.inl rfl) | exact .inr (.inr rfl))) (ea_cons ev_int (ea_cons (ev_cval (by rfl) A.n_Number A.cv_Number_MOST (.int _)) ea_nil))) ek_nil))) (es_one es_never) es_nil)
  (es_cons (es_if (et_not (et_val (ev_cal (B := Bc K c) ⟨rfl, rfl, rfl⟩ (cf_is_between_3 A) (hr.mono (by decide)) (by rfl) (ea_cons (ev_nm (i := 2) rfl (by first | exact .inl rfl | exact .inr (.inl rfl) | exact .inr (.inr rfl))) (ea_cons (ev_nm (i := 1) rfl (by first | exact .inl rfl | exact .inr (.inl rfl) | exact .inr (.inr rfl))) (ea_cons (ev_cval (by rfl) A.n_Number A.cv_Number_MOST (.int _)) ea_nil))) ek_nil))) (es_one es_never) es_nil)
  (es_cons (es_stf (i := 0) rfl (SameB.flo (B := Bc K c) ⟨rfl, rfl, rfl⟩ (fl_low A)) rfl (by first | exact .inl rfl | exact .inr (.inl rfl) | exact .inr (.inr rfl)) (ev_nm (i := 1) rfl (by first | exact .inl rfl | exact .inr (.inl rfl) | exact .inr (.inr rfl))))
  (es_one (es_stf (i := 0) rfl (SameB.flo (B := Bc K c) ⟨rfl, rfl, rfl⟩ (fl_high A)) rfl (by first | exact .inl rfl | exact .inr (.inl rfl) | exact .inr (.inr rfl)) (ev_nm (i := 2) rfl (by first | exact .inl rfl | exact .inr (.inl rfl) | exact .inr (.inr rfl))))))))
theorem mk_Number_2 (A : Alls K mg c) : MkA P w K mg base CX0 (4 + 1) "Number" ((Bc K c).ad 4) [] (spI (Bc K c) 4 (runF 2 [0, 1] [] f_Number___init__)) :=
  ⟨⟨_, A.mk_Number, (form_init (n := 2) (ix := [0, 1]) (dd := []) (o_Number___init__ (P := P) (w := w) (base := base) A) (kbA fun kV doc pm an cdv ct us ws h1 h2 => match us, ws, h1, h2 with | [_, _, _], [], _, _ => rfl) (fun _ _ => .nil) rfl (by decide))⟩, A.n_Number⟩
theorem sc_is_word : FnScope ["value", "sign"] ["value"] (defScope s_is_word) := ⟨rfl, rfl, rfl, by decide +kernel, rfl, by decide +kernel, by decide +kernel⟩
theorem o_is_word (A : Alls K mg c) : ∃ f, mg "is_word" = some (.ref f) ∧ PySem.W.keepIn K (.ref f) = true ∧ Fo P w K mg base CX0 (0 + 1) "is_word" "is_word" s_is_word [] [] f ["value"] (spB (Bc K c) f_is_word 1) := by
  obtain ⟨f, G⟩ := A.g_is_word
  exact ⟨f, G.mg, G.kp, fn_run (P := P) (w := w) (base := base) (B := Bc K c) G.fd sc_is_word rfl fun cdv A' outer s H E fd T hr =>
  (es_cons (es_if (et_w (ew_or (et_not (et_val (ev_isi (p := bStr) rfl (SameB.tf (B := Bc K c) ⟨rfl, rfl, rfl⟩ (tyf A)) (fun C fs h => by cases h) (ik_str) (.ty _) (by rfl) A.T.b_isinstance (ev_nm (i := 0) rfl (by first | exact .inl rfl | exact .inr (.inl rfl) | exact .inr (.inr rfl))) (pe_bltn (v := .ty "str") (by rfl) A.T.b_str (by decide +kernel) rfl)))) (ew_or1 (et_not (et_chain op_le op_le pr_le pr_le ev_int (ev_cB call_len pr_len (by rfl) A.T.b_len (by decide +kernel) (ea_cons (ev_nm (i := 0) rfl (by first | exact .inl rfl | exact .inr (.inl rfl) | exact .inr (.inr rfl))) ea_nil)) (ev_k (C8.pe_gc (by rfl) A.GC.g_MOST_SIGNS) (.int _))))))) (es_one (es_ret ev_bl)) es_nil)
  (es_one (es_ret (ev_cB (cr_all rfl) pr_all (by rfl) A.T.b_all (by decide +kernel) (ea_cons (ev_lc (own := [("sign", 1)]) rfl sc_is_word.nd (ei_str (ev_nm (i := 0) rfl (by first | exact .inl rfl | exact .inr (.inl rfl) | exact .inr (.inr rfl)))) (blkOk_by (N := ["value", "sign"]) (sc := defScope s_is_word) (by decide +kernel)) (fun _ _ => .inr rfl) (by decide) (fun _ _ _ _ _ => (eg_n (i := 1) (.inr rfl) sc_is_word.nd rfl (Or.inl rfl))) (fun _ _ _ _ _ => ets_nil) (fun _ _ _ _ _ => (ev_cmp op_In pr_in (ev_nm (i := 1) rfl (by first | exact .inl rfl | exact .inr (.inl rfl) | exact .inr (.inr rfl))) (ev_k (C8.pe_gc (by rfl) A.GC.g_SIGNS) (.str _ (by decide +kernel))) (by rfl)))) ea_nil)))))⟩
theorem cf_is_word_1 (A : Alls K mg c) : ClF P w K mg base CX0 (0 + 1) "is_word" [] (spC (Bc K c) (runF 1 [0] [] f_is_word)) := by
  obtain ⟨f, h1, h2, o⟩ := o_is_word (P := P) (w := w) (base := base) A
  exact ⟨f, h1, h2, (form_of (n := 1) (ix := [0]) (dd := []) o (kbA fun kV doc pm an cdv ct us ws h1 h2 => match us, ws, h1, h2 with | [_], [], _, _ => rfl) (fun _ _ => .nil) rfl (by decide))⟩
theorem sc_is_plain : FnScope ["value"] ["value"] (defScope s_is_plain) := ⟨rfl, rfl, rfl, by decide +kernel, rfl, by decide +kernel, by decide +kernel⟩
theorem o_is_plain (A : Alls K mg c) : ∃ f, mg "is_plain" = some (.ref f) ∧ PySem.W.keepIn K (.ref f) = true ∧ Fo P w K mg base CX0 (2 + 1) "is_plain" "is_plain" s_is_plain [] [] f ["value"] (spB (Bc K c) f_is_plain 1) := by
  obtain ⟨f, G⟩ := A.g_is_plain
  exact ⟨f, G.mg, G.kp, fn_run (P := P) (w := w) (base := base) (B := Bc K c) G.fd sc_is_plain rfl fun cdv A' outer s H E fd T hr =>
  (es_one (es_ret (ev_and (ev_cal (B := Bc K c) ⟨rfl, rfl, rfl⟩ (cf_is_word_1 A) (hr.mono (by decide)) (by rfl) (ea_cons (ev_nm (i := 0) rfl (by first | exact .inl rfl | exact .inr (.inl rfl) | exact .inr (.inr rfl))) ea_nil) ek_nil) (ev_one (ev_cmp (op_neD hr.units) pr_ne (ev_ix rfl (ev_nm (i := 0) rfl (by first | exact .inl rfl | exact .inr (.inl rfl) | exact .inr (.inr rfl))) ev_int) ev_str (nomark _))))))⟩
theorem cf_is_plain_1 (A : Alls K mg c) : ClF P w K mg base CX0 (2 + 1) "is_plain" [] (spC (Bc K c) (runF 1 [0] [] f_is_plain)) := by
  obtain ⟨f, h1, h2, o⟩ := o_is_plain (P := P) (w := w) (base := base) A
  exact ⟨f, h1, h2, (form_of (n := 1) (ix := [0]) (dd := []) o (kbA fun kV doc pm an cdv ct us ws h1 h2 => match us, ws, h1, h2 with | [_], [], _, _ => rfl) (fun _ _ => .nil) rfl (by decide))⟩
theorem sc_OneOf___init__ : FnScope ["self", "words", "at", "word"] ["self", "words"] (defScope s_OneOf___init__) := ⟨rfl, rfl, rfl, by decide +kernel, rfl, by decide +kernel, by decide +kernel⟩
theorem o_OneOf___init__ (A : Alls K mg c) : FnA P w K mg base CX0 (4 + 1) c.OneOf___init__ [] (spI (Bc K c) 3 (runStarI f_OneOf___init__)) :=
  fn_initS (pv := "words") A.f_OneOf___init__ sc_OneOf___init__ (by decide) (fun kV doc pm an cdv ct us rest hl => match us, hl, rest with | [_], _, [] => rfl | [_], _, _ :: _ => rfl) fun cdv A' outer s H He E fd T a hr =>
  (es_cons (es_if (et_not (et_chain op_le op_le pr_le pr_le ev_int (ev_cB call_len pr_len (by rfl) A.T.b_len (by decide +kernel) (ea_cons (ev_nm (i := 1) rfl (by first | exact .inl rfl | exact .inr (.inl rfl) | exact .inr (.inr rfl))) ea_nil)) (ev_k (C8.pe_gc (by rfl) A.GC.g_MOST_WORDS) (.int _)))) (es_one es_never) es_nil)
  (es_cons (es_for PassesOwn.never rfl (ei_en rfl (by rfl) A.T.b_enumerate (ev_nm (i := 1) rfl (by first | exact .inl rfl | exact .inr (.inl rfl) | exact .inr (.inr rfl)))) (eg_t (is := [2, 3]) (fun i hi => .inl (fun e => by subst e; revert hi; decide)) rfl rfl (egs_cons (i := 2) sc_OneOf___init__.nd rfl (by first | exact Or.inl rfl | exact Or.inr rfl) (egs_cons (i := 3) sc_OneOf___init__.nd rfl (by first | exact Or.inl rfl | exact Or.inr rfl) egs_nil)))
  (es_one (es_if (et_w (ew_or (et_not (et_val (ev_cal (B := Bc K c) ⟨rfl, rfl, rfl⟩ (cf_is_plain_1 A) (hr.mono (by decide)) (by rfl) (ea_cons (ev_nm (i := 3) rfl (by first | exact .inl rfl | exact .inr (.inl rfl) | exact .inr (.inr rfl))) ea_nil) ek_nil))) (ew_or1 (et_cmp op_In pr_in (ev_nm (i := 3) rfl (by first | exact .inl rfl | exact .inr (.inl rfl) | exact .inr (.inr rfl))) (ev_sl rfl (ev_nm (i := 1) rfl (by first | exact .inl rfl | exact .inr (.inl rfl) | exact .inr (.inr rfl))) eo_none (eo_some (ev_nm (i := 2) rfl (by first | exact .inl rfl | exact .inr (.inl rfl) | exact .inr (.inr rfl))))) (by rfl))))) (es_one es_never) es_nil)))
  (es_one (es_stf (i := 0) rfl (SameB.flo (B := Bc K c) ⟨rfl, rfl, rfl⟩ (fl_own_words A)) rfl (by first | exact .inl rfl | exact .inr (.inl rfl) | exact .inr (.inr rfl)) (ev_cT call_tuple_of pr_tuple (by rfl) A.T.b_tuple (by decide +kernel) (ea_cons (ev_cB cr_sortedS pr_sorted (by rfl) A.T.b_sorted (by decide +kernel) (ea_cons (ev_cT call_list_of pr_list (by rfl) A.T.b_list (by decide +kernel) (ea_cons (ev_nm (i := 1) rfl (by first | exact .inl rfl | exact .inr (.inl rfl) | exact .inr (.inr rfl))) ea_nil)) ea_nil)) ea_nil))))))
theorem mk_OneOf_1 (A : Alls K mg c) : MkA P w K mg base CX0 (4 + 1) "OneOf" ((Bc K c).ad 3) [] (spI (Bc K c) 3 (runStarI f_OneOf___init__)) :=
  ⟨⟨_, A.mk_OneOf, (o_OneOf___init__ (P := P) (w := w) (base := base) A)⟩, A.n_OneOf⟩
theorem mk_OneOf_2 (A : Alls K mg c) : MkA P w K mg base CX0 (4 + 1) "OneOf" ((Bc K c).ad 3) [] (spI (Bc K c) 3 (runStarI f_OneOf___init__)) :=
  ⟨⟨_, A.mk_OneOf, (o_OneOf___init__ (P := P) (w := w) (base := base) A)⟩, A.n_OneOf⟩
theorem sc__law_ready_kind : FnScope ["_law_sort_z", "_law_row"] ["_law_sort_z"] (defScope s__law_ready_kind) := ⟨rfl, rfl, rfl, by decide +kernel, rfl, by decide +kernel, by decide +kernel⟩
theorem o__law_ready_kind (A : Alls K mg c) : ∃ f, mg "_law_ready_kind" = some (.ref f) ∧ PySem.W.keepIn K (.ref f) = true ∧ Fo P w K mg base CX0 (6 + 1) "_law_ready_kind" "_law_ready_kind" s__law_ready_kind [] [] f ["_law_sort_z"] (spB (Bc K c) f__law_ready_kind 1) := by
  obtain ⟨f, G⟩ := A.g__law_ready_kind
  exact ⟨f, G.mg, G.kp, fn_run (P := P) (w := w) (base := base) (B := Bc K c) G.fd sc__law_ready_kind rfl fun cdv A' outer s H E fd T hr =>
  (es_cons (es_if (et_cmp op_isN pr_isN (ev_nm (i := 0) rfl (by first | exact .inl rfl | exact .inr (.inl rfl) | exact .inr (.inr rfl))) ev_non (nomark _)) (es_one (es_ret ev_non)) es_nil)
  (es_cons (es_if (et_cmp (op_eqD hr.units) pr_eq (ev_ix rfl (ev_nm (i := 0) rfl (by first | exact .inl rfl | exact .inr (.inl rfl) | exact .inr (.inr rfl))) ev_int) ev_str (nomark _)) (es_one (es_ret (ev_new00 (B := Bc K c) (C := 2) ⟨rfl, rfl, rfl⟩ A.m_AnyWord (by rfl)))) es_nil)
  (es_cons (es_if (et_cmp (op_eqD hr.units) pr_eq (ev_ix rfl (ev_nm (i := 0) rfl (by first | exact .inl rfl | exact .inr (.inl rfl) | exact .inr (.inr rfl))) ev_int) ev_str (nomark _)) (es_one (es_ret (ev_new (C := 4) (B := Bc K c) ⟨rfl, rfl, rfl⟩ (mk_Number_2 A) (hr.mono (by decide)) (by rfl) (ea_cons (ev_ix rfl (ev_nm (i := 0) rfl (by first | exact .inl rfl | exact .inr (.inl rfl) | exact .inr (.inr rfl))) ev_int) (ea_cons (ev_ix rfl (ev_nm (i := 0) rfl (by first | exact .inl rfl | exact .inr (.inl rfl) | exact .inr (.inr rfl))) ev_int) ea_nil)) ek_nil))) es_nil)
  (es_cons (es_set (keep := false) (i := 1) (.inr rfl) sc__law_ready_kind.nd rfl (by first | exact Or.inl rfl | exact Or.inr rfl) (ev_ix rfl (ev_nm (i := 0) rfl (by first | exact .inl rfl | exact .inr (.inl rfl) | exact .inr (.inr rfl))) ev_int))
  (es_one (es_ret (ev_if (et_cmp (op_eqD hr.units) pr_eq (ev_cB call_len pr_len (by rfl) A.T.b_len (by decide +kernel) (ea_cons (ev_nm (i := 1) rfl (by first | exact .inl rfl | exact .inr (.inl rfl) | exact .inr (.inr rfl))) ea_nil)) ev_int (nomark _)) (ev_new (C := 3) (B := Bc K c) ⟨rfl, rfl, rfl⟩ (mk_OneOf_1 A) (hr.mono (by decide)) (by rfl) (ea_cons (ev_ix rfl (ev_nm (i := 1) rfl (by first | exact .inl rfl | exact .inr (.inl rfl) | exact .inr (.inr rfl))) ev_int) ea_nil) ek_nil) (ev_new (C := 3) (B := Bc K c) ⟨rfl, rfl, rfl⟩ (mk_OneOf_2 A) (hr.mono (by decide)) (by rfl) (ea_cons (ev_ix rfl (ev_nm (i := 1) rfl (by first | exact .inl rfl | exact .inr (.inl rfl) | exact .inr (.inr rfl))) ev_int) (ea_cons (ev_ix rfl (ev_nm (i := 1) rfl (by first | exact .inl rfl | exact .inr (.inl rfl) | exact .inr (.inr rfl))) ev_int) ea_nil)) ek_nil))))))))⟩
theorem cf__law_ready_kind_1 (A : Alls K mg c) : ClF P w K mg base CX0 (6 + 1) "_law_ready_kind" [] (spC (Bc K c) (runF 1 [0] [] f__law_ready_kind)) := by
  obtain ⟨f, h1, h2, o⟩ := o__law_ready_kind (P := P) (w := w) (base := base) A
  exact ⟨f, h1, h2, (form_of (n := 1) (ix := [0]) (dd := []) o (kbA fun kV doc pm an cdv ct us ws h1 h2 => match us, ws, h1, h2 with | [_], [], _, _ => rfl) (fun _ _ => .nil) rfl (by decide))⟩
theorem sc__law_ready_option : FnScope ["_law_opt"] ["_law_opt"] (defScope s__law_ready_option) := ⟨rfl, rfl, rfl, by decide +kernel, rfl, by decide +kernel, by decide +kernel⟩
theorem o__law_ready_option (A : Alls K mg c) : ∃ f, mg "_law_ready_option" = some (.ref f) ∧ PySem.W.keepIn K (.ref f) = true ∧ Fo P w K mg base CX0 (8 + 1) "_law_ready_option" "_law_ready_option" s__law_ready_option [] [] f ["_law_opt"] (spB (Bc K c) f__law_ready_option 1) := by
  obtain ⟨f, G⟩ := A.g__law_ready_option
  exact ⟨f, G.mg, G.kp, fn_run (P := P) (w := w) (base := base) (B := Bc K c) G.fd sc__law_ready_option rfl fun cdv A' outer s H E fd T hr =>
  (es_one (es_ret (ev_new (C := 0) (B := Bc K c) ⟨rfl, rfl, rfl⟩ (mk_Option_2_most A) (hr.mono (by decide)) (by rfl) (ea_cons (ev_ix rfl (ev_nm (i := 0) rfl (by first | exact .inl rfl | exact .inr (.inl rfl) | exact .inr (.inr rfl))) ev_int) (ea_cons (ev_cal (B := Bc K c) ⟨rfl, rfl, rfl⟩ (cf__law_ready_kind_1 A) (hr.mono (by decide)) (by rfl) (ea_cons (ev_ix rfl (ev_nm (i := 0) rfl (by first | exact .inl rfl | exact .inr (.inl rfl) | exact .inr (.inr rfl))) ev_int) ea_nil) ek_nil) ea_nil)) (ek_cons (ev_ix rfl (ev_nm (i := 0) rfl (by first | exact .inl rfl | exact .inr (.inl rfl) | exact .inr (.inr rfl))) ev_int) ek_nil))))⟩
theorem cf__law_ready_option_1 (A : Alls K mg c) : ClF P w K mg base CX0 (8 + 1) "_law_ready_option" [] (spC (Bc K c) (runF 1 [0] [] f__law_ready_option)) := by
  obtain ⟨f, h1, h2, o⟩ := o__law_ready_option (P := P) (w := w) (base := base) A
  exact ⟨f, h1, h2, (form_of (n := 1) (ix := [0]) (dd := []) o (kbA fun kV doc pm an cdv ct us ws h1 h2 => match us, ws, h1, h2 with | [_], [], _, _ => rfl) (fun _ _ => .nil) rfl (by decide))⟩
/-! a recursion: _law_same -/
theorem sc__law_same : FnScope ["_law_found", "_law_due", "_law_k"] ["_law_found", "_law_due"] (defScope s__law_same) := ⟨rfl, rfl, rfl, by decide +kernel, rfl, by decide +kernel, by decide +kernel⟩
structure Rc_17 (P : Program) (w : World) (K : PySem.W.Frag) (mg : Str → Option Value) (base : Heap) (c : Cs) (n : Nat) : Prop where
  cf__law_same_2 : ClF P w K mg base CX0 (0 + 2 * n) "_law_same" [] (spC (Bc K c) (runF 2 [0, 1] [] (F_17 n 0)))
theorem o__law_same {n : Nat} (R : Rc_17 P w K mg base c n) (A : Alls K mg c) : ∃ f, mg "_law_same" = some (.ref f) ∧ PySem.W.keepIn K (.ref f) = true ∧ Fo P w K mg base CX0 (0 + 2 * n + 1 + 1) "_law_same" "_law_same" s__law_same [] [] f ["_law_found", "_law_due"] (spB (Bc K c) (runB 3 (b__law_same (F_17 n))) 2) := by
  obtain ⟨f, G⟩ := A.g__law_same
  exact ⟨f, G.mg, G.kp, fn_run (P := P) (w := w) (base := base) (B := Bc K c) G.fd sc__law_same rfl fun cdv A' outer s H E fd T hr =>
  (es_cons (es_if (et_w (ew_or (et_cmp op_isN pr_isN (ev_nm (i := 1) rfl (by first | exact .inl rfl | exact .inr (.inl rfl) | exact .inr (.inr rfl))) ev_non (nomark _)) (ew_or1 (et_cmp op_isN pr_isN (ev_nm (i := 0) rfl (by first | exact .inl rfl | exact .inr (.inl rfl) | exact .inr (.inr rfl))) ev_non (nomark _))))) (es_one (es_ret (ev_and (ev_cmp op_isN pr_isN (ev_nm (i := 0) rfl (by first | exact .inl rfl | exact .inr (.inl rfl) | exact .inr (.inr rfl))) ev_non (nomark _)) (ev_one (ev_cmp op_isN pr_isN (ev_nm (i := 1) rfl (by first | exact .inl rfl | exact .inr (.inl rfl) | exact .inr (.inr rfl))) ev_non (nomark _)))))) es_nil)
  (es_cons (es_if (et_val (ev_isi2 (p1 := bList) (p2 := bTuple) rfl (SameB.tf (B := Bc K c) ⟨rfl, rfl, rfl⟩ (tyf A)) (fun C fs h => by cases h) (ik_list) (ik_tuple) (.ty _) (.ty _) (by rfl) A.T.b_isinstance (ev_nm (i := 1) rfl (by first | exact .inl rfl | exact .inr (.inl rfl) | exact .inr (.inr rfl))) (pe_bltn (v := .ty "list") (by rfl) A.T.b_list (by decide +kernel) rfl) (pe_bltn (v := .ty "tuple") (by rfl) A.T.b_tuple (by decide +kernel) rfl))) (es_cons (es_if (et_cmp (op_neD hr.units) pr_ne (ev_isi (p := bList) rfl (SameB.tf (B := Bc K c) ⟨rfl, rfl, rfl⟩ (tyf A)) (fun C fs h => by cases h) (ik_list) (.ty _) (by rfl) A.T.b_isinstance (ev_nm (i := 1) rfl (by first | exact .inl rfl | exact .inr (.inl rfl) | exact .inr (.inr rfl))) (pe_bltn (v := .ty "list") (by rfl) A.T.b_list (by decide +kernel) rfl)) (ev_isi (p := bList) rfl (SameB.tf (B := Bc K c) ⟨rfl, rfl, rfl⟩ (tyf A)) (fun C fs h => by cases h) (ik_list) (.ty _) (by rfl) A.T.b_isinstance (ev_nm (i := 0) rfl (by first | exact .inl rfl | exact .inr (.inl rfl) | exact .inr (.inr rfl))) (pe_bltn (v := .ty "list") (by rfl) A.T.b_list (by decide +kernel) rfl)) (nomark _)) (es_one (es_ret ev_bl)) es_nil)
  (es_cons (es_if (et_cmp (op_neD hr.units) pr_ne (ev_isi (p := bTuple) rfl (SameB.tf (B := Bc K c) ⟨rfl, rfl, rfl⟩ (tyf A)) (fun C fs h => by cases h) (ik_tuple) (.ty _) (by rfl) A.T.b_isinstance (ev_nm (i := 1) rfl (by first | exact .inl rfl | exact .inr (.inl rfl) | exact .inr (.inr rfl))) (pe_bltn (v := .ty "tuple") (by rfl) A.T.b_tuple (by decide +kernel) rfl)) (ev_isi (p := bTuple) rfl (SameB.tf (B := Bc K c) ⟨rfl, rfl, rfl⟩ (tyf A)) (fun C fs h => by cases h) (ik_tuple) (.ty _) (by rfl) A.T.b_isinstance (ev_nm (i := 0) rfl (by first | exact .inl rfl | exact .inr (.inl rfl) | exact .inr (.inr rfl))) (pe_bltn (v := .ty "tuple") (by rfl) A.T.b_tuple (by decide +kernel) rfl)) (nomark _)) (es_one (es_ret ev_bl)) es_nil)
  (es_cons (es_if (et_cmp (op_neD hr.units) pr_ne (ev_cB call_len pr_len (by rfl) A.T.b_len (by decide +kernel) (ea_cons (ev_nm (i := 0) rfl (by first | exact .inl rfl | exact .inr (.inl rfl) | exact .inr (.inr rfl))) ea_nil)) (ev_cB call_len pr_len (by rfl) A.T.b_len (by decide +kernel) (ea_cons (ev_nm (i := 1) rfl (by first | exact .inl rfl | exact .inr (.inl rfl) | exact .inr (.inr rfl))) ea_nil)) (nomark _)) (es_one (es_ret ev_bl)) es_nil)
  (es_one (es_ret (ev_cB (cr_all rfl) pr_all (by rfl) A.T.b_all (by decide +kernel) (ea_cons (ev_lc (own := [("_law_k", 2)]) rfl sc__law_same.nd (ei_rg1 (by rfl) A.T.b_range (ea_cons (ev_cB call_len pr_len (by rfl) A.T.b_len (by decide +kernel) (ea_cons (ev_nm (i := 1) rfl (by first | exact .inl rfl | exact .inr (.inl rfl) | exact .inr (.inr rfl))) ea_nil)) ea_nil)) (blkOk_by (N := ["_law_found", "_law_due", "_law_k"]) (sc := defScope s__law_same) (by decide +kernel)) (fun _ _ => .inr rfl) (by decide) (fun _ _ _ _ _ => (eg_n (i := 2) (.inr rfl) sc__law_same.nd rfl (Or.inl rfl))) (fun _ _ _ _ _ => ets_nil) (fun _ _ _ _ _ => (ev_cal (B := Bc K c) ⟨rfl, rfl, rfl⟩ R.cf__law_same_2 (hr.mono (by omega)) (by rfl) (ea_cons (ev_ix rfl (ev_nm (i := 0) rfl (by first | exact .inl rfl | exact .inr (.inl rfl) | exact .inr (.inr rfl))) (ev_nm (i := 2) rfl (by first | exact .inl rfl | exact .inr (.inl rfl) | exact .inr (.inr rfl)))) (ea_cons (ev_ix rfl (ev_nm (i := 1) rfl (by first | exact .inl rfl | exact .inr (.inl rfl) | exact .inr (.inr rfl))) (ev_nm (i := 2) rfl (by first | exact .inl rfl | exact .inr (.inl rfl) | exact .inr (.inr rfl)))) ea_nil)) ek_nil))) ea_nil))))))) es_nil)
  (es_cons (es_if (et_val (ev_isi2 (p1 := bList) (p2 := bTuple) rfl (SameB.tf (B := Bc K c) ⟨rfl, rfl, rfl⟩ (tyf A)) (fun C fs h => by cases h) (ik_list) (ik_tuple) (.ty _) (.ty _) (by rfl) A.T.b_isinstance (ev_nm (i := 0) rfl (by first | exact .inl rfl | exact .inr (.inl rfl) | exact .inr (.inr rfl))) (pe_bltn (v := .ty "list") (by rfl) A.T.b_list (by decide +kernel) rfl) (pe_bltn (v := .ty "tuple") (by rfl) A.T.b_tuple (by decide +kernel) rfl))) (es_one (es_ret ev_bl)) es_nil)
  (es_cons (es_if (et_cmp (op_neD hr.units) pr_ne (ev_isi (p := bBool) rfl (SameB.tf (B := Bc K c) ⟨rfl, rfl, rfl⟩ (tyf A)) (fun C fs h => by cases h) (ik_bool) (.ty _) (by rfl) A.T.b_isinstance (ev_nm (i := 0) rfl (by first | exact .inl rfl | exact .inr (.inl rfl) | exact .inr (.inr rfl))) (pe_bltn (v := .ty "bool") (by rfl) A.T.b_bool (by decide +kernel) rfl)) (ev_isi (p := bBool) rfl (SameB.tf (B := Bc K c) ⟨rfl, rfl, rfl⟩ (tyf A)) (fun C fs h => by cases h) (ik_bool) (.ty _) (by rfl) A.T.b_isinstance (ev_nm (i := 1) rfl (by first | exact .inl rfl | exact .inr (.inl rfl) | exact .inr (.inr rfl))) (pe_bltn (v := .ty "bool") (by rfl) A.T.b_bool (by decide +kernel) rfl)) (nomark _)) (es_one (es_ret ev_bl)) es_nil)
  (es_one (es_ret (ev_and (ev_cmp (op_eqD hr.units) pr_eq (ev_isi (p := bStr) rfl (SameB.tf (B := Bc K c) ⟨rfl, rfl, rfl⟩ (tyf A)) (fun C fs h => by cases h) (ik_str) (.ty _) (by rfl) A.T.b_isinstance (ev_nm (i := 0) rfl (by first | exact .inl rfl | exact .inr (.inl rfl) | exact .inr (.inr rfl))) (pe_bltn (v := .ty "str") (by rfl) A.T.b_str (by decide +kernel) rfl)) (ev_isi (p := bStr) rfl (SameB.tf (B := Bc K c) ⟨rfl, rfl, rfl⟩ (tyf A)) (fun C fs h => by cases h) (ik_str) (.ty _) (by rfl) A.T.b_isinstance (ev_nm (i := 1) rfl (by first | exact .inl rfl | exact .inr (.inl rfl) | exact .inr (.inr rfl))) (pe_bltn (v := .ty "str") (by rfl) A.T.b_str (by decide +kernel) rfl)) (nomark _)) (ev_one (ev_cmp (op_eqD hr.units) pr_eq (ev_nm (i := 0) rfl (by first | exact .inl rfl | exact .inr (.inl rfl) | exact .inr (.inr rfl))) (ev_nm (i := 1) rfl (by first | exact .inl rfl | exact .inr (.inl rfl) | exact .inr (.inr rfl))) (nomark _))))))))))⟩
theorem R_17 (A : Alls K mg c) : ∀ n, Rc_17 P w K mg base c n
  | 0 => ⟨(by obtain ⟨f, G⟩ := A.g__law_same; exact ⟨f, G.mg, G.kp, FnA.none (runF_fail fun _ => rfl)⟩)⟩
  | n + 1 => ⟨(by
    obtain ⟨f, h1, h2, o⟩ := o__law_same (R_17 A n) A
    exact ⟨f, h1, h2, (form_of (n := 2) (ix := [0, 1]) (dd := []) o (kbA fun kV doc pm an cdv ct us ws h1 h2 => match us, ws, h1, h2 with | [_, _], [], _, _ => rfl) (fun _ _ => .nil) rfl (by decide))⟩)⟩
theorem cf__law_same_2 (A : Alls K mg c) : ClF P w K mg base CX0 16 "_law_same" [] (spC (Bc K c) (runF 2 [0, 1] [] (F_17 8 0))) := (R_17 A 8).cf__law_same_2
theorem sc_Option___repr__ : FnScope ["self"] ["self"] (defScope s_Option___repr__) := ⟨rfl, rfl, rfl, by decide +kernel, rfl, by decide +kernel, by decide +kernel⟩
theorem o_Option___repr__ (A : Alls K mg c) : Fo P w K mg base CX0 (0 + 1) "__repr__" "Option.__repr__" s_Option___repr__ [] [] c.Option___repr__ ["self"] (spB (Bc K c) f_Option___repr__ 1) :=
  fn_run (P := P) (w := w) (base := base) (B := Bc K c) A.f_Option___repr__ sc_Option___repr__ rfl fun cdv A' outer s H E fd T hr =>
  (es_one (es_ret (ev_fs (fj_str (fj_val (ev_fl rfl (SameB.flo (B := Bc K c) ⟨rfl, rfl, rfl⟩ (fl_name A)) (ev_nm (i := 0) rfl (by first | exact .inl rfl | exact .inr (.inl rfl) | exact .inr (.inr rfl)))) (fj_str fj_nil))))))
theorem sc_AnyWord_text : FnScope ["self"] ["self"] (defScope s_AnyWord_text) := ⟨rfl, rfl, rfl, by decide +kernel, rfl, by decide +kernel, by decide +kernel⟩
theorem o_AnyWord_text (A : Alls K mg c) : Fo P w K mg base CX0 (0 + 1) "text" "AnyWord.text" s_AnyWord_text [] [] c.AnyWord_text ["self"] (spB (Bc K c) f_AnyWord_text 1) :=
  fn_run (P := P) (w := w) (base := base) (B := Bc K c) A.f_AnyWord_text sc_AnyWord_text rfl fun cdv A' outer s H E fd T hr =>
  (es_one (es_ret ev_str))
theorem sc_OneOf_text : FnScope ["self"] ["self"] (defScope s_OneOf_text) := ⟨rfl, rfl, rfl, by decide +kernel, rfl, by decide +kernel, by decide +kernel⟩
theorem o_OneOf_text (A : Alls K mg c) : Fo P w K mg base CX0 (0 + 1) "text" "OneOf.text" s_OneOf_text [] [] c.OneOf_text ["self"] (spB (Bc K c) f_OneOf_text 1) :=
  fn_run (P := P) (w := w) (base := base) (B := Bc K c) A.f_OneOf_text sc_OneOf_text rfl fun cdv A' outer s H E fd T hr =>
  (es_one (es_ret (ev_join rfl ev_str (ev_lst (ea_cons ev_str (ea_star rfl (ev_fl rfl (SameB.flo (B := Bc K c) ⟨rfl, rfl, rfl⟩ (fl_own_words A)) (ev_nm (i := 0) rfl (by first | exact .inl rfl | exact .inr (.inl rfl) | exact .inr (.inr rfl)))) ea_nil))))))
theorem sc_Number_text : FnScope ["self"] ["self"] (defScope s_Number_text) := ⟨rfl, rfl, rfl, by decide +kernel, rfl, by decide +kernel, by decide +kernel⟩
theorem o_Number_text (A : Alls K mg c) : Fo P w K mg base CX0 (0 + 1) "text" "Number.text" s_Number_text [] [] c.Number_text ["self"] (spB (Bc K c) f_Number_text 1) :=
  fn_run (P := P) (w := w) (base := base) (B := Bc K c) A.f_Number_text sc_Number_text rfl fun cdv A' outer s H E fd T hr =>
  (es_one (es_ret (ev_fs (fj_str (fj_val (ev_fl rfl (SameB.flo (B := Bc K c) ⟨rfl, rfl, rfl⟩ (fl_low A)) (ev_nm (i := 0) rfl (by first | exact .inl rfl | exact .inr (.inl rfl) | exact .inr (.inr rfl)))) (fj_str (fj_val (ev_fl rfl (SameB.flo (B := Bc K c) ⟨rfl, rfl, rfl⟩ (fl_high A)) (ev_nm (i := 0) rfl (by first | exact .inl rfl | exact .inr (.inl rfl) | exact .inr (.inr rfl)))) fj_nil)))))))
theorem mo_text_1 (A : Alls K mg c) : MtOk P w K mg base (Bc K c) 1 "text" [] mt_text_1 :=
  ⟨fun C f h => match C, h with | 0, h => (by cases h) | 1, h => (by cases h) | 2, h => (by cases h; exact ⟨⟨⟨_, A.me_AnyWord_text, ((form_of (n := 1) (ix := [0]) (dd := []) (o_AnyWord_text (P := P) (w := w) (base := base) A) (kbA fun kV doc pm an cdv ct us ws h1 h2 => match us, ws, h1, h2 with | [_], [], _, _ => rfl) (fun _ _ => .nil) rfl (by decide))).mono (by decide)⟩, A.cl_AnyWord⟩, (show ("text" : Str) ∉ ([] : List Str) by decide +kernel)⟩) | 3, h => (by cases h; exact ⟨⟨⟨_, A.me_OneOf_text, ((form_of (n := 1) (ix := [0]) (dd := []) (o_OneOf_text (P := P) (w := w) (base := base) A) (kbA fun kV doc pm an cdv ct us ws h1 h2 => match us, ws, h1, h2 with | [_], [], _, _ => rfl) (fun _ _ => .nil) rfl (by decide))).mono (by decide)⟩, A.cl_OneOf⟩, (show ("text" : Str) ∉ (["own_words"] : List Str) by decide +kernel)⟩) | 4, h => (by cases h; exact ⟨⟨⟨_, A.me_Number_text, ((form_of (n := 1) (ix := [0]) (dd := []) (o_Number_text (P := P) (w := w) (base := base) A) (kbA fun kV doc pm an cdv ct us ws h1 h2 => match us, ws, h1, h2 with | [_], [], _, _ => rfl) (fun _ _ => .nil) rfl (by decide))).mono (by decide)⟩, A.cl_Number⟩, (show ("text" : Str) ∉ (["low", "high"] : List Str) by decide +kernel)⟩) | (_ + 5), h => (by cases h)⟩
theorem sc_Place___repr__ : FnScope ["self"] ["self"] (defScope s_Place___repr__) := ⟨rfl, rfl, rfl, by decide +kernel, rfl, by decide +kernel, by decide +kernel⟩
theorem o_Place___repr__ (A : Alls K mg c) : Fo P w K mg base CX0 (2 + 1) "__repr__" "Place.__repr__" s_Place___repr__ [] [] c.Place___repr__ ["self"] (spB (Bc K c) f_Place___repr__ 1) :=
  fn_run (P := P) (w := w) (base := base) (B := Bc K c) A.f_Place___repr__ sc_Place___repr__ rfl fun cdv A' outer s H E fd T hr =>
  (es_one (es_ret (ev_fs (fj_str (fj_val (ev_mth0 (B := Bc K c) ⟨rfl, rfl, rfl⟩ (mo_text_1 A) (hr.mono (by decide)) (ev_fl rfl (SameB.flo (B := Bc K c) ⟨rfl, rfl, rfl⟩ (fl_kind A)) (ev_nm (i := 0) rfl (by first | exact .inl rfl | exact .inr (.inl rfl) | exact .inr (.inr rfl)))) ek_nil) (fj_str (fj_val (ev_fl rfl (SameB.flo (B := Bc K c) ⟨rfl, rfl, rfl⟩ (fl_least A)) (ev_nm (i := 0) rfl (by first | exact .inl rfl | exact .inr (.inl rfl) | exact .inr (.inr rfl)))) (fj_str (fj_val (ev_fl rfl (SameB.flo (B := Bc K c) ⟨rfl, rfl, rfl⟩ (fl_most A)) (ev_nm (i := 0) rfl (by first | exact .inl rfl | exact .inr (.inl rfl) | exact .inr (.inr rfl)))) (fj_str fj_nil))))))))))
theorem sc_Kind___repr__ : FnScope ["self"] ["self"] (defScope s_Kind___repr__) := ⟨rfl, rfl, rfl, by decide +kernel, rfl, by decide +kernel, by decide +kernel⟩
theorem o_Kind___repr__ (A : Alls K mg c) : Fo P w K mg base CX0 (2 + 1) "__repr__" "Kind.__repr__" s_Kind___repr__ [] [] c.Kind___repr__ ["self"] (spB (Bc K c) f_Kind___repr__ 1) :=
  fn_run (P := P) (w := w) (base := base) (B := Bc K c) A.f_Kind___repr__ sc_Kind___repr__ rfl fun cdv A' outer s H E fd T hr =>
  (es_one (es_ret (ev_fs (fj_str (fj_val (ev_mth0 (B := Bc K c) ⟨rfl, rfl, rfl⟩ (mo_text_1 A) (hr.mono (by decide)) (ev_nm (i := 0) rfl (by first | exact .inl rfl | exact .inr (.inl rfl) | exact .inr (.inr rfl))) ek_nil) (fj_str fj_nil))))))
theorem sc_Kind___eq__ : FnScope ["self", "other"] ["self", "other"] (defScope s_Kind___eq__) := ⟨rfl, rfl, rfl, by decide +kernel, rfl, by decide +kernel, by decide +kernel⟩
theorem o_Kind___eq__ (A : Alls K mg c) : Fo P w K mg base CX0 (2 + 1) "__eq__" "Kind.__eq__" s_Kind___eq__ [] [] c.Kind___eq__ ["self", "other"] (spB (Bc K c) f_Kind___eq__ 2) :=
  fn_run (P := P) (w := w) (base := base) (B := Bc K c) A.f_Kind___eq__ sc_Kind___eq__ rfl fun cdv A' outer s H E fd T hr =>
  (es_one (es_ret (ev_and (ev_isi (p := is_Kind) rfl (SameB.tf (B := Bc K c) ⟨rfl, rfl, rfl⟩ (tyf A)) (hP_Kind) (SameB.ik (B := Bc K c) ⟨rfl, rfl, rfl⟩ (ik_Kind A)) (.own _) (by rfl) A.T.b_isinstance (ev_nm (i := 1) rfl (by first | exact .inl rfl | exact .inr (.inl rfl) | exact .inr (.inr rfl))) (pe_glob (v := .ref c.Kind) (by rfl) A.n_Kind rfl)) (ev_one (ev_cmp (op_eqD hr.units) pr_eq (ev_mth0 (B := Bc K c) ⟨rfl, rfl, rfl⟩ (mo_text_1 A) (hr.mono (by decide)) (ev_nm (i := 0) rfl (by first | exact .inl rfl | exact .inr (.inl rfl) | exact .inr (.inr rfl))) ek_nil) (ev_mth0 (B := Bc K c) ⟨rfl, rfl, rfl⟩ (mo_text_1 A) (hr.mono (by decide)) (ev_nm (i := 1) rfl (by first | exact .inl rfl | exact .inr (.inl rfl) | exact .inr (.inr rfl))) ek_nil) (nomark _))))))
/-! a recursion: Place.__eq__, Option.__eq__ -/
theorem sc_Place___eq__ : FnScope ["self", "other"] ["self", "other"] (defScope s_Place___eq__) := ⟨rfl, rfl, rfl, by decide +kernel, rfl, by decide +kernel, by decide +kernel⟩
theorem sc_Option___eq__ : FnScope ["self", "other"] ["self", "other"] (defScope s_Option___eq__) := ⟨rfl, rfl, rfl, by decide +kernel, rfl, by decide +kernel, by decide +kernel⟩
structure Rc_25 (P : Program) (w : World) (K : PySem.W.Frag) (mg : Str → Option Value) (base : Heap) (c : Cs) (n : Nat) : Prop where
  fa_Place___eq___2 : FnA P w K mg base CX0 (4 + 2 * n) c.Place___eq__ [] (spC (Bc K c) (runF 2 [0, 1] [] (F_25 n 0)))
  fa_Option___eq___2 : FnA P w K mg base CX0 (4 + 2 * n) c.Option___eq__ [] (spC (Bc K c) (runF 2 [0, 1] [] (F_25 n 1)))
theorem Rc_25.eo_all {n : Nat} (R : Rc_25 P w K mg base c n) (A : Alls K mg c) : EqOk P w K mg base (Bc K c) (4 + 2 * n) cP (mt_eq_r25 (F_25 n)) :=
  ⟨⟨fun C f h => match C, h with | 0, h => (by cases h; exact ⟨⟨⟨_, A.me_Option___eq__, (R.fa_Option___eq___2).mono (by omega)⟩, A.cl_Option⟩, (show ("__eq__" : Str) ∉ (["name", "kind", "most"] : List Str) by decide +kernel)⟩) | 1, h => (by cases h; exact ⟨⟨⟨_, A.me_Place___eq__, (R.fa_Place___eq___2).mono (by omega)⟩, A.cl_Place⟩, (show ("__eq__" : Str) ∉ (["kind", "least", "most"] : List Str) by decide +kernel)⟩) | 2, h => (by cases h; exact ⟨⟨⟨_, A.me_AnyWord___eq__, ((form_of (n := 2) (ix := [0, 1]) (dd := []) (o_Kind___eq__ (P := P) (w := w) (base := base) A) (kbA fun kV doc pm an cdv ct us ws h1 h2 => match us, ws, h1, h2 with | [_, _], [], _, _ => rfl) (fun _ _ => .nil) rfl (by decide))).mono (by omega)⟩, A.cl_AnyWord⟩, (show ("__eq__" : Str) ∉ ([] : List Str) by decide +kernel)⟩) | 3, h => (by cases h; exact ⟨⟨⟨_, A.me_OneOf___eq__, ((form_of (n := 2) (ix := [0, 1]) (dd := []) (o_Kind___eq__ (P := P) (w := w) (base := base) A) (kbA fun kV doc pm an cdv ct us ws h1 h2 => match us, ws, h1, h2 with | [_, _], [], _, _ => rfl) (fun _ _ => .nil) rfl (by decide))).mono (by omega)⟩, A.cl_OneOf⟩, (show ("__eq__" : Str) ∉ (["own_words"] : List Str) by decide +kernel)⟩) | 4, h => (by cases h; exact ⟨⟨⟨_, A.me_Number___eq__, ((form_of (n := 2) (ix := [0, 1]) (dd := []) (o_Kind___eq__ (P := P) (w := w) (base := base) A) (kbA fun kV doc pm an cdv ct us ws h1 h2 => match us, ws, h1, h2 with | [_, _], [], _, _ => rfl) (fun _ _ => .nil) rfl (by decide))).mono (by omega)⟩, A.cl_Number⟩, (show ("__eq__" : Str) ∉ (["low", "high"] : List Str) by decide +kernel)⟩) | (_ + 5), h => (by cases h)⟩, tyf A, fun C f h => (match C, h with | 0, h => ⟨fun t ht => (by simp only [List.mem_cons, List.not_mem_nil, or_false] at ht; rcases ht with rfl | rfl | rfl | rfl | rfl <;> first | exact A.nf_Option_NoneType | exact A.nf_Option_bool | exact A.nf_Option_int | exact A.nf_Option_str | exact A.nf_Option_list), fun C2 h2 => (match C2, h2 with | 0, _ => A.nf_Option_Option | 1, _ => A.nf_Option_Place | 2, _ => A.nf_Option_AnyWord | 3, _ => A.nf_Option_OneOf | 4, _ => A.nf_Option_Number | (_ + 5), h2 => absurd h2 (by simp [cP]))⟩ | 1, h => ⟨fun t ht => (by simp only [List.mem_cons, List.not_mem_nil, or_false] at ht; rcases ht with rfl | rfl | rfl | rfl | rfl <;> first | exact A.nf_Place_NoneType | exact A.nf_Place_bool | exact A.nf_Place_int | exact A.nf_Place_str | exact A.nf_Place_list), fun C2 h2 => (match C2, h2 with | 0, _ => A.nf_Place_Option | 1, _ => A.nf_Place_Place | 2, _ => A.nf_Place_AnyWord | 3, _ => A.nf_Place_OneOf | 4, _ => A.nf_Place_Number | (_ + 5), h2 => absurd h2 (by simp [cP]))⟩ | 2, h => ⟨fun t ht => (by simp only [List.mem_cons, List.not_mem_nil, or_false] at ht; rcases ht with rfl | rfl | rfl | rfl | rfl <;> first | exact A.nf_AnyWord_NoneType | exact A.nf_AnyWord_bool | exact A.nf_AnyWord_int | exact A.nf_AnyWord_str | exact A.nf_AnyWord_list), fun C2 h2 => (match C2, h2 with | 0, _ => A.nf_AnyWord_Option | 1, _ => A.nf_AnyWord_Place | 2, _ => A.nf_AnyWord_AnyWord | 3, _ => A.nf_AnyWord_OneOf | 4, _ => A.nf_AnyWord_Number | (_ + 5), h2 => absurd h2 (by simp [cP]))⟩ | 3, h => ⟨fun t ht => (by simp only [List.mem_cons, List.not_mem_nil, or_false] at ht; rcases ht with rfl | rfl | rfl | rfl | rfl <;> first | exact A.nf_OneOf_NoneType | exact A.nf_OneOf_bool | exact A.nf_OneOf_int | exact A.nf_OneOf_str | exact A.nf_OneOf_list), fun C2 h2 => (match C2, h2 with | 0, _ => A.nf_OneOf_Option | 1, _ => A.nf_OneOf_Place | 2, _ => A.nf_OneOf_AnyWord | 3, _ => A.nf_OneOf_OneOf | 4, _ => A.nf_OneOf_Number | (_ + 5), h2 => absurd h2 (by simp [cP]))⟩ | 4, h => ⟨fun t ht => (by simp only [List.mem_cons, List.not_mem_nil, or_false] at ht; rcases ht with rfl | rfl | rfl | rfl | rfl <;> first | exact A.nf_Number_NoneType | exact A.nf_Number_bool | exact A.nf_Number_int | exact A.nf_Number_str | exact A.nf_Number_list), fun C2 h2 => (match C2, h2 with | 0, _ => A.nf_Number_Option | 1, _ => A.nf_Number_Place | 2, _ => A.nf_Number_AnyWord | 3, _ => A.nf_Number_OneOf | 4, _ => A.nf_Number_Number | (_ + 5), h2 => absurd h2 (by simp [cP]))⟩ | (_ + 5), h => (by cases h)), fun C f h => (match C, h with | 0, h => A.ne_Option | 1, h => A.ne_Place | 2, h => A.ne_AnyWord | 3, h => A.ne_OneOf | 4, h => A.ne_Number | (_ + 5), h => (by cases h)), fun C f h => (match C, h with | 0, h => A.nn_Option | 1, h => A.nn_Place | 2, h => A.nn_AnyWord | 3, h => A.nn_OneOf | 4, h => A.nn_Number | (_ + 5), h => (by cases h))⟩
theorem o_Place___eq__ {n : Nat} (R : Rc_25 P w K mg base c n) (A : Alls K mg c) : Fo P w K mg base CX0 (4 + 2 * n + 1 + 1) "__eq__" "Place.__eq__" s_Place___eq__ [] [] c.Place___eq__ ["self", "other"] (spB (Bc K c) (runB 2 (b_Place___eq__ (F_25 n))) 2) :=
  fn_run (P := P) (w := w) (base := base) (B := Bc K c) A.f_Place___eq__ sc_Place___eq__ rfl fun cdv A' outer s H E fd T hr =>
  (es_cons (es_if (et_not (et_val (ev_isi (p := is_Place) rfl (SameB.tf (B := Bc K c) ⟨rfl, rfl, rfl⟩ (tyf A)) (hP_Place) (SameB.ik (B := Bc K c) ⟨rfl, rfl, rfl⟩ (ik_Place A)) (.own _) (by rfl) A.T.b_isinstance (ev_nm (i := 1) rfl (by first | exact .inl rfl | exact .inr (.inl rfl) | exact .inr (.inr rfl))) (pe_glob (v := .ref c.Place) (by rfl) A.n_Place rfl)))) (es_one (es_ret ev_bl)) es_nil)
  (es_one (es_ret (ev_and (ev_eq rfl (B := Bc K c) ⟨rfl, rfl, rfl⟩ (R.eo_all A) (hr.mono (by omega)) (ev_fl rfl (SameB.flo (B := Bc K c) ⟨rfl, rfl, rfl⟩ (fl_kind A)) (ev_nm (i := 0) rfl (by first | exact .inl rfl | exact .inr (.inl rfl) | exact .inr (.inr rfl)))) (ev_fl rfl (SameB.flo (B := Bc K c) ⟨rfl, rfl, rfl⟩ (fl_kind A)) (ev_nm (i := 1) rfl (by first | exact .inl rfl | exact .inr (.inl rfl) | exact .inr (.inr rfl)))) (nomark _)) (ev_and (ev_cmp (op_eqD hr.units) pr_eq (ev_fl rfl (SameB.flo (B := Bc K c) ⟨rfl, rfl, rfl⟩ (fl_least A)) (ev_nm (i := 0) rfl (by first | exact .inl rfl | exact .inr (.inl rfl) | exact .inr (.inr rfl)))) (ev_fl rfl (SameB.flo (B := Bc K c) ⟨rfl, rfl, rfl⟩ (fl_least A)) (ev_nm (i := 1) rfl (by first | exact .inl rfl | exact .inr (.inl rfl) | exact .inr (.inr rfl)))) (nomark _)) (ev_one (ev_cmp (op_eqD hr.units) pr_eq (ev_fl rfl (SameB.flo (B := Bc K c) ⟨rfl, rfl, rfl⟩ (fl_most A)) (ev_nm (i := 0) rfl (by first | exact .inl rfl | exact .inr (.inl rfl) | exact .inr (.inr rfl)))) (ev_fl rfl (SameB.flo (B := Bc K c) ⟨rfl, rfl, rfl⟩ (fl_most A)) (ev_nm (i := 1) rfl (by first | exact .inl rfl | exact .inr (.inl rfl) | exact .inr (.inr rfl)))) (nomark _))))))))
theorem o_Option___eq__ {n : Nat} (R : Rc_25 P w K mg base c n) (A : Alls K mg c) : Fo P w K mg base CX0 (4 + 2 * n + 1 + 1) "__eq__" "Option.__eq__" s_Option___eq__ [] [] c.Option___eq__ ["self", "other"] (spB (Bc K c) (runB 2 (b_Option___eq__ (F_25 n))) 2) :=
  fn_run (P := P) (w := w) (base := base) (B := Bc K c) A.f_Option___eq__ sc_Option___eq__ rfl fun cdv A' outer s H E fd T hr =>
  (es_cons (es_if (et_not (et_val (ev_isi (p := is_Option) rfl (SameB.tf (B := Bc K c) ⟨rfl, rfl, rfl⟩ (tyf A)) (hP_Option) (SameB.ik (B := Bc K c) ⟨rfl, rfl, rfl⟩ (ik_Option A)) (.own _) (by rfl) A.T.b_isinstance (ev_nm (i := 1) rfl (by first | exact .inl rfl | exact .inr (.inl rfl) | exact .inr (.inr rfl))) (pe_glob (v := .ref c.Option) (by rfl) A.n_Option rfl)))) (es_one (es_ret ev_bl)) es_nil)
  (es_one (es_ret (ev_and (ev_cmp (op_eqD hr.units) pr_eq (ev_fl rfl (SameB.flo (B := Bc K c) ⟨rfl, rfl, rfl⟩ (fl_name A)) (ev_nm (i := 0) rfl (by first | exact .inl rfl | exact .inr (.inl rfl) | exact .inr (.inr rfl)))) (ev_fl rfl (SameB.flo (B := Bc K c) ⟨rfl, rfl, rfl⟩ (fl_name A)) (ev_nm (i := 1) rfl (by first | exact .inl rfl | exact .inr (.inl rfl) | exact .inr (.inr rfl)))) (nomark _)) (ev_and (ev_eq rfl (B := Bc K c) ⟨rfl, rfl, rfl⟩ (R.eo_all A) (hr.mono (by omega)) (ev_fl rfl (SameB.flo (B := Bc K c) ⟨rfl, rfl, rfl⟩ (fl_kind A)) (ev_nm (i := 0) rfl (by first | exact .inl rfl | exact .inr (.inl rfl) | exact .inr (.inr rfl)))) (ev_fl rfl (SameB.flo (B := Bc K c) ⟨rfl, rfl, rfl⟩ (fl_kind A)) (ev_nm (i := 1) rfl (by first | exact .inl rfl | exact .inr (.inl rfl) | exact .inr (.inr rfl)))) (nomark _)) (ev_one (ev_cmp (op_eqD hr.units) pr_eq (ev_fl rfl (SameB.flo (B := Bc K c) ⟨rfl, rfl, rfl⟩ (fl_most A)) (ev_nm (i := 0) rfl (by first | exact .inl rfl | exact .inr (.inl rfl) | exact .inr (.inr rfl)))) (ev_fl rfl (SameB.flo (B := Bc K c) ⟨rfl, rfl, rfl⟩ (fl_most A)) (ev_nm (i := 1) rfl (by first | exact .inl rfl | exact .inr (.inl rfl) | exact .inr (.inr rfl)))) (nomark _))))))))
theorem R_25 (A : Alls K mg c) : ∀ n, Rc_25 P w K mg base c n
  | 0 => ⟨(FnA.none (runF_fail fun _ => rfl)), (FnA.none (runF_fail fun _ => rfl))⟩
  | n + 1 => ⟨(form_of (n := 2) (ix := [0, 1]) (dd := []) (o_Place___eq__ (R_25 A n) A) (kbA fun kV doc pm an cdv ct us ws h1 h2 => match us, ws, h1, h2 with | [_, _], [], _, _ => rfl) (fun _ _ => .nil) rfl (by decide)),
    (form_of (n := 2) (ix := [0, 1]) (dd := []) (o_Option___eq__ (R_25 A n) A) (kbA fun kV doc pm an cdv ct us ws h1 h2 => match us, ws, h1, h2 with | [_, _], [], _, _ => rfl) (fun _ _ => .nil) rfl (by decide))⟩
theorem sc_Kind_words : FnScope ["self"] ["self"] (defScope s_Kind_words) := ⟨rfl, rfl, rfl, by decide +kernel, rfl, by decide +kernel, by decide +kernel⟩
theorem o_Kind_words (A : Alls K mg c) : Fo P w K mg base CX0 (0 + 1) "words" "Kind.words" s_Kind_words [] [] c.Kind_words ["self"] (spB (Bc K c) f_Kind_words 1) :=
  fn_run (P := P) (w := w) (base := base) (B := Bc K c) A.f_Kind_words sc_Kind_words rfl fun cdv A' outer s H E fd T hr =>
  (es_one (es_ret (ev_lst ea_nil)))
theorem sc_OneOf_words : FnScope ["self"] ["self"] (defScope s_OneOf_words) := ⟨rfl, rfl, rfl, by decide +kernel, rfl, by decide +kernel, by decide +kernel⟩
theorem o_OneOf_words (A : Alls K mg c) : Fo P w K mg base CX0 (0 + 1) "words" "OneOf.words" s_OneOf_words [] [] c.OneOf_words ["self"] (spB (Bc K c) f_OneOf_words 1) :=
  fn_run (P := P) (w := w) (base := base) (B := Bc K c) A.f_OneOf_words sc_OneOf_words rfl fun cdv A' outer s H E fd T hr =>
  (es_one (es_ret (ev_cT call_list_of pr_list (by rfl) A.T.b_list (by decide +kernel) (ea_cons (ev_fl rfl (SameB.flo (B := Bc K c) ⟨rfl, rfl, rfl⟩ (fl_own_words A)) (ev_nm (i := 0) rfl (by first | exact .inl rfl | exact .inr (.inl rfl) | exact .inr (.inr rfl)))) ea_nil))))
theorem mo_words_1 (A : Alls K mg c) : MtOk P w K mg base (Bc K c) 1 "words" [] mt_words_1 :=
  ⟨fun C f h => match C, h with | 0, h => (by cases h) | 1, h => (by cases h) | 2, h => (by cases h; exact ⟨⟨⟨_, A.me_AnyWord_words, ((form_of (n := 1) (ix := [0]) (dd := []) (o_Kind_words (P := P) (w := w) (base := base) A) (kbA fun kV doc pm an cdv ct us ws h1 h2 => match us, ws, h1, h2 with | [_], [], _, _ => rfl) (fun _ _ => .nil) rfl (by decide))).mono (by decide)⟩, A.cl_AnyWord⟩, (show ("words" : Str) ∉ ([] : List Str) by decide +kernel)⟩) | 3, h => (by cases h; exact ⟨⟨⟨_, A.me_OneOf_words, ((form_of (n := 1) (ix := [0]) (dd := []) (o_OneOf_words (P := P) (w := w) (base := base) A) (kbA fun kV doc pm an cdv ct us ws h1 h2 => match us, ws, h1, h2 with | [_], [], _, _ => rfl) (fun _ _ => .nil) rfl (by decide))).mono (by decide)⟩, A.cl_OneOf⟩, (show ("words" : Str) ∉ (["own_words"] : List Str) by decide +kernel)⟩) | 4, h => (by cases h; exact ⟨⟨⟨_, A.me_Number_words, ((form_of (n := 1) (ix := [0]) (dd := []) (o_Kind_words (P := P) (w := w) (base := base) A) (kbA fun kV doc pm an cdv ct us ws h1 h2 => match us, ws, h1, h2 with | [_], [], _, _ => rfl) (fun _ _ => .nil) rfl (by decide))).mono (by decide)⟩, A.cl_Number⟩, (show ("words" : Str) ∉ (["low", "high"] : List Str) by decide +kernel)⟩) | (_ + 5), h => (by cases h)⟩
theorem sc_Option_all_items : FnScope ["self", "words", "word"] ["self"] (defScope s_Option_all_items) := ⟨rfl, rfl, rfl, by decide +kernel, rfl, by decide +kernel, by decide +kernel⟩
theorem o_Option_all_items (A : Alls K mg c) : Fo P w K mg base CX0 (2 + 1) "all_items" "Option.all_items" s_Option_all_items [] [] c.Option_all_items ["self"] (spB (Bc K c) f_Option_all_items 1) :=
  fn_run (P := P) (w := w) (base := base) (B := Bc K c) A.f_Option_all_items sc_Option_all_items rfl fun cdv A' outer s H E fd T hr =>
  (es_cons (es_set (keep := false) (i := 1) (.inr rfl) sc_Option_all_items.nd rfl (by first | exact Or.inl rfl | exact Or.inr rfl) (ev_if (et_cmp op_isN pr_isN (ev_fl rfl (SameB.flo (B := Bc K c) ⟨rfl, rfl, rfl⟩ (fl_kind A)) (ev_nm (i := 0) rfl (by first | exact .inl rfl | exact .inr (.inl rfl) | exact .inr (.inr rfl)))) ev_non (nomark _)) (ev_lst ea_nil) (ev_mth0 (B := Bc K c) ⟨rfl, rfl, rfl⟩ (mo_words_1 A) (hr.mono (by decide)) (ev_fl rfl (SameB.flo (B := Bc K c) ⟨rfl, rfl, rfl⟩ (fl_kind A)) (ev_nm (i := 0) rfl (by first | exact .inl rfl | exact .inr (.inl rfl) | exact .inr (.inr rfl)))) ek_nil)))
  (es_one (es_ret (ev_lst (ea_cons (ev_fl rfl (SameB.flo (B := Bc K c) ⟨rfl, rfl, rfl⟩ (fl_name A)) (ev_nm (i := 0) rfl (by first | exact .inl rfl | exact .inr (.inl rfl) | exact .inr (.inr rfl)))) (ea_star rfl (ev_lc (own := [("word", 2)]) rfl sc_Option_all_items.nd (ei_sq rfl (ev_nm (i := 1) rfl (by first | exact .inl rfl | exact .inr (.inl rfl) | exact .inr (.inr rfl)))) (blkOk_by (N := ["self", "words", "word"]) (sc := defScope s_Option_all_items) (by decide +kernel)) (fun _ _ => .inr rfl) (by decide) (fun _ _ _ _ _ => (eg_n (i := 2) (.inr rfl) sc_Option_all_items.nd rfl (Or.inl rfl))) (fun _ _ _ _ _ => ets_nil) (fun _ _ _ _ _ => (ev_bin op_Add pr_add (ev_bin op_Add pr_add (ev_fl rfl (SameB.flo (B := Bc K c) ⟨rfl, rfl, rfl⟩ (fl_name A)) (ev_nm (i := 0) rfl (by first | exact .inl rfl | exact .inr (.inl rfl) | exact .inr (.inr rfl)))) ev_str) (ev_nm (i := 2) rfl (by first | exact .inl rfl | exact .inr (.inl rfl) | exact .inr (.inr rfl)))))) ea_nil))))))
theorem sc__law_items : FnScope ["_law_opts_here", "_law_found", "_law_nam", "_law_sort_z", "_law_cap", "_law_text"] ["_law_opts_here"] (defScope s__law_items) := ⟨rfl, rfl, rfl, by decide +kernel, rfl, by decide +kernel, by decide +kernel⟩
theorem o__law_items (A : Alls K mg c) : ∃ f, mg "_law_items" = some (.ref f) ∧ PySem.W.keepIn K (.ref f) = true ∧ Fo P w K mg base CX0 (0 + 1) "_law_items" "_law_items" s__law_items [] [] f ["_law_opts_here"] (spB (Bc K c) f__law_items 1) := by
  obtain ⟨f, G⟩ := A.g__law_items
  exact ⟨f, G.mg, G.kp, fn_run (P := P) (w := w) (base := base) (B := Bc K c) G.fd sc__law_items rfl fun cdv A' outer s H E fd T hr =>
  (es_cons (es_set (keep := true) (i := 1) (.inr rfl) sc__law_items.nd rfl (by first | exact Or.inl rfl | exact Or.inr rfl) (ev_lst ea_nil))
  (es_cons (es_for PassesOwn.never rfl (ei_sq rfl (ev_nm (i := 0) rfl (by first | exact .inl rfl | exact .inr (.inl rfl) | exact .inr (.inr rfl)))) (eg_t (is := [2, 3, 4]) (fun _ _ => .inr rfl) rfl rfl (egs_cons (i := 2) sc__law_items.nd rfl (by first | exact Or.inl rfl | exact Or.inr rfl) (egs_cons (i := 3) sc__law_items.nd rfl (by first | exact Or.inl rfl | exact Or.inr rfl) (egs_cons (i := 4) sc__law_items.nd rfl (by first | exact Or.inl rfl | exact Or.inr rfl) egs_nil))))
  (es_cons (es_app (i := 1) rfl (by first | exact .inl rfl | exact .inr (.inl rfl) | exact .inr (.inr rfl)) (ex_pure (ev_nm (i := 2) rfl (by first | exact .inl rfl | exact .inr (.inl rfl) | exact .inr (.inr rfl)))))
  (es_one (es_if (et_w (ew_and (et_cmp op_notN pr_notN (ev_nm (i := 3) rfl (by first | exact .inl rfl | exact .inr (.inl rfl) | exact .inr (.inr rfl))) ev_non (nomark _)) (ew_and1 (et_cmp (op_eqD hr.units) pr_eq (ev_ix rfl (ev_nm (i := 3) rfl (by first | exact .inl rfl | exact .inr (.inl rfl) | exact .inr (.inr rfl))) ev_int) ev_str (nomark _))))) (es_one (es_set (keep := true) (i := 1) (.inr rfl) sc__law_items.nd rfl (by first | exact Or.inl rfl | exact Or.inr rfl) (ev_bin op_Add pr_add (ev_nm (i := 1) rfl (by first | exact .inl rfl | exact .inr (.inl rfl) | exact .inr (.inr rfl))) (ev_lc (own := [("_law_text", 5)]) rfl sc__law_items.nd (ei_sq rfl (ev_ix rfl (ev_nm (i := 3) rfl (by first | exact .inl rfl | exact .inr (.inl rfl) | exact .inr (.inr rfl))) ev_int)) (blkOk_by (N := ["_law_opts_here", "_law_found", "_law_nam", "_law_sort_z", "_law_cap", "_law_text"]) (sc := defScope s__law_items) (by decide +kernel)) (fun _ _ => .inr rfl) (by decide) (fun _ _ _ _ _ => (eg_n (i := 5) (.inr rfl) sc__law_items.nd rfl (Or.inl rfl))) (fun _ _ _ _ _ => ets_nil) (fun _ _ _ _ _ => (ev_bin op_Add pr_add (ev_bin op_Add pr_add (ev_nm (i := 2) rfl (by first | exact .inl rfl | exact .inr (.inl rfl) | exact .inr (.inr rfl))) ev_str) (ev_nm (i := 5) rfl (by first | exact .inl rfl | exact .inr (.inl rfl) | exact .inr (.inr rfl))))))))) es_nil))))
  (es_one (es_ret (ev_nm (i := 1) rfl (by first | exact .inl rfl | exact .inr (.inl rfl) | exact .inr (.inr rfl)))))))⟩
theorem cf__law_items_1 (A : Alls K mg c) : ClF P w K mg base CX0 (0 + 1) "_law_items" [] (spC (Bc K c) (runF 1 [0] [] f__law_items)) := by
  obtain ⟨f, h1, h2, o⟩ := o__law_items (P := P) (w := w) (base := base) A
  exact ⟨f, h1, h2, (form_of (n := 1) (ix := [0]) (dd := []) o (kbA fun kV doc pm an cdv ct us ws h1 h2 => match us, ws, h1, h2 with | [_], [], _, _ => rfl) (fun _ _ => .nil) rfl (by decide))⟩
theorem sc__law_slots : FnScope ["_law_feed_here", "_law_many", "_law_bounds", "_law_found", "_law_k", "_law_sort_z", "_law_pair"] ["_law_feed_here", "_law_many"] (defScope s__law_slots) := ⟨rfl, rfl, rfl, by decide +kernel, rfl, by decide +kernel, by decide +kernel⟩
theorem o__law_slots (A : Alls K mg c) : ∃ f, mg "_law_slots" = some (.ref f) ∧ PySem.W.keepIn K (.ref f) = true ∧ Fo P w K mg base CX0 (7 + 1) "_law_slots" "_law_slots" s__law_slots [] [] f ["_law_feed_here", "_law_many"] (spB (Bc K c) f__law_slots 2) := by
  obtain ⟨f, G⟩ := A.g__law_slots
  exact ⟨f, G.mg, G.kp, fn_run (P := P) (w := w) (base := base) (B := Bc K c) G.fd sc__law_slots rfl fun cdv A' outer s H E fd T hr =>
  (es_cons (es_set (keep := false) (i := 2) (.inr rfl) sc__law_slots.nd rfl (by first | exact Or.inl rfl | exact Or.inr rfl) (ev_lst (ea_cons (ev_tup (ea_cons ev_int (ea_cons ev_int ea_nil))) (ea_cons (ev_tup (ea_cons ev_int (ea_cons ev_int ea_nil))) (ea_cons (ev_tup (ea_cons ev_int (ea_cons ev_int ea_nil))) (ea_cons (ev_tup (ea_cons ev_int (ea_cons ev_int ea_nil))) (ea_cons (ev_tup (ea_cons ev_int (ea_cons ev_int ea_nil))) (ea_cons (ev_tup (ea_cons ev_int (ea_cons ev_int ea_nil))) ea_nil))))))))
  (es_cons (es_set (keep := true) (i := 3) (.inr rfl) sc__law_slots.nd rfl (by first | exact Or.inl rfl | exact Or.inr rfl) (ev_lst ea_nil))
  (es_cons (es_for PassesOwn.never rfl (ei_rg1 (by rfl) A.T.b_range (ea_cons (ev_nm (i := 1) rfl (by first | exact .inl rfl | exact .inr (.inl rfl) | exact .inr (.inr rfl))) ea_nil)) (eg_n (i := 4) (.inr rfl) sc__law_slots.nd rfl (by first | exact Or.inl rfl | exact Or.inr rfl))
  (es_cons (es_par2 (kx := false) (ky := false) (i := 5) (j := 6) (.inr rfl) (.inr rfl) (by rfl) sc__law_slots.nd rfl rfl (by decide) rfl rfl (ev_cal (B := Bc K c) ⟨rfl, rfl, rfl⟩ (cf__law_kind_1 A) (hr.mono (by decide)) (by rfl) (ea_cons (ev_nm (i := 0) rfl (by first | exact .inl rfl | exact .inr (.inl rfl) | exact .inr (.inr rfl))) ea_nil) ek_nil) (ev_cal (B := Bc K c) ⟨rfl, rfl, rfl⟩ (cf__law_of_2 A) (hr.mono (by decide)) (by rfl) (ea_cons (ev_nm (i := 0) rfl (by first | exact .inl rfl | exact .inr (.inl rfl) | exact .inr (.inr rfl))) (ea_cons (ev_nm (i := 2) rfl (by first | exact .inl rfl | exact .inr (.inl rfl) | exact .inr (.inr rfl))) ea_nil)) ek_nil) (by rfl))
  (es_one (es_app (i := 3) rfl (by first | exact .inl rfl | exact .inr (.inl rfl) | exact .inr (.inr rfl)) (ex_pure (ev_tup (ea_cons (ev_nm (i := 5) rfl (by first | exact .inl rfl | exact .inr (.inl rfl) | exact .inr (.inr rfl))) (ea_cons (ev_ix rfl (ev_nm (i := 6) rfl (by first | exact .inl rfl | exact .inr (.inl rfl) | exact .inr (.inr rfl))) ev_int) (ea_cons (ev_ix rfl (ev_nm (i := 6) rfl (by first | exact .inl rfl | exact .inr (.inl rfl) | exact .inr (.inr rfl))) ev_int) ea_nil)))))))))
  (es_one (es_ret (ev_nm (i := 3) rfl (by first | exact .inl rfl | exact .inr (.inl rfl) | exact .inr (.inr rfl))))))))⟩
theorem cf__law_slots_2 (A : Alls K mg c) : ClF P w K mg base CX0 (7 + 1) "_law_slots" [] (spC (Bc K c) (runF 2 [0, 1] [] f__law_slots)) := by
  obtain ⟨f, h1, h2, o⟩ := o__law_slots (P := P) (w := w) (base := base) A
  exact ⟨f, h1, h2, (form_of (n := 2) (ix := [0, 1]) (dd := []) o (kbA fun kV doc pm an cdv ct us ws h1 h2 => match us, ws, h1, h2 with | [_, _], [], _, _ => rfl) (fun _ _ => .nil) rfl (by decide))⟩
theorem sc_Place___init__ : FnScope ["self", "kind", "least", "most"] ["self", "kind", "least", "most"] (defScope s_Place___init__) := ⟨rfl, rfl, rfl, by decide +kernel, rfl, by decide +kernel, by decide +kernel⟩
theorem o_Place___init__ (A : Alls K mg c) : Fo P w K mg base CX0 (4 + 1) "__init__" "Place.__init__" s_Place___init__ [] [("least", .int (1)), ("most", .int (1))] c.Place___init__ ["self", "kind", "least", "most"] (spJ (Bc K c) 1 f_Place___init__ 4) :=
  fn_init (P := P) (w := w) (base := base) (B := Bc K c) A.f_Place___init__ sc_Place___init__ (by decide) (by decide) fun cdv A' outer s H He E fd T a hr =>
  (es_cons (es_if (et_not (et_val (ev_cal (B := Bc K c) ⟨rfl, rfl, rfl⟩ (cf_is_between_3 A) (hr.mono (by decide)) (by rfl) (ea_cons (ev_nm (i := 2) rfl (by first | exact .inl rfl | exact .inr (.inl rfl) | exact .inr (.inr rfl))) (ea_cons ev_int (ea_cons (ev_k (C8.pe_gc (by rfl) A.GC.g_MOST_TIMES) (.int _)) ea_nil))) ek_nil))) (es_one es_never) es_nil)
  (es_cons (es_if (et_w (ew_and (et_not (et_val (ev_cal (B := Bc K c) ⟨rfl, rfl, rfl⟩ (cf_is_between_3 A) (hr.mono (by decide)) (by rfl) (ea_cons (ev_nm (i := 3) rfl (by first | exact .inl rfl | exact .inr (.inl rfl) | exact .inr (.inr rfl))) (ea_cons (ev_cB (cr_max rfl) pr_max (by rfl) A.T.b_max (by decide +kernel) (ea_cons (ev_lst (ea_cons (ev_nm (i := 2) rfl (by first | exact .inl rfl | exact .inr (.inl rfl) | exact .inr (.inr rfl))) (ea_cons ev_int ea_nil))) ea_nil)) (ea_cons (ev_k (C8.pe_gc (by rfl) A.GC.g_MOST_TIMES) (.int _)) ea_nil))) ek_nil))) (ew_and1 (et_not (et_val (ev_cal (B := Bc K c) ⟨rfl, rfl, rfl⟩ (cf_is_between_3 A) (hr.mono (by decide)) (by rfl) (ea_cons (ev_nm (i := 3) rfl (by first | exact .inl rfl | exact .inr (.inl rfl) | exact .inr (.inr rfl))) (ea_cons ev_int (ea_cons ev_int ea_nil))) ek_nil)))))) (es_one es_never) es_nil)
  (es_cons (es_stf (i := 0) rfl (SameB.flo (B := Bc K c) ⟨rfl, rfl, rfl⟩ (fl_kind A)) rfl (by first | exact .inl rfl | exact .inr (.inl rfl) | exact .inr (.inr rfl)) (ev_nm (i := 1) rfl (by first | exact .inl rfl | exact .inr (.inl rfl) | exact .inr (.inr rfl))))
  (es_cons (es_stf (i := 0) rfl (SameB.flo (B := Bc K c) ⟨rfl, rfl, rfl⟩ (fl_least A)) rfl (by first | exact .inl rfl | exact .inr (.inl rfl) | exact .inr (.inr rfl)) (ev_nm (i := 2) rfl (by first | exact .inl rfl | exact .inr (.inl rfl) | exact .inr (.inr rfl))))
  (es_one (es_stf (i := 0) rfl (SameB.flo (B := Bc K c) ⟨rfl, rfl, rfl⟩ (fl_most A)) rfl (by first | exact .inl rfl | exact .inr (.inl rfl) | exact .inr (.inr rfl)) (ev_nm (i := 3) rfl (by first | exact .inl rfl | exact .inr (.inl rfl) | exact .inr (.inr rfl)))))))))
theorem mk_Place_1 (A : Alls K mg c) : MkA P w K mg base CX0 (4 + 1) "Place" ((Bc K c).ad 1) [] (spI (Bc K c) 1 (runF 1 [0, 1, 2] [.int (1), .int (1)] f_Place___init__)) :=
  ⟨⟨_, A.mk_Place, (form_init (n := 1) (ix := [0, 1, 2]) (dd := [.int (1), .int (1)]) (o_Place___init__ (P := P) (w := w) (base := base) A) (kbB (ms := [("least", .int (1)), ("most", .int (1))]) (by simp) (by simp) fun D doc pm an cdv ct us ws mv h1 h2 h3 => match us, ws, mv, h1, h2, h3 with | [_, _], [], [_, _], _, _, _ => ⟨_, _, _, _, _, _, rfl, rfl, ⟨_, _, _, _, _, _, rfl, rfl, rfl⟩⟩) (fun _ _ => (.cons (.int _) (.cons (.int _) .nil))) rfl (by decide))⟩, A.n_Place⟩
theorem mk_Place_1_least_most (A : Alls K mg c) : MkA P w K mg base CX0 (4 + 1) "Place" ((Bc K c).ad 1) ["least", "most"] (spI (Bc K c) 1 (runF 1 [0, 1, 2] [] f_Place___init__)) :=
  ⟨⟨_, A.mk_Place, (form_init (n := 1) (ix := [0, 1, 2]) (dd := []) (o_Place___init__ (P := P) (w := w) (base := base) A) (kbA fun kV doc pm an cdv ct us ws h1 h2 => match us, ws, h1, h2 with | [_, _], [_, _], _, _ => rfl) (fun _ _ => .nil) rfl (by decide))⟩, A.n_Place⟩
theorem sc__law_ready_place : FnScope ["_law_slot"] ["_law_slot"] (defScope s__law_ready_place) := ⟨rfl, rfl, rfl, by decide +kernel, rfl, by decide +kernel, by decide +kernel⟩
theorem o__law_ready_place (A : Alls K mg c) : ∃ f, mg "_law_ready_place" = some (.ref f) ∧ PySem.W.keepIn K (.ref f) = true ∧ Fo P w K mg base CX0 (8 + 1) "_law_ready_place" "_law_ready_place" s__law_ready_place [] [] f ["_law_slot"] (spB (Bc K c) f__law_ready_place 1) := by
  obtain ⟨f, G⟩ := A.g__law_ready_place
  exact ⟨f, G.mg, G.kp, fn_run (P := P) (w := w) (base := base) (B := Bc K c) G.fd sc__law_ready_place rfl fun cdv A' outer s H E fd T hr =>
  (es_one (es_ret (ev_new (C := 1) (B := Bc K c) ⟨rfl, rfl, rfl⟩ (mk_Place_1_least_most A) (hr.mono (by decide)) (by rfl) (ea_cons (ev_cal (B := Bc K c) ⟨rfl, rfl, rfl⟩ (cf__law_ready_kind_1 A) (hr.mono (by decide)) (by rfl) (ea_cons (ev_ix rfl (ev_nm (i := 0) rfl (by first | exact .inl rfl | exact .inr (.inl rfl) | exact .inr (.inr rfl))) ev_int) ea_nil) ek_nil) ea_nil) (ek_cons (ev_ix rfl (ev_nm (i := 0) rfl (by first | exact .inl rfl | exact .inr (.inl rfl) | exact .inr (.inr rfl))) ev_int) (ek_cons (ev_ix rfl (ev_nm (i := 0) rfl (by first | exact .inl rfl | exact .inr (.inl rfl) | exact .inr (.inr rfl))) ev_int) ek_nil)))))⟩
theorem cf__law_ready_place_1 (A : Alls K mg c) : ClF P w K mg base CX0 (8 + 1) "_law_ready_place" [] (spC (Bc K c) (runF 1 [0] [] f__law_ready_place)) := by
  obtain ⟨f, h1, h2, o⟩ := o__law_ready_place (P := P) (w := w) (base := base) A
  exact ⟨f, h1, h2, (form_of (n := 1) (ix := [0]) (dd := []) o (kbA fun kV doc pm an cdv ct us ws h1 h2 => match us, ws, h1, h2 with | [_], [], _, _ => rfl) (fun _ _ => .nil) rfl (by decide))⟩
theorem mo___repr___1 (A : Alls K mg c) : MtOk P w K mg base (Bc K c) 3 "__repr__" [] mt___repr___1 :=
  ⟨fun C f h => match C, h with | 0, h => (by cases h; exact ⟨⟨⟨_, A.me_Option___repr__, ((form_of (n := 1) (ix := [0]) (dd := []) (o_Option___repr__ (P := P) (w := w) (base := base) A) (kbA fun kV doc pm an cdv ct us ws h1 h2 => match us, ws, h1, h2 with | [_], [], _, _ => rfl) (fun _ _ => .nil) rfl (by decide))).mono (by decide)⟩, A.cl_Option⟩, (show ("__repr__" : Str) ∉ (["name", "kind", "most"] : List Str) by decide +kernel)⟩) | 1, h => (by cases h; exact ⟨⟨⟨_, A.me_Place___repr__, ((form_of (n := 1) (ix := [0]) (dd := []) (o_Place___repr__ (P := P) (w := w) (base := base) A) (kbA fun kV doc pm an cdv ct us ws h1 h2 => match us, ws, h1, h2 with | [_], [], _, _ => rfl) (fun _ _ => .nil) rfl (by decide))).mono (by decide)⟩, A.cl_Place⟩, (show ("__repr__" : Str) ∉ (["kind", "least", "most"] : List Str) by decide +kernel)⟩) | 2, h => (by cases h; exact ⟨⟨⟨_, A.me_AnyWord___repr__, ((form_of (n := 1) (ix := [0]) (dd := []) (o_Kind___repr__ (P := P) (w := w) (base := base) A) (kbA fun kV doc pm an cdv ct us ws h1 h2 => match us, ws, h1, h2 with | [_], [], _, _ => rfl) (fun _ _ => .nil) rfl (by decide))).mono (by decide)⟩, A.cl_AnyWord⟩, (show ("__repr__" : Str) ∉ ([] : List Str) by decide +kernel)⟩) | 3, h => (by cases h; exact ⟨⟨⟨_, A.me_OneOf___repr__, ((form_of (n := 1) (ix := [0]) (dd := []) (o_Kind___repr__ (P := P) (w := w) (base := base) A) (kbA fun kV doc pm an cdv ct us ws h1 h2 => match us, ws, h1, h2 with | [_], [], _, _ => rfl) (fun _ _ => .nil) rfl (by decide))).mono (by decide)⟩, A.cl_OneOf⟩, (show ("__repr__" : Str) ∉ (["own_words"] : List Str) by decide +kernel)⟩) | 4, h => (by cases h; exact ⟨⟨⟨_, A.me_Number___repr__, ((form_of (n := 1) (ix := [0]) (dd := []) (o_Kind___repr__ (P := P) (w := w) (base := base) A) (kbA fun kV doc pm an cdv ct us ws h1 h2 => match us, ws, h1, h2 with | [_], [], _, _ => rfl) (fun _ _ => .nil) rfl (by decide))).mono (by decide)⟩, A.cl_Number⟩, (show ("__repr__" : Str) ∉ (["low", "high"] : List Str) by decide +kernel)⟩) | (_ + 5), h => (by cases h)⟩
theorem eo_all (A : Alls K mg c) : EqOk P w K mg base (Bc K c) 20 cP mt_eq :=
  ⟨⟨fun C f h => match C, h with | 0, h => (by cases h; exact ⟨⟨⟨_, A.me_Option___eq__, (((R_25 A 8).fa_Option___eq___2)).mono (by decide)⟩, A.cl_Option⟩, (show ("__eq__" : Str) ∉ (["name", "kind", "most"] : List Str) by decide +kernel)⟩) | 1, h => (by cases h; exact ⟨⟨⟨_, A.me_Place___eq__, (((R_25 A 8).fa_Place___eq___2)).mono (by decide)⟩, A.cl_Place⟩, (show ("__eq__" : Str) ∉ (["kind", "least", "most"] : List Str) by decide +kernel)⟩) | 2, h => (by cases h; exact ⟨⟨⟨_, A.me_AnyWord___eq__, ((form_of (n := 2) (ix := [0, 1]) (dd := []) (o_Kind___eq__ (P := P) (w := w) (base := base) A) (kbA fun kV doc pm an cdv ct us ws h1 h2 => match us, ws, h1, h2 with | [_, _], [], _, _ => rfl) (fun _ _ => .nil) rfl (by decide))).mono (by decide)⟩, A.cl_AnyWord⟩, (show ("__eq__" : Str) ∉ ([] : List Str) by decide +kernel)⟩) | 3, h => (by cases h; exact ⟨⟨⟨_, A.me_OneOf___eq__, ((form_of (n := 2) (ix := [0, 1]) (dd := []) (o_Kind___eq__ (P := P) (w := w) (base := base) A) (kbA fun kV doc pm an cdv ct us ws h1 h2 => match us, ws, h1, h2 with | [_, _], [], _, _ => rfl) (fun _ _ => .nil) rfl (by decide))).mono (by decide)⟩, A.cl_OneOf⟩, (show ("__eq__" : Str) ∉ (["own_words"] : List Str) by decide +kernel)⟩) | 4, h => (by cases h; exact ⟨⟨⟨_, A.me_Number___eq__, ((form_of (n := 2) (ix := [0, 1]) (dd := []) (o_Kind___eq__ (P := P) (w := w) (base := base) A) (kbA fun kV doc pm an cdv ct us ws h1 h2 => match us, ws, h1, h2 with | [_, _], [], _, _ => rfl) (fun _ _ => .nil) rfl (by decide))).mono (by decide)⟩, A.cl_Number⟩, (show ("__eq__" : Str) ∉ (["low", "high"] : List Str) by decide +kernel)⟩) | (_ + 5), h => (by cases h)⟩, tyf A, fun C f h => (match C, h with | 0, h => ⟨fun t ht => (by simp only [List.mem_cons, List.not_mem_nil, or_false] at ht; rcases ht with rfl | rfl | rfl | rfl | rfl <;> first | exact A.nf_Option_NoneType | exact A.nf_Option_bool | exact A.nf_Option_int | exact A.nf_Option_str | exact A.nf_Option_list), fun C2 h2 => (match C2, h2 with | 0, _ => A.nf_Option_Option | 1, _ => A.nf_Option_Place | 2, _ => A.nf_Option_AnyWord | 3, _ => A.nf_Option_OneOf | 4, _ => A.nf_Option_Number | (_ + 5), h2 => absurd h2 (by simp [cP]))⟩ | 1, h => ⟨fun t ht => (by simp only [List.mem_cons, List.not_mem_nil, or_false] at ht; rcases ht with rfl | rfl | rfl | rfl | rfl <;> first | exact A.nf_Place_NoneType | exact A.nf_Place_bool | exact A.nf_Place_int | exact A.nf_Place_str | exact A.nf_Place_list), fun C2 h2 => (match C2, h2 with | 0, _ => A.nf_Place_Option | 1, _ => A.nf_Place_Place | 2, _ => A.nf_Place_AnyWord | 3, _ => A.nf_Place_OneOf | 4, _ => A.nf_Place_Number | (_ + 5), h2 => absurd h2 (by simp [cP]))⟩ | 2, h => ⟨fun t ht => (by simp only [List.mem_cons, List.not_mem_nil, or_false] at ht; rcases ht with rfl | rfl | rfl | rfl | rfl <;> first | exact A.nf_AnyWord_NoneType | exact A.nf_AnyWord_bool | exact A.nf_AnyWord_int | exact A.nf_AnyWord_str | exact A.nf_AnyWord_list), fun C2 h2 => (match C2, h2 with | 0, _ => A.nf_AnyWord_Option | 1, _ => A.nf_AnyWord_Place | 2, _ => A.nf_AnyWord_AnyWord | 3, _ => A.nf_AnyWord_OneOf | 4, _ => A.nf_AnyWord_Number | (_ + 5), h2 => absurd h2 (by simp [cP]))⟩ | 3, h => ⟨fun t ht => (by simp only [List.mem_cons, List.not_mem_nil, or_false] at ht; rcases ht with rfl | rfl | rfl | rfl | rfl <;> first | exact A.nf_OneOf_NoneType | exact A.nf_OneOf_bool | exact A.nf_OneOf_int | exact A.nf_OneOf_str | exact A.nf_OneOf_list), fun C2 h2 => (match C2, h2 with | 0, _ => A.nf_OneOf_Option | 1, _ => A.nf_OneOf_Place | 2, _ => A.nf_OneOf_AnyWord | 3, _ => A.nf_OneOf_OneOf | 4, _ => A.nf_OneOf_Number | (_ + 5), h2 => absurd h2 (by simp [cP]))⟩ | 4, h => ⟨fun t ht => (by simp only [List.mem_cons, List.not_mem_nil, or_false] at ht; rcases ht with rfl | rfl | rfl | rfl | rfl <;> first | exact A.nf_Number_NoneType | exact A.nf_Number_bool | exact A.nf_Number_int | exact A.nf_Number_str | exact A.nf_Number_list), fun C2 h2 => (match C2, h2 with | 0, _ => A.nf_Number_Option | 1, _ => A.nf_Number_Place | 2, _ => A.nf_Number_AnyWord | 3, _ => A.nf_Number_OneOf | 4, _ => A.nf_Number_Number | (_ + 5), h2 => absurd h2 (by simp [cP]))⟩ | (_ + 5), h => (by cases h)), fun C f h => (match C, h with | 0, h => A.ne_Option | 1, h => A.ne_Place | 2, h => A.ne_AnyWord | 3, h => A.ne_OneOf | 4, h => A.ne_Number | (_ + 5), h => (by cases h)), fun C f h => (match C, h with | 0, h => A.nn_Option | 1, h => A.nn_Place | 2, h => A.nn_AnyWord | 3, h => A.nn_OneOf | 4, h => A.nn_Number | (_ + 5), h => (by cases h))⟩
theorem mo_all_items_1 (A : Alls K mg c) : MtOk P w K mg base (Bc K c) 3 "all_items" [] mt_all_items_1 :=
  ⟨fun C f h => match C, h with | 0, h => (by cases h; exact ⟨⟨⟨_, A.me_Option_all_items, ((form_of (n := 1) (ix := [0]) (dd := []) (o_Option_all_items (P := P) (w := w) (base := base) A) (kbA fun kV doc pm an cdv ct us ws h1 h2 => match us, ws, h1, h2 with | [_], [], _, _ => rfl) (fun _ _ => .nil) rfl (by decide))).mono (by decide)⟩, A.cl_Option⟩, (show ("all_items" : Str) ∉ (["name", "kind", "most"] : List Str) by decide +kernel)⟩) | 1, h => (by cases h) | 2, h => (by cases h) | 3, h => (by cases h) | 4, h => (by cases h) | (_ + 5), h => (by cases h)⟩
theorem sc_law : FnScope ["_law_script", "_law_feed_here", "_law_turn", "_law_names", "_law_opts_here", "_law_late", "_law_opt", "_law_other", "_law_made", "_law_more", "_law_again", "_law_row", "_law_slots_here", "_law_slot", "_law_far", "_law_here", "_law_there", "_law_shown", "_law_plain", "_law_any_z", "_law_found"] ["_law_script"] (defScope s_law) := ⟨rfl, rfl, rfl, by decide +kernel, rfl, by decide +kernel, by decide +kernel⟩
theorem d_law_ok (A : Alls K mg c) (cdv : Value) (A' : Around) (outer : List Env) (s : Shared) (H He : Hp) (E : XK) (f : Addr) (fd : Option (Addr × Addr)) (T : List Addr) (hr : Room 21 (A'.deeper (envOfC "law" (defScope s_law) s.heap.objs.size f cdv))) :
  ESs (cxOf CX0 P w K mg base ["_law_script", "_law_feed_here", "_law_turn", "_law_names", "_law_opts_here", "_law_late", "_law_opt", "_law_other", "_law_made", "_law_more", "_law_again", "_law_row", "_law_slots_here", "_law_slot", "_law_far", "_law_here", "_law_there", "_law_shown", "_law_plain", "_law_any_z", "_law_found"] "law" (defScope s_law) f cdv A' outer s H E).nox ((Bc K c).wf fd) T He (defBody s_law).tail b_law :=
  (es_cons (es_for PassesOwn.never rfl (ei_rg1 (by rfl) A.T.b_range (ea_cons ev_int ea_nil)) (eg_n (i := 2) (.inr rfl) sc_law.nd rfl (by first | exact Or.inl rfl | exact Or.inr rfl))
  (es_cons (es_set (keep := false) (i := 3) (.inr rfl) sc_law.nd rfl (by first | exact Or.inl rfl | exact Or.inr rfl) (ev_cal (B := Bc K c) ⟨rfl, rfl, rfl⟩ (cf__law_dashes_2 A) (hr.mono (by decide)) (by rfl) (ea_cons (ev_nm (i := 1) rfl (by first | exact .inl rfl | exact .inr (.inl rfl) | exact .inr (.inr rfl))) (ea_cons ev_int ea_nil)) ek_nil))
  (es_cons (es_par2 (kx := false) (ky := false) (i := 4) (j := 5) (.inr rfl) (.inr rfl) (by rfl) sc_law.nd rfl rfl (by decide) rfl rfl (ev_cal (B := Bc K c) ⟨rfl, rfl, rfl⟩ (cf__law_opts_2 A) (hr.mono (by decide)) (by rfl) (ea_cons (ev_nm (i := 1) rfl (by first | exact .inl rfl | exact .inr (.inl rfl) | exact .inr (.inr rfl))) (ea_cons (ev_nm (i := 3) rfl (by first | exact .inl rfl | exact .inr (.inl rfl) | exact .inr (.inr rfl))) ea_nil)) ek_nil) (ev_cal (B := Bc K c) ⟨rfl, rfl, rfl⟩ (cf__law_opts_2 A) (hr.mono (by decide)) (by rfl) (ea_cons (ev_nm (i := 1) rfl (by first | exact .inl rfl | exact .inr (.inl rfl) | exact .inr (.inr rfl))) (ea_cons (ev_nm (i := 3) rfl (by first | exact .inl rfl | exact .inr (.inl rfl) | exact .inr (.inr rfl))) ea_nil)) ek_nil) (by rfl))
  (es_cons (es_par2 (kx := false) (ky := false) (i := 6) (j := 7) (.inr rfl) (.inr rfl) (by rfl) sc_law.nd rfl rfl (by decide) rfl rfl (ev_ix rfl (ev_nm (i := 4) rfl (by first | exact .inl rfl | exact .inr (.inl rfl) | exact .inr (.inr rfl))) ev_int) (ev_cal (B := Bc K c) ⟨rfl, rfl, rfl⟩ (cf__law_of_2 A) (hr.mono (by decide)) (by rfl) (ea_cons (ev_nm (i := 1) rfl (by first | exact .inl rfl | exact .inr (.inl rfl) | exact .inr (.inr rfl))) (ea_cons (ev_lst (ea_cons (ev_ix rfl (ev_nm (i := 4) rfl (by first | exact .inl rfl | exact .inr (.inl rfl) | exact .inr (.inr rfl))) ev_int) (ea_cons (ev_ix rfl (ev_nm (i := 5) rfl (by first | exact .inl rfl | exact .inr (.inl rfl) | exact .inr (.inr rfl))) ev_int) (ea_cons (ev_ix rfl (ev_nm (i := 4) rfl (by first | exact .inl rfl | exact .inr (.inl rfl) | exact .inr (.inr rfl))) ev_int) ea_nil)))) ea_nil)) ek_nil) (by rfl))
  (es_cons (es_par2 (kx := false) (ky := false) (i := 8) (j := 9) (.inr rfl) (.inr rfl) (by rfl) sc_law.nd rfl rfl (by decide) rfl rfl (ev_cal (B := Bc K c) ⟨rfl, rfl, rfl⟩ (cf__law_ready_option_1 A) (hr.mono (by decide)) (by rfl) (ea_cons (ev_nm (i := 6) rfl (by first | exact .inl rfl | exact .inr (.inl rfl) | exact .inr (.inr rfl))) ea_nil) ek_nil) (ev_cal (B := Bc K c) ⟨rfl, rfl, rfl⟩ (cf__law_ready_option_1 A) (hr.mono (by decide)) (by rfl) (ea_cons (ev_nm (i := 7) rfl (by first | exact .inl rfl | exact .inr (.inl rfl) | exact .inr (.inr rfl))) ea_nil) ek_nil) (by rfl))
  (es_cons (es_if (et_not (et_val (ev_cal (B := Bc K c) ⟨rfl, rfl, rfl⟩ (cf__law_same_2 A) (hr.mono (by decide)) (by rfl) (ea_cons (ev_lst (ea_cons (ev_fl rfl (SameB.flo (B := Bc K c) ⟨rfl, rfl, rfl⟩ (fl_name A)) (ev_nm (i := 8) rfl (by first | exact .inl rfl | exact .inr (.inl rfl) | exact .inr (.inr rfl)))) (ea_cons (ev_fl rfl (SameB.flo (B := Bc K c) ⟨rfl, rfl, rfl⟩ (fl_most A)) (ev_nm (i := 8) rfl (by first | exact .inl rfl | exact .inr (.inl rfl) | exact .inr (.inr rfl)))) (ea_cons (ev_repr (B := Bc K c) ⟨rfl, rfl, rfl⟩ (mo___repr___1 A) (hr.mono (by decide)) (by rfl) A.T.b_repr (ev_nm (i := 8) rfl (by first | exact .inl rfl | exact .inr (.inl rfl) | exact .inr (.inr rfl)))) (ea_cons (ev_cmp op_isN pr_isN (ev_fl rfl (SameB.flo (B := Bc K c) ⟨rfl, rfl, rfl⟩ (fl_kind A)) (ev_nm (i := 8) rfl (by first | exact .inl rfl | exact .inr (.inl rfl) | exact .inr (.inr rfl)))) ev_non (nomark _)) ea_nil))))) (ea_cons (ev_lst (ea_cons (ev_ix rfl (ev_nm (i := 6) rfl (by first | exact .inl rfl | exact .inr (.inl rfl) | exact .inr (.inr rfl))) ev_int) (ea_cons (ev_ix rfl (ev_nm (i := 6) rfl (by first | exact .inl rfl | exact .inr (.inl rfl) | exact .inr (.inr rfl))) ev_int) (ea_cons (ev_bin op_Add pr_add (ev_bin op_Add pr_add ev_str (ev_ix rfl (ev_nm (i := 6) rfl (by first | exact .inl rfl | exact .inr (.inl rfl) | exact .inr (.inr rfl))) ev_int)) ev_str) (ea_cons (ev_cmp op_isN pr_isN (ev_ix rfl (ev_nm (i := 6) rfl (by first | exact .inl rfl | exact .inr (.inl rfl) | exact .inr (.inr rfl))) ev_int) ev_non (nomark _)) ea_nil))))) ea_nil)) ek_nil))) (es_one (es_ret ev_bl)) es_nil)
  (es_cons (es_if (et_w (ew_and (et_cmp op_notN pr_notN (ev_ix rfl (ev_nm (i := 6) rfl (by first | exact .inl rfl | exact .inr (.inl rfl) | exact .inr (.inr rfl))) ev_int) ev_non (nomark _)) (ew_and1 (et_ne rfl (B := Bc K c) ⟨rfl, rfl, rfl⟩ (eo_all A) (hr.mono (by decide)) (ev_fl rfl (SameB.flo (B := Bc K c) ⟨rfl, rfl, rfl⟩ (fl_kind A)) (ev_nm (i := 8) rfl (by first | exact .inl rfl | exact .inr (.inl rfl) | exact .inr (.inr rfl)))) (ev_cal (B := Bc K c) ⟨rfl, rfl, rfl⟩ (cf__law_ready_kind_1 A) (hr.mono (by decide)) (by rfl) (ea_cons (ev_ix rfl (ev_nm (i := 6) rfl (by first | exact .inl rfl | exact .inr (.inl rfl) | exact .inr (.inr rfl))) ev_int) ea_nil) ek_nil) (nomark _))))) (es_one (es_ret ev_bl)) es_nil)
  (es_cons (es_for PassesOwn.never rfl (ei_rg1 (by rfl) A.T.b_range (ea_cons ev_int ea_nil)) (eg_n (i := 10) (.inr rfl) sc_law.nd rfl (by first | exact Or.inl rfl | exact Or.inr rfl))
  (es_cons (es_set (keep := true) (i := 11) (.inr rfl) sc_law.nd rfl (by first | exact Or.inl rfl | exact Or.inr rfl) (ev_mth0 (B := Bc K c) ⟨rfl, rfl, rfl⟩ (mo_all_items_1 A) (hr.mono (by decide)) (ev_nm (i := 8) rfl (by first | exact .inl rfl | exact .inr (.inl rfl) | exact .inr (.inr rfl))) ek_nil))
  (es_cons (es_if (et_not (et_val (ev_cal (B := Bc K c) ⟨rfl, rfl, rfl⟩ (cf__law_same_2 A) (hr.mono (by decide)) (by rfl) (ea_cons (ev_nm (i := 11) rfl (by first | exact .inl rfl | exact .inr (.inl rfl) | exact .inr (.inr rfl))) (ea_cons (ev_cal (B := Bc K c) ⟨rfl, rfl, rfl⟩ (cf__law_items_1 A) (hr.mono (by decide)) (by rfl) (ea_cons (ev_lst (ea_cons (ev_nm (i := 6) rfl (by first | exact .inl rfl | exact .inr (.inl rfl) | exact .inr (.inr rfl))) ea_nil)) ea_nil) ek_nil) ea_nil)) ek_nil))) (es_one (es_ret ev_bl)) es_nil)
  (es_one (es_app (i := 11) rfl (by first | exact .inl rfl | exact .inr (.inl rfl) | exact .inr (.inr rfl)) (ex_pure ev_str))))))
  (es_cons (es_if (et_w (ew_or (et_cmp (op_neD hr.units) pr_ne (ev_eq rfl (B := Bc K c) ⟨rfl, rfl, rfl⟩ (eo_all A) (hr.mono (by decide)) (ev_nm (i := 8) rfl (by first | exact .inl rfl | exact .inr (.inl rfl) | exact .inr (.inr rfl))) (ev_nm (i := 9) rfl (by first | exact .inl rfl | exact .inr (.inl rfl) | exact .inr (.inr rfl))) (nomark _)) (ev_cmp (op_eqD hr.units) pr_eq (ev_nm (i := 6) rfl (by first | exact .inl rfl | exact .inr (.inl rfl) | exact .inr (.inr rfl))) (ev_nm (i := 7) rfl (by first | exact .inl rfl | exact .inr (.inl rfl) | exact .inr (.inr rfl))) (nomark _)) (nomark _)) (ew_or1 (et_cmp (op_eqD hr.units) pr_eq (ev_ne rfl (B := Bc K c) ⟨rfl, rfl, rfl⟩ (eo_all A) (hr.mono (by decide)) (ev_nm (i := 8) rfl (by first | exact .inl rfl | exact .inr (.inl rfl) | exact .inr (.inr rfl))) (ev_nm (i := 9) rfl (by first | exact .inl rfl | exact .inr (.inl rfl) | exact .inr (.inr rfl))) (nomark _)) (ev_cmp (op_eqD hr.units) pr_eq (ev_nm (i := 6) rfl (by first | exact .inl rfl | exact .inr (.inl rfl) | exact .inr (.inr rfl))) (ev_nm (i := 7) rfl (by first | exact .inl rfl | exact .inr (.inl rfl) | exact .inr (.inr rfl))) (nomark _)) (nomark _))))) (es_one (es_ret ev_bl)) es_nil)
  (es_cons (es_set (keep := false) (i := 12) (.inr rfl) sc_law.nd rfl (by first | exact Or.inl rfl | exact Or.inr rfl) (ev_cal (B := Bc K c) ⟨rfl, rfl, rfl⟩ (cf__law_slots_2 A) (hr.mono (by decide)) (by rfl) (ea_cons (ev_nm (i := 1) rfl (by first | exact .inl rfl | exact .inr (.inl rfl) | exact .inr (.inr rfl))) (ea_cons ev_int ea_nil)) ek_nil))
  (es_cons (es_par2 (kx := false) (ky := false) (i := 13) (j := 14) (.inr rfl) (.inr rfl) (by rfl) sc_law.nd rfl rfl (by decide) rfl rfl (ev_ix rfl (ev_nm (i := 12) rfl (by first | exact .inl rfl | exact .inr (.inl rfl) | exact .inr (.inr rfl))) ev_int) (ev_cal (B := Bc K c) ⟨rfl, rfl, rfl⟩ (cf__law_of_2 A) (hr.mono (by decide)) (by rfl) (ea_cons (ev_nm (i := 1) rfl (by first | exact .inl rfl | exact .inr (.inl rfl) | exact .inr (.inr rfl))) (ea_cons (ev_nm (i := 12) rfl (by first | exact .inl rfl | exact .inr (.inl rfl) | exact .inr (.inr rfl))) ea_nil)) ek_nil) (by rfl))
  (es_cons (es_par2 (kx := false) (ky := false) (i := 15) (j := 16) (.inr rfl) (.inr rfl) (by rfl) sc_law.nd rfl rfl (by decide) rfl rfl (ev_cal (B := Bc K c) ⟨rfl, rfl, rfl⟩ (cf__law_ready_place_1 A) (hr.mono (by decide)) (by rfl) (ea_cons (ev_nm (i := 13) rfl (by first | exact .inl rfl | exact .inr (.inl rfl) | exact .inr (.inr rfl))) ea_nil) ek_nil) (ev_cal (B := Bc K c) ⟨rfl, rfl, rfl⟩ (cf__law_ready_place_1 A) (hr.mono (by decide)) (by rfl) (ea_cons (ev_nm (i := 14) rfl (by first | exact .inl rfl | exact .inr (.inl rfl) | exact .inr (.inr rfl))) ea_nil) ek_nil) (by rfl))
  (es_cons (es_set (keep := false) (i := 17) (.inr rfl) sc_law.nd rfl (by first | exact Or.inl rfl | exact Or.inr rfl) (ev_bin op_Add pr_add (ev_bin op_Add pr_add (ev_bin op_Add pr_add (ev_bin op_Add pr_add (ev_mth0 (B := Bc K c) ⟨rfl, rfl, rfl⟩ (mo_text_1 A) (hr.mono (by decide)) (ev_fl rfl (SameB.flo (B := Bc K c) ⟨rfl, rfl, rfl⟩ (fl_kind A)) (ev_nm (i := 15) rfl (by first | exact .inl rfl | exact .inr (.inl rfl) | exact .inr (.inr rfl)))) ek_nil) ev_str) (ev_cT call_str pr_str (by rfl) A.T.b_str (by decide +kernel) (ea_cons (ev_ix rfl (ev_nm (i := 13) rfl (by first | exact .inl rfl | exact .inr (.inl rfl) | exact .inr (.inr rfl))) ev_int) ea_nil))) ev_str) (ev_cT call_str pr_str (by rfl) A.T.b_str (by decide +kernel) (ea_cons (ev_ix rfl (ev_nm (i := 13) rfl (by first | exact .inl rfl | exact .inr (.inl rfl) | exact .inr (.inr rfl))) ev_int) ea_nil))))
  (es_cons (es_if (et_not (et_val (ev_cal (B := Bc K c) ⟨rfl, rfl, rfl⟩ (cf__law_same_2 A) (hr.mono (by decide)) (by rfl) (ea_cons (ev_lst (ea_cons (ev_fl rfl (SameB.flo (B := Bc K c) ⟨rfl, rfl, rfl⟩ (fl_least A)) (ev_nm (i := 15) rfl (by first | exact .inl rfl | exact .inr (.inl rfl) | exact .inr (.inr rfl)))) (ea_cons (ev_fl rfl (SameB.flo (B := Bc K c) ⟨rfl, rfl, rfl⟩ (fl_most A)) (ev_nm (i := 15) rfl (by first | exact .inl rfl | exact .inr (.inl rfl) | exact .inr (.inr rfl)))) (ea_cons (ev_repr (B := Bc K c) ⟨rfl, rfl, rfl⟩ (mo___repr___1 A) (hr.mono (by decide)) (by rfl) A.T.b_repr (ev_nm (i := 15) rfl (by first | exact .inl rfl | exact .inr (.inl rfl) | exact .inr (.inr rfl)))) (ea_cons (ev_eq rfl (B := Bc K c) ⟨rfl, rfl, rfl⟩ (eo_all A) (hr.mono (by decide)) (ev_nm (i := 15) rfl (by first | exact .inl rfl | exact .inr (.inl rfl) | exact .inr (.inr rfl))) (ev_nm (i := 16) rfl (by first | exact .inl rfl | exact .inr (.inl rfl) | exact .inr (.inr rfl))) (nomark _)) (ea_cons (ev_ne rfl (B := Bc K c) ⟨rfl, rfl, rfl⟩ (eo_all A) (hr.mono (by decide)) (ev_nm (i := 15) rfl (by first | exact .inl rfl | exact .inr (.inl rfl) | exact .inr (.inr rfl))) (ev_nm (i := 16) rfl (by first | exact .inl rfl | exact .inr (.inl rfl) | exact .inr (.inr rfl))) (nomark _)) ea_nil)))))) (ea_cons (ev_lst (ea_cons (ev_ix rfl (ev_nm (i := 13) rfl (by first | exact .inl rfl | exact .inr (.inl rfl) | exact .inr (.inr rfl))) ev_int) (ea_cons (ev_ix rfl (ev_nm (i := 13) rfl (by first | exact .inl rfl | exact .inr (.inl rfl) | exact .inr (.inr rfl))) ev_int) (ea_cons (ev_bin op_Add pr_add (ev_bin op_Add pr_add ev_str (ev_nm (i := 17) rfl (by first | exact .inl rfl | exact .inr (.inl rfl) | exact .inr (.inr rfl)))) ev_str) (ea_cons (ev_cmp (op_eqD hr.units) pr_eq (ev_nm (i := 13) rfl (by first | exact .inl rfl | exact .inr (.inl rfl) | exact .inr (.inr rfl))) (ev_nm (i := 14) rfl (by first | exact .inl rfl | exact .inr (.inl rfl) | exact .inr (.inr rfl))) (nomark _)) (ea_cons (ev_cmp (op_neD hr.units) pr_ne (ev_nm (i := 13) rfl (by first | exact .inl rfl | exact .inr (.inl rfl) | exact .inr (.inr rfl))) (ev_nm (i := 14) rfl (by first | exact .inl rfl | exact .inr (.inl rfl) | exact .inr (.inr rfl))) (nomark _)) ea_nil)))))) ea_nil)) ek_nil))) (es_one (es_ret ev_bl)) es_nil)
  (es_one (es_if (et_w (ew_or (et_ne rfl (B := Bc K c) ⟨rfl, rfl, rfl⟩ (eo_all A) (hr.mono (by decide)) (ev_fl rfl (SameB.flo (B := Bc K c) ⟨rfl, rfl, rfl⟩ (fl_kind A)) (ev_nm (i := 15) rfl (by first | exact .inl rfl | exact .inr (.inl rfl) | exact .inr (.inr rfl)))) (ev_cal (B := Bc K c) ⟨rfl, rfl, rfl⟩ (cf__law_ready_kind_1 A) (hr.mono (by decide)) (by rfl) (ea_cons (ev_ix rfl (ev_nm (i := 13) rfl (by first | exact .inl rfl | exact .inr (.inl rfl) | exact .inr (.inr rfl))) ev_int) ea_nil) ek_nil) (nomark _)) (ew_or (et_eq rfl (B := Bc K c) ⟨rfl, rfl, rfl⟩ (eo_all A) (hr.mono (by decide)) (ev_nm (i := 8) rfl (by first | exact .inl rfl | exact .inr (.inl rfl) | exact .inr (.inr rfl))) (ev_nm (i := 15) rfl (by first | exact .inl rfl | exact .inr (.inl rfl) | exact .inr (.inr rfl))) (nomark _)) (ew_or1 (et_eq rfl (B := Bc K c) ⟨rfl, rfl, rfl⟩ (eo_all A) (hr.mono (by decide)) (ev_nm (i := 15) rfl (by first | exact .inl rfl | exact .inr (.inl rfl) | exact .inr (.inr rfl))) (ev_ix rfl (ev_nm (i := 6) rfl (by first | exact .inl rfl | exact .inr (.inl rfl) | exact .inr (.inr rfl))) ev_int) (nomark _)))))) (es_one (es_ret ev_bl)) es_nil))))))))))))))))
  (es_cons (es_par2 (kx := false) (ky := false) (i := 18) (j := 19) (.inr rfl) (.inr rfl) (by rfl) sc_law.nd rfl rfl (by decide) rfl rfl (ev_new (C := 0) (B := Bc K c) ⟨rfl, rfl, rfl⟩ (mk_Option_1 A) (hr.mono (by decide)) (by rfl) (ea_cons ev_str ea_nil) ek_nil) (ev_new (C := 1) (B := Bc K c) ⟨rfl, rfl, rfl⟩ (mk_Place_1 A) (hr.mono (by decide)) (by rfl) (ea_cons (ev_new00 (B := Bc K c) (C := 2) ⟨rfl, rfl, rfl⟩ A.m_AnyWord (by rfl)) ea_nil) ek_nil) (by rfl))
  (es_cons (es_set (keep := false) (i := 20) (.inr rfl) sc_law.nd rfl (by first | exact Or.inl rfl | exact Or.inr rfl) (ev_lst (ea_cons (ev_fl rfl (SameB.flo (B := Bc K c) ⟨rfl, rfl, rfl⟩ (fl_kind A)) (ev_nm (i := 18) rfl (by first | exact .inl rfl | exact .inr (.inl rfl) | exact .inr (.inr rfl)))) (ea_cons (ev_fl rfl (SameB.flo (B := Bc K c) ⟨rfl, rfl, rfl⟩ (fl_most A)) (ev_nm (i := 18) rfl (by first | exact .inl rfl | exact .inr (.inl rfl) | exact .inr (.inr rfl)))) (ea_cons (ev_mth0 (B := Bc K c) ⟨rfl, rfl, rfl⟩ (mo_all_items_1 A) (hr.mono (by decide)) (ev_nm (i := 18) rfl (by first | exact .inl rfl | exact .inr (.inl rfl) | exact .inr (.inr rfl))) ek_nil) (ea_cons (ev_fl rfl (SameB.flo (B := Bc K c) ⟨rfl, rfl, rfl⟩ (fl_least A)) (ev_nm (i := 19) rfl (by first | exact .inl rfl | exact .inr (.inl rfl) | exact .inr (.inr rfl)))) (ea_cons (ev_fl rfl (SameB.flo (B := Bc K c) ⟨rfl, rfl, rfl⟩ (fl_most A)) (ev_nm (i := 19) rfl (by first | exact .inl rfl | exact .inr (.inl rfl) | exact .inr (.inr rfl)))) ea_nil)))))))
  (es_one (es_ret (ev_cal (B := Bc K c) ⟨rfl, rfl, rfl⟩ (cf__law_same_2 A) (hr.mono (by decide)) (by rfl) (ea_cons (ev_nm (i := 20) rfl (by first | exact .inl rfl | exact .inr (.inl rfl) | exact .inr (.inr rfl))) (ea_cons (ev_lst (ea_cons ev_non (ea_cons ev_int (ea_cons (ev_lst (ea_cons ev_str ea_nil)) (ea_cons ev_int (ea_cons ev_int ea_nil)))))) ea_nil)) ek_nil))))))
abbrev lawRoom : Nat := 21
abbrev lawN : List Str := ["_law_script", "_law_feed_here", "_law_turn", "_law_names", "_law_opts_here", "_law_late", "_law_opt", "_law_other", "_law_made", "_law_more", "_law_again", "_law_row", "_law_slots_here", "_law_slot", "_law_far", "_law_here", "_law_there", "_law_shown", "_law_plain", "_law_any_z", "_law_found"]
abbrev lawNames : Nat := 21
end
--NF Option:Option,Option:Place,Option:AnyWord,Option:OneOf,Option:Number,Place:Option,Place:Place,Place:AnyWord,Place:OneOf,Place:Number,AnyWord:Option,AnyWord:Place,AnyWord:AnyWord,AnyWord:OneOf,AnyWord:Number,OneOf:Option,OneOf:Place,OneOf:AnyWord,OneOf:OneOf,OneOf:Number,Number:Option,Number:Place,Number:AnyWord,Number:OneOf,Number:Number
end Toy
namespace Toy
open PySem PySem.Spec L2 G
open PyProof.Rows hiding St
/-! ### the law's draws, as runs -/
theorem of_wpL {ds : List D} {Q : R → Prop} (h0 : 0 < ds.length) (h1 : ds.length < 1000) (q : ∀ d ∈ ds, Q (.dt d)) : (f__law_of [.feed, .lst ds]).ok Q := by
  have hm : (0 : Int) < ds.length ∧ (ds.length : Int) < 1000 := by omega
  simp [sNm, sK, sAnd, sOr, sNot, sIf, tAndB, tOrB, tNotB, sB, s2, sN, sM, sCh, sCons, sNil, sLst, sTup, sFl, flD, sSl, sPo, sStar, starD, X.fz, sRet, sSeq, sIfS, sSkip, sNev, sAsg, asgX, sAsgT, sPar2, sStF, putD, Tg.asg, setG, fin1, finI, runB, runI, frame, runF, runStarI, permute, sCal, sMth, sNew, sNew0, sEq, sUnI, sIsi, isND, D.isN, isBD, bStr, bInt, bBool, bList, bTuple, D.flat, List.filterMap, List.replicate, f__law_of, b__law_of, semTake, lenD, hm, h0, h1, M.ok_bind]
  intro r hr
  obtain ⟨d, hd⟩ : ∃ d, ds[r]? = some d := ⟨ds[r]'(by omega), List.getElem?_eq_getElem (by omega)⟩
  have := atI_nat hd
  simp [sNm, sK, sAnd, sOr, sNot, sIf, tAndB, tOrB, tNotB, sB, s2, sN, sM, sCh, sCons, sNil, sLst, sTup, sFl, flD, sSl, sPo, sStar, starD, X.fz, sRet, sSeq, sIfS, sSkip, sNev, sAsg, asgX, sAsgT, sPar2, sStF, putD, Tg.asg, setG, fin1, finI, runB, runI, frame, runF, runStarI, permute, sCal, sMth, sNew, sNew0, sEq, sUnI, sIsi, isND, D.isN, isBD, bStr, bInt, bBool, bList, bTuple, D.flat, List.filterMap, List.replicate, ixD, this]
  exact q d (List.mem_of_getElem? hd)
theorem of_wpT {ds : List D} {Q : R → Prop} (h0 : 0 < ds.length) (h1 : ds.length < 1000) (q : ∀ d ∈ ds, Q (.dt d)) : (f__law_of [.feed, .tup ds]).ok Q := by
  have hm : (0 : Int) < ds.length ∧ (ds.length : Int) < 1000 := by omega
  simp [sNm, sK, sAnd, sOr, sNot, sIf, tAndB, tOrB, tNotB, sB, s2, sN, sM, sCh, sCons, sNil, sLst, sTup, sFl, flD, sSl, sPo, sStar, starD, X.fz, sRet, sSeq, sIfS, sSkip, sNev, sAsg, asgX, sAsgT, sPar2, sStF, putD, Tg.asg, setG, fin1, finI, runB, runI, frame, runF, runStarI, permute, sCal, sMth, sNew, sNew0, sEq, sUnI, sIsi, isND, D.isN, isBD, bStr, bInt, bBool, bList, bTuple, D.flat, List.filterMap, List.replicate, f__law_of, b__law_of, semTake, lenD, hm, h0, h1, M.ok_bind]
  intro r hr
  obtain ⟨d, hd⟩ : ∃ d, ds[r]? = some d := ⟨ds[r]'(by omega), List.getElem?_eq_getElem (by omega)⟩
  have := atI_nat hd
  simp [sNm, sK, sAnd, sOr, sNot, sIf, tAndB, tOrB, tNotB, sB, s2, sN, sM, sCh, sCons, sNil, sLst, sTup, sFl, flD, sSl, sPo, sStar, starD, X.fz, sRet, sSeq, sIfS, sSkip, sNev, sAsg, asgX, sAsgT, sPar2, sStF, putD, Tg.asg, setG, fin1, finI, runB, runI, frame, runF, runStarI, permute, sCal, sMth, sNew, sNew0, sEq, sUnI, sIsi, isND, D.isN, isBD, bStr, bInt, bBool, bList, bTuple, D.flat, List.filterMap, List.replicate, ixD, this]
  exact q d (List.mem_of_getElem? hd)
theorem pys_of {ds : List D} (h : ∀ d ∈ ds, ∃ x, d.py = some x ∧ x.depth ≤ 50) : ∃ xs, D.pys ds = some xs ∧ xs.length = ds.length ∧ PyData.depthAll xs ≤ 50 := by
  induction ds with
  | nil => exact ⟨[], rfl, rfl, by decide⟩
  | cons d ds ih =>
    obtain ⟨x, h1, h2⟩ := h d (List.mem_cons_self ..)
    obtain ⟨xs, h3, h4, h5⟩ := ih fun e he => h e (List.mem_cons_of_mem _ he)
    refine ⟨x :: xs, by simp only [D.pys, h1, h3], by rw [List.length_cons, List.length_cons, h4], ?_⟩
    unfold PyData.depthAll
    omega
/-- row != [] -/
theorem row_ne {ds : List D} (h : ∀ d ∈ ds, ∃ x, d.py = some x ∧ x.depth ≤ 50) : eqPy true (.lst ds) (.lst []) = .ret (.at (.bl (decide (ds ≠ [])))) := by
  obtain ⟨xs, h3, h4, h5⟩ := pys_of h
  unfold eqPy
  simp only [D.py, h3, D.pys, Option.map_some]
  have hd : (PyData.list xs).depth ≤ 60 := by unfold PyData.depth; omega
  rw [if_pos ⟨hd, by decide⟩]
  cases ds with
  | nil => cases xs with
    | nil => rfl
    | cons x xs => cases h4
  | cons d ds => cases xs with
    | nil => cases h4
    | cons x xs => rfl
theorem perm_erase {α : Type} {e : α} : ∀ {xs : List α} {r : Nat}, xs[r]? = some e → (e :: xs.eraseIdx r).Perm xs
  | [], r, h => by simp at h
  | x :: xs, 0, h => by simp at h; subst h; exact .refl _
  | x :: xs, r + 1, h => by
    simp only [List.getElem?_cons_succ] at h
    rw [List.eraseIdx_cons_succ]
    exact (List.Perm.swap x e _).trans ((perm_erase h).cons x)
theorem mixed_loop (feedS : Sl) (some_ : Sl) (hf : feedS = .v .feed) {Q : Fl × List Sl → Prop} : ∀ (n : Nat) (row found : List D), row.length < n → row.length < 1000 → found.length + row.length ≤ 1000 → (∀ d ∈ row, ∃ x, d.py = some x ∧ x.depth ≤ 50) →
    (∀ ys, ys.Perm (found ++ row) → Q (.nx, [feedS, some_, .c (.l []), .c (.l ys)])) →
    (whileL (sB (s2 (eqPy true) (sNm 2) (sLst sNil))) (sApp 3 (xPop 2 (sCal 0 semTake (sCons (sNm 0) (sCons (sN lenD (sCons (sNm 2) sNil)) sNil)) sNil))) n [feedS, some_, .c (.l row), .c (.l found)]).ok Q := by
  subst hf
  intro n
  induction n with
  | zero => intro row found h; omega
  | succ n ih =>
    intro row found hn h1 h2 hp q
    unfold whileL
    have ht : sB (s2 (eqPy true) (sNm 2) (sLst sNil)) [.v .feed, some_, .c (.l row), .c (.l found)] = .ret (decide (row ≠ [])) := by
      simp [sNm, sK, sAnd, sOr, sNot, sIf, tAndB, tOrB, tNotB, sB, s2, sN, sM, sCh, sCons, sNil, sLst, sTup, sFl, flD, sSl, sPo, sStar, starD, X.fz, sRet, sSeq, sIfS, sSkip, sNev, sAsg, asgX, sAsgT, sPar2, sStF, putD, Tg.asg, setG, fin1, finI, runB, runI, frame, runF, runStarI, permute, sCal, sMth, sNew, sNew0, sEq, sUnI, sIsi, isND, D.isN, isBD, bStr, bInt, bBool, bList, bTuple, D.flat, List.filterMap, List.replicate, row_ne hp]
    rw [ht]
    simp only [M.bind_ret]
    cases row with
    | nil =>
      rw [if_neg (by decide)]
      exact M.ok_of rfl (q _ (by rw [List.append_nil]))
    | cons d ds =>
      rw [if_pos (by simp)]
      have hl : 0 < (d :: ds).length := Nat.succ_pos _
      simp only [M.ok_bind]
      have e1 : (0 : Int) < ((d :: ds).length : Int) ∧ ((d :: ds).length : Int) < 1000 := by omega
      simp only [sApp, xPop, sCal, sCons, sNil, sNm, sN, lenD, semTake, List.getElem?_cons_succ, List.getElem?_cons_zero, M.bind_ret, M.bind_draw, List.map_cons, List.map_nil, toD_p, toD_b, O_l, fin_at]
      rw [if_pos (by omega : (d :: ds).length ≤ 100000), if_neg (by simp), if_pos e1]
      simp only [M.bind_draw, M.bind_ret, M.ok_draw, Int.toNat_natCast, fin_at, toD_p]
      intro r hr
      obtain ⟨e, he⟩ : ∃ e, (d :: ds)[r]? = some e := ⟨(d :: ds)[r]'hr, List.getElem?_eq_getElem hr⟩
      have hx : ixN (d :: ds).length (r : Int) = some r := by
        unfold ixN
        rw [if_pos (by omega), if_pos (by omega)]
        rfl
      simp only [popL, hx, he, M.bind_ret, List.set_cons_succ, List.set_cons_zero, List.getElem?_cons_succ, List.getElem?_cons_zero]
      rw [if_pos (by omega)]
      simp only [M.ok_ret]
      have hle : ((d :: ds).eraseIdx r).length + 1 = (d :: ds).length := by rw [List.length_eraseIdx, if_pos hr]; omega
      refine ih _ _ (by omega) (by omega) (by rw [List.length_append, List.length_singleton]; omega) (fun x hx => hp x (List.mem_of_mem_eraseIdx hx)) fun ys hy => q ys (hy.trans ?_)
      rw [List.append_assoc, List.singleton_append]
      refine List.Perm.append_left _ ?_
      exact perm_erase he
theorem mixed_wp {ds : List D} {Q : R → Prop} (h1 : ds.length < 70) (hp : ∀ d ∈ ds, ∃ x, d.py = some x ∧ x.depth ≤ 50) (q : ∀ ys, ys.Perm ds → Q (.nw (.l ys))) : (f__law_mixed [.feed, .lst ds]).ok Q := by
  simp [sNm, sK, sAnd, sOr, sNot, sIf, tAndB, tOrB, tNotB, sB, s2, sN, sM, sCh, sCons, sNil, sLst, sTup, sFl, flD, sSl, sPo, sStar, starD, X.fz, sRet, sSeq, sIfS, sSkip, sNev, sAsg, asgX, sAsgT, sPar2, sStF, putD, Tg.asg, setG, fin1, finI, runB, runI, frame, runF, runStarI, permute, sCal, sMth, sNew, sNew0, sEq, sUnI, sIsi, isND, D.isN, isBD, bStr, bInt, bBool, bList, bTuple, D.flat, List.filterMap, List.replicate, f__law_mixed, b__law_mixed, listD, M.ok_bind]
  refine mixed_loop (.v .feed) (.v (.lst ds)) rfl 70 ds [] h1 (by omega) (by simp; omega) hp fun ys hy => ?_
  simp [sNm, sK, sAnd, sOr, sNot, sIf, tAndB, tOrB, tNotB, sB, s2, sN, sM, sCh, sCons, sNil, sLst, sTup, sFl, flD, sSl, sPo, sStar, starD, X.fz, sRet, sSeq, sIfS, sSkip, sNev, sAsg, asgX, sAsgT, sPar2, sStF, putD, Tg.asg, setG, fin1, finI, runB, runI, frame, runF, runStarI, permute, sCal, sMth, sNew, sNew0, sEq, sUnI, sIsi, isND, D.isN, isBD, bStr, bInt, bBool, bList, bTuple, D.flat, List.filterMap, List.replicate]
  exact q ys (by simpa using hy)
theorem perm_map {α β : Type} {f : α → β} {xs : List α} {ys : List β} (h : ys.Perm (xs.map f)) : ∃ zs : List α, ys = zs.map f ∧ zs.Perm xs := by
  generalize e : xs.map f = ws at h
  induction h generalizing xs with
  | nil => cases xs with
    | nil => exact ⟨[], rfl, .nil⟩
    | cons x xs => simp at e
  | @cons z l1 l2 h ih => cases xs with
    | nil => simp at e
    | cons y xs =>
      simp at e
      obtain ⟨zs, rfl, hz⟩ := ih e.2
      exact ⟨y :: zs, by rw [List.map_cons, e.1], hz.cons y⟩
  | swap x y l => match xs, e with
    | a :: b :: xs, e =>
      simp at e
      exact ⟨b :: a :: xs, by simp [e], List.Perm.swap a b xs⟩
  | trans h1 h2 ih1 ih2 =>
    obtain ⟨zs, rfl, hz⟩ := ih2 e
    obtain ⟨us, rfl, hu⟩ := ih1 rfl
    exact ⟨us, rfl, hu.trans hz⟩
end Toy
namespace Toy
open PySem PySem.Spec L2 G
open PyProof.Rows hiding St
/-! ### what the law draws -/
def menu : List Str := ["a", "b", "on", "off", "5", "7", "12", "x-y", "a0", "007", "q9z", "0"]
def pairsW : List (List Str) := menu.map (fun a => [a]) ++ (menu.map fun a => (menu.filter fun b => leS a b && !(decide (a = b))).map fun b => [a, b]).flatten
def ofK (ws : List Str) : D := .tup [.str "of", .tup (ws.map .str)]
def allKinds : List D := .tup [.str "any"] :: ((([0, 1, 5] : List Int).map fun l => ([5, 9, 99999] : List Int).map fun h => D.tup [.str "num", .int l, .int h]).flatten ++ pairsW.map ofK)
def sorts : List D := .non :: allKinds
def dn : List Str := ["-a", "-b", "-all", "-abc", "-on"]
def koS : D → D
  | .tup [_, .int l, .int h] => .ins 4 [.int l, .int h]
  | .tup [_, .tup ws] => .ins 3 [.tup ws]
  | .tup [_] => .ins 2 []
  | _ => .non
def wsS : D → List D
  | .tup [_, .tup ws] => ws
  | _ => []
theorem eq_str {neg : Bool} {a b : Str} : eqPy neg (.str a) (.str b) = .ret (.at (.bl (neg != decide (a = b)))) := by
  show (if 0 ≤ 60 ∧ 0 ≤ 60 then M.ret (R.at (D.bl (neg != (a == b)))) else M.fail) = _
  rw [if_pos (by decide)]
  have e : (a == b) = decide (a = b) := by first | rfl | (by_cases h : a = b <;> simp [h])
  rw [e]
theorem eq_int {neg : Bool} {a b : Int} : eqPy neg (.int a) (.int b) = .ret (.at (.bl (neg != decide (a = b)))) := by
  show (if 0 ≤ 60 ∧ 0 ≤ 60 then M.ret (R.at (D.bl (neg != (a == b)))) else M.fail) = _
  rw [if_pos (by decide)]
  have e : (a == b) = decide (a = b) := by first | rfl | (by_cases h : a = b <;> simp [h])
  rw [e]
theorem eq_bl {neg : Bool} {a b : Bool} : eqPy neg (.bl a) (.bl b) = .ret (.at (.bl (neg != (a == b)))) := by
  show (if 0 ≤ 60 ∧ 0 ≤ 60 then M.ret (R.at (D.bl (neg != (a == b)))) else M.fail) = _
  rw [if_pos (by decide)]
/-- the words of a drawn kind -/
theorem of_mem : ∀ a ∈ menu, ∀ b ∈ menu, a ≠ b → ofK (sortS [a, b]) ∈ allKinds ∧ ofK (sortS [a]) ∈ allKinds := by
  have h : menu.all (fun a => menu.all fun b => decide (a = b) || (allKinds.any (fun k => D.eqb (ofK (sortS [a, b])) k) && allKinds.any (fun k => D.eqb (ofK (sortS [a])) k))) = true := by decide +kernel
  intro a ha b hb ne
  have := List.all_eq_true.mp (List.all_eq_true.mp h a ha) b hb
  rw [Bool.or_eq_true, Bool.and_eq_true] at this
  rcases this with e | ⟨e1, e2⟩
  · exact absurd (of_decide_eq_true e) ne
  · obtain ⟨k, hk, e⟩ := List.any_eq_true.mp e1
    obtain ⟨k2, hk2, e3⟩ := List.any_eq_true.mp e2
    exact ⟨D.eqb_eq e ▸ hk, D.eqb_eq e3 ▸ hk2⟩
/-- what is known of every sort -/
def sortOk (k : D) : Bool := (match (f__law_ready_kind [k]).val with | some z => D.eqb z.toD (koS k) | none => false) && (match k.py with | some x => decide (x.depth ≤ 20) | none => false)
theorem sorts_ok : sorts.all sortOk = true := by decide +kernel
theorem ready_ok {k : D} (h : k ∈ sorts) : ∃ z, f__law_ready_kind [k] = .ret z ∧ z.toD = koS k := by
  have := List.all_eq_true.mp sorts_ok k h
  unfold sortOk at this
  rw [Bool.and_eq_true] at this
  obtain ⟨h1, _⟩ := this
  split at h1
  · rename_i z hz
    exact ⟨z, M.of_val hz, D.eqb_eq h1⟩
  · cases h1
theorem py_ok {k : D} (h : k ∈ sorts) : ∃ x, k.py = some x ∧ x.depth ≤ 20 := by
  have := List.all_eq_true.mp sorts_ok k h
  unfold sortOk at this
  rw [Bool.and_eq_true] at this
  obtain ⟨_, h1⟩ := this
  split at h1
  · rename_i z hz
    exact ⟨z, hz, of_decide_eq_true h1⟩
  · cases h1
end Toy
namespace Toy
open PySem PySem.Spec L2 G
open PyProof.Rows hiding St
theorem words_wp {m : Int} (hm : m = 1 ∨ m = 2) {Q : R → Prop} (q : ∀ a ∈ menu, ∀ b ∈ menu, a ≠ b → Q (.nw (.l (if m = 1 then [.str a] else [.str a, .str b])))) : (f__law_plain_words [.feed, .int m]).ok Q := by
  simp [sNm, sK, sAnd, sOr, sNot, sIf, tAndB, tOrB, tNotB, sB, s2, sN, sM, sCh, sCons, sNil, sLst, sTup, sFl, flD, sSl, sPo, sStar, starD, X.fz, sRet, sSeq, sIfS, sSkip, sNev, sAsg, asgX, sAsgT, sPar2, sStF, putD, Tg.asg, setG, fin1, finI, runB, runI, frame, runF, runStarI, permute, sCal, sMth, sNew, sNew0, sEq, sUnI, sIsi, isND, D.isN, isBD, bStr, bInt, bBool, bList, bTuple, D.flat, List.filterMap, List.replicate, f__law_plain_words, b__law_plain_words, M.ok_bind]
  refine mixed_wp (by decide) (fun d hd => ?_) fun ys hy => ?_
  · simp at hd
    rcases hd with rfl | rfl | rfl | rfl | rfl | rfl | rfl | rfl | rfl | rfl | rfl | rfl <;> exact ⟨_, rfl, by decide⟩
  · have hy' : ys.Perm (menu.map D.str) := hy
    obtain ⟨zs, rfl, hz⟩ : ∃ zs : List Str, ys = zs.map D.str ∧ zs.Perm menu := perm_map hy'
    have hl : zs.length = 12 := hz.length_eq
    obtain ⟨a, b, rest, rfl⟩ : ∃ a b rest, zs = a :: b :: rest := by
      match zs, hl with
      | a :: b :: rest, _ => exact ⟨a, b, rest, rfl⟩
    have hnd : (a :: b :: rest).Nodup := (List.Perm.nodup_iff hz).mpr (by decide +kernel)
    have key := q a (hz.mem_iff.mp (by simp)) b (hz.mem_iff.mp (by simp)) (fun e => by subst e; simp at hnd)
    have hr : rest.length = 10 := by simpa using hl
    rcases hm with rfl | rfl
    · have e : G.cutD ((a :: b :: rest).map D.str) none (some 1) = [.str a] := by
        unfold G.cutD
        rw [List.length_map, hl]
        rfl
      simp [sNm, sK, sAnd, sOr, sNot, sIf, tAndB, tOrB, tNotB, sB, s2, sN, sM, sCh, sCons, sNil, sLst, sTup, sFl, flD, sSl, sPo, sStar, starD, X.fz, sRet, sSeq, sIfS, sSkip, sNev, sAsg, asgX, sAsgT, sPar2, sStF, putD, Tg.asg, setG, fin1, finI, runB, runI, frame, runF, runStarI, permute, sCal, sMth, sNew, sNew0, sEq, sUnI, sIsi, isND, D.isN, isBD, bStr, bInt, bBool, bList, bTuple, D.flat, List.filterMap, List.replicate, slD, e]
      exact key
    · have e : G.cutD ((a :: b :: rest).map D.str) none (some 2) = [.str a, .str b] := by
        unfold G.cutD
        rw [List.length_map, hl]
        rfl
      simp [sNm, sK, sAnd, sOr, sNot, sIf, tAndB, tOrB, tNotB, sB, s2, sN, sM, sCh, sCons, sNil, sLst, sTup, sFl, flD, sSl, sPo, sStar, starD, X.fz, sRet, sSeq, sIfS, sSkip, sNev, sAsg, asgX, sAsgT, sPar2, sStF, putD, Tg.asg, setG, fin1, finI, runB, runI, frame, runF, runStarI, permute, sCal, sMth, sNew, sNew0, sEq, sUnI, sIsi, isND, D.isN, isBD, bStr, bInt, bBool, bList, bTuple, D.flat, List.filterMap, List.replicate, slD, e]
      exact key
theorem num_mem : ∀ l ∈ ([0, 1, 5] : List Int), ∀ h ∈ ([5, 9, 99999] : List Int), D.tup [.str "num", .int l, .int h] ∈ allKinds := by
  have h : ([0, 1, 5] : List Int).all (fun l => ([5, 9, 99999] : List Int).all fun h => allKinds.any fun k => D.eqb (D.tup [.str "num", .int l, .int h]) k) = true := by decide +kernel
  intro l hl x hx
  obtain ⟨k, hk, e⟩ := List.any_eq_true.mp (List.all_eq_true.mp (List.all_eq_true.mp h l hl) x hx)
  exact D.eqb_eq e ▸ hk
theorem kind_wp {Q : R → Prop} (q : ∀ k ∈ allKinds, Q (.dt k)) : (f__law_kind [.feed]).ok Q := by
  have hany : D.tup [.str "any"] ∈ allKinds := List.mem_cons_self ..
  have two : ∀ (n : Nat), n < 2 → (addD (.int 1) (.int (n : Nat))).ok fun a => (f__law_plain_words [.feed, a.toD]).ok fun a => (sortedD [a.toD]).ok fun a => (tupleD [a.toD]).ok fun a => Q (.dt (.tup [.str "of", a.toD])) := by
    intro n hn
    have e : addD (.int 1) (.int (n : Nat)) = .ret (.at (.int (1 + n))) := rfl
    rw [e]
    simp only [M.ok_ret, RtoD_at]
    refine words_wp (by omega) fun a ha b hb ne => ?_
    obtain ⟨m2, m1⟩ := of_mem a ha b hb ne
    by_cases h1 : (1 + (n : Int)) = 1
    · rw [if_pos h1]
      exact M.ok_of rfl (M.ok_of rfl (q _ m1))
    · rw [if_neg h1]
      exact M.ok_of rfl (M.ok_of rfl (q _ m2))
  simp [sNm, sK, sAnd, sOr, sNot, sIf, tAndB, tOrB, tNotB, sB, s2, sN, sM, sCh, sCons, sNil, sLst, sTup, sFl, flD, sSl, sPo, sStar, starD, X.fz, sRet, sSeq, sIfS, sSkip, sNev, sAsg, asgX, sAsgT, sPar2, sStF, putD, Tg.asg, setG, fin1, finI, runB, runI, frame, runF, runStarI, permute, sCal, sMth, sNew, sNew0, sEq, sUnI, sIsi, isND, D.isN, isBD, bStr, bInt, bBool, bList, bTuple, D.flat, List.filterMap, List.replicate, f__law_kind, b__law_kind, semTake, M.ok_bind, ltD]
  intro r hr
  match r, hr with
  | 0, _ =>
    simp [sNm, sK, sAnd, sOr, sNot, sIf, tAndB, tOrB, tNotB, sB, s2, sN, sM, sCh, sCons, sNil, sLst, sTup, sFl, flD, sSl, sPo, sStar, starD, X.fz, sRet, sSeq, sIfS, sSkip, sNev, sAsg, asgX, sAsgT, sPar2, sStF, putD, Tg.asg, setG, fin1, finI, runB, runI, frame, runF, runStarI, permute, sCal, sMth, sNew, sNew0, sEq, sUnI, sIsi, isND, D.isN, isBD, bStr, bInt, bBool, bList, bTuple, D.flat, List.filterMap, List.replicate, M.ok_bind]
    refine of_wpL (by decide) (by decide) fun x hx => of_wpL (by decide) (by decide) fun y hy => ?_
    simp [sNm, sK, sAnd, sOr, sNot, sIf, tAndB, tOrB, tNotB, sB, s2, sN, sM, sCh, sCons, sNil, sLst, sTup, sFl, flD, sSl, sPo, sStar, starD, X.fz, sRet, sSeq, sIfS, sSkip, sNev, sAsg, asgX, sAsgT, sPar2, sStF, putD, Tg.asg, setG, fin1, finI, runB, runI, frame, runF, runStarI, permute, sCal, sMth, sNew, sNew0, sEq, sUnI, sIsi, isND, D.isN, isBD, bStr, bInt, bBool, bList, bTuple, D.flat, List.filterMap, List.replicate, ixD]
    exact q _ hany
  | 1, _ =>
    simp [sNm, sK, sAnd, sOr, sNot, sIf, tAndB, tOrB, tNotB, sB, s2, sN, sM, sCh, sCons, sNil, sLst, sTup, sFl, flD, sSl, sPo, sStar, starD, X.fz, sRet, sSeq, sIfS, sSkip, sNev, sAsg, asgX, sAsgT, sPar2, sStF, putD, Tg.asg, setG, fin1, finI, runB, runI, frame, runF, runStarI, permute, sCal, sMth, sNew, sNew0, sEq, sUnI, sIsi, isND, D.isN, isBD, bStr, bInt, bBool, bList, bTuple, D.flat, List.filterMap, List.replicate, M.ok_bind]
    refine of_wpL (by decide) (by decide) fun x hx => of_wpL (by decide) (by decide) fun y hy => ?_
    obtain ⟨l, hl, rfl⟩ : ∃ l ∈ ([0, 1, 5] : List Int), x = .int l := by
      simp only [List.mem_cons, List.not_mem_nil, or_false] at hx
      rcases hx with rfl | rfl | rfl <;> exact ⟨_, by simp, rfl⟩
    obtain ⟨h, hh, rfl⟩ : ∃ h ∈ ([5, 9, 99999] : List Int), y = .int h := by
      simp only [List.mem_cons, List.not_mem_nil, or_false] at hy
      rcases hy with rfl | rfl | rfl <;> exact ⟨_, by simp, rfl⟩
    simp [sNm, sK, sAnd, sOr, sNot, sIf, tAndB, tOrB, tNotB, sB, s2, sN, sM, sCh, sCons, sNil, sLst, sTup, sFl, flD, sSl, sPo, sStar, starD, X.fz, sRet, sSeq, sIfS, sSkip, sNev, sAsg, asgX, sAsgT, sPar2, sStF, putD, Tg.asg, setG, fin1, finI, runB, runI, frame, runF, runStarI, permute, sCal, sMth, sNew, sNew0, sEq, sUnI, sIsi, isND, D.isN, isBD, bStr, bInt, bBool, bList, bTuple, D.flat, List.filterMap, List.replicate, ixD]
    exact q _ (num_mem l hl h hh)
  | 2, _ =>
    simp [sNm, sK, sAnd, sOr, sNot, sIf, tAndB, tOrB, tNotB, sB, s2, sN, sM, sCh, sCons, sNil, sLst, sTup, sFl, flD, sSl, sPo, sStar, starD, X.fz, sRet, sSeq, sIfS, sSkip, sNev, sAsg, asgX, sAsgT, sPar2, sStF, putD, Tg.asg, setG, fin1, finI, runB, runI, frame, runF, runStarI, permute, sCal, sMth, sNew, sNew0, sEq, sUnI, sIsi, isND, D.isN, isBD, bStr, bInt, bBool, bList, bTuple, D.flat, List.filterMap, List.replicate, M.ok_bind]
    exact two
  | 3, _ =>
    simp [sNm, sK, sAnd, sOr, sNot, sIf, tAndB, tOrB, tNotB, sB, s2, sN, sM, sCh, sCons, sNil, sLst, sTup, sFl, flD, sSl, sPo, sStar, starD, X.fz, sRet, sSeq, sIfS, sSkip, sNev, sAsg, asgX, sAsgT, sPar2, sStF, putD, Tg.asg, setG, fin1, finI, runB, runI, frame, runF, runStarI, permute, sCal, sMth, sNew, sNew0, sEq, sUnI, sIsi, isND, D.isN, isBD, bStr, bInt, bBool, bList, bTuple, D.flat, List.filterMap, List.replicate, M.ok_bind]
    exact two
end Toy
namespace Toy
open PySem PySem.Spec L2 G
open PyProof.Rows hiding St
theorem first2 {ys : List D} {ns : List Str} (hy : ys.Perm (ns.map D.str)) (hn : ns.Nodup) {Q : List D → Prop} {m : Nat} (hl : ns.length = m + 2) (q : ∀ a ∈ ns, ∀ b ∈ ns, a ≠ b → Q [.str a, .str b]) : Q (G.cutD ys none (some 2)) := by
  obtain ⟨zs, rfl, hz⟩ := perm_map hy
  have hl' : zs.length = m + 2 := hz.length_eq.trans hl
  obtain ⟨a, b, rest, rfl⟩ : ∃ a b rest, zs = a :: b :: rest := by
    match zs, hl' with
    | a :: b :: rest, _ => exact ⟨a, b, rest, rfl⟩
  have hnd : (a :: b :: rest).Nodup := (List.Perm.nodup_iff hz).mpr hn
  have key := q a (hz.mem_iff.mp (by simp)) b (hz.mem_iff.mp (by simp)) (fun e => by subst e; simp at hnd)
  have e : G.cutD ((a :: b :: rest).map D.str) none (some 2) = [.str a, .str b] := by
    unfold G.cutD
    rw [List.length_map, hl']
    have e1 : HT.sIx (m + 2) 0 none = 0 := rfl
    have e2 : HT.sIx (m + 2) (m + 2) (some 2) = 2 := by
      unfold HT.sIx
      simp
    rw [e1, e2]
    rfl
  rw [e]
  exact key
theorem dashes_wp {Q : R → Prop} (q : ∀ a ∈ dn, ∀ b ∈ dn, a ≠ b → Q (.nw (.l [.str a, .str b]))) : (f__law_dashes [.feed, .int 2]).ok Q := by
  simp [sNm, sK, sAnd, sOr, sNot, sIf, tAndB, tOrB, tNotB, sB, s2, sN, sM, sCh, sCons, sNil, sLst, sTup, sFl, flD, sSl, sPo, sStar, starD, X.fz, sRet, sSeq, sIfS, sSkip, sNev, sAsg, asgX, sAsgT, sPar2, sStF, putD, Tg.asg, setG, fin1, finI, runB, runI, frame, runF, runStarI, permute, sCal, sMth, sNew, sNew0, sEq, sUnI, sIsi, isND, D.isN, isBD, bStr, bInt, bBool, bList, bTuple, D.flat, List.filterMap, List.replicate, f__law_dashes, b__law_dashes, M.ok_bind]
  refine mixed_wp (by decide) (fun d hd => ?_) fun ys hy => ?_
  · simp at hd
    rcases hd with rfl | rfl | rfl | rfl | rfl <;> exact ⟨_, rfl, by decide⟩
  · have hy' : ys.Perm (dn.map D.str) := hy
    simp [sNm, sK, sAnd, sOr, sNot, sIf, tAndB, tOrB, tNotB, sB, s2, sN, sM, sCh, sCons, sNil, sLst, sTup, sFl, flD, sSl, sPo, sStar, starD, X.fz, sRet, sSeq, sIfS, sSkip, sNev, sAsg, asgX, sAsgT, sPar2, sStF, putD, Tg.asg, setG, fin1, finI, runB, runI, frame, runF, runStarI, permute, sCal, sMth, sNew, sNew0, sEq, sUnI, sIsi, isND, D.isN, isBD, bStr, bInt, bBool, bList, bTuple, D.flat, List.filterMap, List.replicate, slD]
    exact first2 (m := 3) (Q := fun l => Q (.nw (.l l))) hy' (by decide +kernel) rfl q
/-- a drawn option of this name -/
def OptOk (n : Str) (o : D) : Prop := ∃ s ∈ sorts, ∃ m : Int, 0 ≤ m ∧ m ≤ 4 ∧ o = .tup [.str n, s, .int m]
theorem kind_tup {k : D} (h : k ∈ allKinds) : ∃ t r, k = .tup (.str t :: r) := by
  have hh : allKinds.all (fun k => match k with | .tup (.str _ :: _) => true | _ => false) = true := by decide +kernel
  have := List.all_eq_true.mp hh k h
  split at this
  · exact ⟨_, _, rfl⟩
  · cases this
end Toy
namespace Toy
open PySem PySem.Spec L2 G
open PyProof.Rows hiding St
theorem row_eq {ds : List D} (h : ∀ d ∈ ds, ∃ x, d.py = some x ∧ x.depth ≤ 50) : eqPy false (.lst ds) (.lst []) = .ret (.at (.bl (decide (ds = [])))) := by
  obtain ⟨xs, h3, h4, h5⟩ := pys_of h
  unfold eqPy
  simp only [D.py, h3, D.pys, Option.map_some]
  have hd : (PyData.list xs).depth ≤ 60 := by unfold PyData.depth; omega
  rw [if_pos ⟨hd, by decide⟩]
  cases ds with
  | nil => cases xs with
    | nil => rfl
    | cons x xs => cases h4
  | cons d ds => cases xs with
    | nil => cases h4
    | cons x xs => rfl
theorem opt_py {n : Str} {o : D} (h : OptOk n o) : ∃ x, o.py = some x ∧ x.depth ≤ 50 := by
  obtain ⟨s, hs, m, _, _, rfl⟩ := h
  obtain ⟨x, h1, h2⟩ := py_ok hs
  refine ⟨.tuple [.str n, x, .int m], by simp only [D.py, D.pys, h1, Option.map_some], ?_⟩
  have e : (PyData.tuple [.str n, x, .int m]).depth ≤ 50 := by
    simp only [PyData.depth, PyData.depthAll]
    omega
  exact e
def optBody : Sst := (sSeq (sAsg false 4 (sCal 0 (runF 2 [0, 1] [] f__law_of) (sCons (sNm 0) (sCons (sLst (sCons (sK .non) (sCons (sCal 0 (runF 1 [0] [] f__law_kind) (sCons (sNm 0) sNil) sNil) sNil))) sNil)) sNil))
  (sSeq (sAsg false 5 (sCal 0 (runF 2 [0, 1] [] f__law_of) (sCons (sNm 0) (sCons (sLst (sCons (sK (.int (1))) (sCons (sK (.int (1))) (sCons (sK (.int (2))) (sCons (sK (.int (0))) sNil))))) sNil)) sNil))
  (sSeq (sIfS (sB (s2 gtD (sN lenD (sCons (sNm 1) sNil)) (sK (.int (2))))) (sAsgT (.t [4, 5]) (sTup (sCons (sK .non) (sCons (sK (.int (1))) sNil)))) (sIfS (tAndB (sB (s2 (isND false) (sNm 4) (sK .non))) (sB (s2 (eqPy false) (sNm 2) (sLst sNil)))) (sAsg false 5 (sCal 0 (runF 2 [0, 1] [] f__law_of) (sCons (sNm 0) (sCons (sLst (sCons (sNm 5) (sCons (sNm 5) (sCons (sK (.int (3))) (sCons (sK (.int (4))) sNil))))) sNil)) sNil)) sSkip))
  (sSeq (sIfS (tAndB (sB (s2 (eqPy true) (sNm 2) (sLst sNil))) (tAndB (sB (s2 (isND true) (sNm 4) (sK .non))) (sB (s2 (eqPy false) (s2 ixD (sNm 4) (sK (.int (0)))) (sK (.str "of")))))) (sAsg false 5 (sK (.int (1)))) sSkip)
  (sApp 2 (xPure (sTup (sCons (sNm 3) (sCons (sNm 4) (sCons (sNm 5) sNil))))))))))
theorem opt_body {n n1 n2 : Str} {found : List D} {x4 x5 : Sl} (hf : ∀ d ∈ found, ∃ x, d.py = some x ∧ x.depth ≤ 50) (hl : found.length < 10) :
    (optBody [.v .feed, .v (.lst [.str n1, .str n2]), .c (.l found), .v (.str n), x4, x5]).ok fun p => p.1 = .nx ∧ ∃ o y4 y5, OptOk n o ∧ p.2 = [.v .feed, .v (.lst [.str n1, .str n2]), .c (.l (found ++ [o])), .v (.str n), y4, y5] := by
  refine w_step (fun Γ => ∃ s ∈ sorts, Γ = [.v .feed, .v (.lst [.str n1, .str n2]), .c (.l found), .v (.str n), .v s, x5]) ?_ ?_
  · simp [sNm, sK, sAnd, sOr, sNot, sIf, tAndB, tOrB, tNotB, sB, s2, sN, sM, sCh, sCons, sNil, sLst, sTup, sFl, flD, sSl, sPo, sStar, starD, X.fz, sRet, sSeq, sIfS, sSkip, sNev, sAsg, asgX, sAsgT, sPar2, sStF, putD, Tg.asg, setG, fin1, finI, runB, runI, frame, runF, runStarI, permute, sCal, sMth, sNew, sNew0, sEq, sUnI, sIsi, isND, D.isN, isBD, bStr, bInt, bBool, bList, bTuple, D.flat, List.filterMap, List.replicate, M.ok_bind]
    refine kind_wp fun k hk => of_wpL (Nat.succ_pos _) (by simp only [List.length_cons, List.length_nil]; omega) fun d hd => ?_
    simp only [List.mem_cons, List.not_mem_nil, or_false, RtoD_dt] at hd
    rcases hd with rfl | rfl
    · exact M.ok_of rfl ⟨_, List.mem_cons_self .., rfl⟩
    · exact M.ok_of rfl ⟨_, List.mem_cons_of_mem _ hk, rfl⟩
  rintro _ ⟨s, hs, rfl⟩
  refine w_step (fun Γ => ∃ m : Int, 0 ≤ m ∧ m ≤ 4 ∧ Γ = [.v .feed, .v (.lst [.str n1, .str n2]), .c (.l found), .v (.str n), .v s, .v (.int m)]) ?_ ?_
  · simp [sNm, sK, sAnd, sOr, sNot, sIf, tAndB, tOrB, tNotB, sB, s2, sN, sM, sCh, sCons, sNil, sLst, sTup, sFl, flD, sSl, sPo, sStar, starD, X.fz, sRet, sSeq, sIfS, sSkip, sNev, sAsg, asgX, sAsgT, sPar2, sStF, putD, Tg.asg, setG, fin1, finI, runB, runI, frame, runF, runStarI, permute, sCal, sMth, sNew, sNew0, sEq, sUnI, sIsi, isND, D.isN, isBD, bStr, bInt, bBool, bList, bTuple, D.flat, List.filterMap, List.replicate, M.ok_bind]
    refine of_wpL (Nat.succ_pos _) (by simp only [List.length_cons, List.length_nil]; omega) fun d hd => ?_
    simp only [List.mem_cons, List.not_mem_nil, or_false] at hd
    rcases hd with rfl | rfl | rfl | rfl <;> exact M.ok_of rfl ⟨_, by decide, by decide, rfl⟩
  rintro _ ⟨m, m0, m4, rfl⟩
  have hN : s = .non ∨ ∃ t r, s = .tup (.str t :: r) := by
    rcases List.mem_cons.mp hs with rfl | h
    · exact .inl rfl
    · exact .inr (kind_tup h)
  refine w_step (fun Γ => ∃ m : Int, 0 ≤ m ∧ m ≤ 4 ∧ Γ = [.v .feed, .v (.lst [.str n1, .str n2]), .c (.l found), .v (.str n), .v s, .v (.int m)]) ?_ ?_
  · have hc : sB (s2 gtD (sN lenD (sCons (sNm 1) sNil)) (sK (.int (2)))) [.v .feed, .v (.lst [.str n1, .str n2]), .c (.l found), .v (.str n), .v s, .v (.int m)] = .ret false := by simp [sNm, sK, sAnd, sOr, sNot, sIf, tAndB, tOrB, tNotB, sB, s2, sN, sM, sCh, sCons, sNil, sLst, sTup, sFl, flD, sSl, sPo, sStar, starD, X.fz, sRet, sSeq, sIfS, sSkip, sNev, sAsg, asgX, sAsgT, sPar2, sStF, putD, Tg.asg, setG, fin1, finI, runB, runI, frame, runF, runStarI, permute, sCal, sMth, sNew, sNew0, sEq, sUnI, sIsi, isND, D.isN, isBD, bStr, bInt, bBool, bList, bTuple, D.flat, List.filterMap, List.replicate, lenD, gtD]
    refine w_if hc ?_
    rw [if_neg (by decide)]
    rcases hN with rfl | ⟨t, r, rfl⟩
    · refine w_if (b := decide (found = [])) (by simp [sNm, sK, sAnd, sOr, sNot, sIf, tAndB, tOrB, tNotB, sB, s2, sN, sM, sCh, sCons, sNil, sLst, sTup, sFl, flD, sSl, sPo, sStar, starD, X.fz, sRet, sSeq, sIfS, sSkip, sNev, sAsg, asgX, sAsgT, sPar2, sStF, putD, Tg.asg, setG, fin1, finI, runB, runI, frame, runF, runStarI, permute, sCal, sMth, sNew, sNew0, sEq, sUnI, sIsi, isND, D.isN, isBD, bStr, bInt, bBool, bList, bTuple, D.flat, List.filterMap, List.replicate, row_eq hf]) ?_
      split
      · simp [sNm, sK, sAnd, sOr, sNot, sIf, tAndB, tOrB, tNotB, sB, s2, sN, sM, sCh, sCons, sNil, sLst, sTup, sFl, flD, sSl, sPo, sStar, starD, X.fz, sRet, sSeq, sIfS, sSkip, sNev, sAsg, asgX, sAsgT, sPar2, sStF, putD, Tg.asg, setG, fin1, finI, runB, runI, frame, runF, runStarI, permute, sCal, sMth, sNew, sNew0, sEq, sUnI, sIsi, isND, D.isN, isBD, bStr, bInt, bBool, bList, bTuple, D.flat, List.filterMap, List.replicate, M.ok_bind]
        refine of_wpL (Nat.succ_pos _) (by simp only [List.length_cons, List.length_nil]; omega) fun d hd => ?_
        simp only [List.mem_cons, List.not_mem_nil, or_false] at hd
        rcases hd with rfl | rfl | rfl | rfl
        · exact M.ok_of rfl ⟨_, m0, m4, rfl⟩
        · exact M.ok_of rfl ⟨_, m0, m4, rfl⟩
        · exact M.ok_of rfl ⟨_, by decide, by decide, rfl⟩
        · exact M.ok_of rfl ⟨_, by decide, by decide, rfl⟩
      · exact M.ok_of rfl ⟨rfl, _, m0, m4, rfl⟩
    · refine w_if (b := false) (by simp [sNm, sK, sAnd, sOr, sNot, sIf, tAndB, tOrB, tNotB, sB, s2, sN, sM, sCh, sCons, sNil, sLst, sTup, sFl, flD, sSl, sPo, sStar, starD, X.fz, sRet, sSeq, sIfS, sSkip, sNev, sAsg, asgX, sAsgT, sPar2, sStF, putD, Tg.asg, setG, fin1, finI, runB, runI, frame, runF, runStarI, permute, sCal, sMth, sNew, sNew0, sEq, sUnI, sIsi, isND, D.isN, isBD, bStr, bInt, bBool, bList, bTuple, D.flat, List.filterMap, List.replicate]) ?_
      exact M.ok_of rfl ⟨rfl, _, m0, m4, rfl⟩
  rintro _ ⟨m, m0, m4, rfl⟩
  refine w_step (fun Γ => ∃ m : Int, 0 ≤ m ∧ m ≤ 4 ∧ Γ = [.v .feed, .v (.lst [.str n1, .str n2]), .c (.l found), .v (.str n), .v s, .v (.int m)]) ?_ ?_
  · have hc : ∃ b, tAndB (sB (s2 (eqPy true) (sNm 2) (sLst sNil))) (tAndB (sB (s2 (isND true) (sNm 4) (sK .non))) (sB (s2 (eqPy false) (s2 ixD (sNm 4) (sK (.int (0)))) (sK (.str "of"))))) [.v .feed, .v (.lst [.str n1, .str n2]), .c (.l found), .v (.str n), .v s, .v (.int m)] = .ret b := by
      by_cases h0 : found = []
      · subst h0
        exact ⟨false, by simp [sNm, sK, sAnd, sOr, sNot, sIf, tAndB, tOrB, tNotB, sB, s2, sN, sM, sCh, sCons, sNil, sLst, sTup, sFl, flD, sSl, sPo, sStar, starD, X.fz, sRet, sSeq, sIfS, sSkip, sNev, sAsg, asgX, sAsgT, sPar2, sStF, putD, Tg.asg, setG, fin1, finI, runB, runI, frame, runF, runStarI, permute, sCal, sMth, sNew, sNew0, sEq, sUnI, sIsi, isND, D.isN, isBD, bStr, bInt, bBool, bList, bTuple, D.flat, List.filterMap, List.replicate, row_ne hf]⟩
      · rcases hN with rfl | ⟨t, r, rfl⟩
        · exact ⟨false, by simp [sNm, sK, sAnd, sOr, sNot, sIf, tAndB, tOrB, tNotB, sB, s2, sN, sM, sCh, sCons, sNil, sLst, sTup, sFl, flD, sSl, sPo, sStar, starD, X.fz, sRet, sSeq, sIfS, sSkip, sNev, sAsg, asgX, sAsgT, sPar2, sStF, putD, Tg.asg, setG, fin1, finI, runB, runI, frame, runF, runStarI, permute, sCal, sMth, sNew, sNew0, sEq, sUnI, sIsi, isND, D.isN, isBD, bStr, bInt, bBool, bList, bTuple, D.flat, List.filterMap, List.replicate, row_ne hf, h0]⟩
        · exact ⟨decide (t = "of"), by simp [sNm, sK, sAnd, sOr, sNot, sIf, tAndB, tOrB, tNotB, sB, s2, sN, sM, sCh, sCons, sNil, sLst, sTup, sFl, flD, sSl, sPo, sStar, starD, X.fz, sRet, sSeq, sIfS, sSkip, sNev, sAsg, asgX, sAsgT, sPar2, sStF, putD, Tg.asg, setG, fin1, finI, runB, runI, frame, runF, runStarI, permute, sCal, sMth, sNew, sNew0, sEq, sUnI, sIsi, isND, D.isN, isBD, bStr, bInt, bBool, bList, bTuple, D.flat, List.filterMap, List.replicate, row_ne hf, h0, ixD, eq_str]⟩
    obtain ⟨b, hb⟩ := hc
    refine w_if hb ?_
    cases b
    · exact M.ok_of rfl ⟨rfl, _, m0, m4, rfl⟩
    · exact M.ok_of rfl ⟨rfl, 1, by decide, by decide, rfl⟩
  rintro _ ⟨m, m0, m4, rfl⟩
  have e : sApp 2 (xPure (sTup (sCons (sNm 3) (sCons (sNm 4) (sCons (sNm 5) sNil))))) [.v .feed, .v (.lst [.str n1, .str n2]), .c (.l found), .v (.str n), .v s, .v (.int m)] = .ret (.nx, [.v .feed, .v (.lst [.str n1, .str n2]), .c (.l (found ++ [.tup [.str n, s, .int m]])), .v (.str n), .v s, .v (.int m)]) := by
    have : found.length ≤ 100000 := by omega
    simp [sNm, sK, sAnd, sOr, sNot, sIf, tAndB, tOrB, tNotB, sB, s2, sN, sM, sCh, sCons, sNil, sLst, sTup, sFl, flD, sSl, sPo, sStar, starD, X.fz, sRet, sSeq, sIfS, sSkip, sNev, sAsg, asgX, sAsgT, sPar2, sStF, putD, Tg.asg, setG, fin1, finI, runB, runI, frame, runF, runStarI, permute, sCal, sMth, sNew, sNew0, sEq, sUnI, sIsi, isND, D.isN, isBD, bStr, bInt, bBool, bList, bTuple, D.flat, List.filterMap, List.replicate, sApp, xPure, this]
  exact M.ok_of e ⟨rfl, _, _, _, ⟨s, hs, m, m0, m4, rfl⟩, rfl⟩
theorem opts_wp {n1 n2 : Str} {Q : R → Prop} (q : ∀ a b, OptOk n1 a → OptOk n2 b → Q (.nw (.l [a, b]))) : (f__law_opts [.feed, .lst [.str n1, .str n2]]).ok Q := by
  show (runB 6 (sSeq (sAsg true 2 (sLst sNil)) (sSeq (sFor (sSq (sNm 1)) (.n 3) optBody) (sRet (sNm 2)))) _).ok Q
  unfold runB
  rw [M.ok_bind]
  refine w_step (fun Γ => Γ = [.v .feed, .v (.lst [.str n1, .str n2]), .c (.l []), .no, .no, .no]) ?_ ?_
  · exact M.ok_of rfl ⟨rfl, rfl⟩
  rintro _ rfl
  refine w_step (fun Γ => ∃ a b y3 y4 y5, OptOk n1 a ∧ OptOk n2 b ∧ Γ = [.v .feed, .v (.lst [.str n1, .str n2]), .c (.l [a, b]), y3, y4, y5]) ?_ ?_
  · refine w_for (ds := [.str n1, .str n2]) (fun es Γ => ∃ found y3 y4 y5, Γ = [.v .feed, .v (.lst [.str n1, .str n2]), .c (.l found), y3, y4, y5] ∧ ((es = [.str n1, .str n2] ∧ found = []) ∨ (es = [.str n2] ∧ ∃ a, OptOk n1 a ∧ found = [a]) ∨ (es = [] ∧ ∃ a b, OptOk n1 a ∧ OptOk n2 b ∧ found = [a, b]))) rfl ⟨_, _, _, _, rfl, .inl ⟨rfl, rfl⟩⟩ ?_ ?_
    · rintro d es _ ⟨found, y3, y4, y5, rfl, h⟩
      refine ⟨[(3, d)], rfl, ?_⟩
      rcases h with ⟨e, rfl⟩ | ⟨e, a, ha, rfl⟩ | ⟨e, _⟩
      · cases e
        refine M.ok_mono ?_ (opt_body (n := n1) (n1 := n1) (n2 := n2) (found := []) (x4 := y4) (x5 := y5) (by simp) (by decide))
        rintro ⟨fl, Γ'⟩ ⟨h1, o, z4, z5, ho, h2⟩
        cases h1
        cases h2
        exact ⟨_, _, _, _, rfl, .inr (.inl ⟨rfl, o, ho, rfl⟩)⟩
      · cases e
        refine M.ok_mono ?_ (opt_body (n := n2) (n1 := n1) (n2 := n2) (found := [a]) (x4 := y4) (x5 := y5) (by simpa using opt_py ha) (by simp))
        rintro ⟨fl, Γ'⟩ ⟨h1, o, z4, z5, ho, h2⟩
        cases h1
        cases h2
        exact ⟨_, _, _, _, rfl, .inr (.inr ⟨rfl, a, o, ha, ho, rfl⟩)⟩
      · cases e
    · rintro _ ⟨found, y3, y4, y5, rfl, h⟩
      rcases h with ⟨e, _⟩ | ⟨e, _⟩ | ⟨_, a, b, ha, hb, rfl⟩
      · cases e
      · cases e
      · exact ⟨rfl, a, b, _, _, _, ha, hb, rfl⟩
  rintro _ ⟨a, b, y3, y4, y5, ha, hb, rfl⟩
  exact M.ok_of rfl (M.ok_of rfl (q a b ha hb))
end Toy
namespace Toy
open PySem PySem.Spec L2 G
open PyProof.Rows hiding St
def bnds : List (Int × Int) := [(1, 1), (0, 1), (1, 2), (0, 0), (2, 2), (1, 0)]
def bndD : List D := bnds.map fun p => .tup [.int p.1, .int p.2]
def SlotOk (o : D) : Prop := ∃ k ∈ allKinds, ∃ p ∈ bnds, o = .tup [k, .int p.1, .int p.2]
def slotBody : Sst := (sSeq (sPar2 false false 5 6 (sCal 0 (runF 1 [0] [] f__law_kind) (sCons (sNm 0) sNil) sNil) (sCal 0 (runF 2 [0, 1] [] f__law_of) (sCons (sNm 0) (sCons (sNm 2) sNil)) sNil))
  (sApp 3 (xPure (sTup (sCons (sNm 5) (sCons (s2 ixD (sNm 6) (sK (.int (0)))) (sCons (s2 ixD (sNm 6) (sK (.int (1)))) sNil)))))))
theorem slot_body {found : List D} {x4 x5 x6 : Sl} (hl : found.length < 10) :
    (slotBody [.v .feed, .v (.int 2), .v (.lst bndD), .c (.l found), x4, x5, x6]).ok fun p => p.1 = .nx ∧ ∃ o y5 y6, SlotOk o ∧ p.2 = [.v .feed, .v (.int 2), .v (.lst bndD), .c (.l (found ++ [o])), x4, y5, y6] := by
  refine w_step (fun Γ => ∃ k ∈ allKinds, ∃ p ∈ bnds, Γ = [.v .feed, .v (.int 2), .v (.lst bndD), .c (.l found), x4, .v k, .v (.tup [.int p.1, .int p.2])]) ?_ ?_
  · simp [sNm, sK, sAnd, sOr, sNot, sIf, tAndB, tOrB, tNotB, sB, s2, sN, sM, sCh, sCons, sNil, sLst, sTup, sFl, flD, sSl, sPo, sStar, starD, X.fz, sRet, sSeq, sIfS, sSkip, sNev, sAsg, asgX, sAsgT, sPar2, sStF, putD, Tg.asg, setG, fin1, finI, runB, runI, frame, runF, runStarI, permute, sCal, sMth, sNew, sNew0, sEq, sUnI, sIsi, isND, D.isN, isBD, bStr, bInt, bBool, bList, bTuple, D.flat, List.filterMap, List.replicate, M.ok_bind]
    refine kind_wp fun k hk => of_wpL (Nat.succ_pos _) (by decide) fun d hd => ?_
    obtain ⟨p, hp, rfl⟩ := List.mem_map.mp hd
    exact M.ok_of rfl (M.ok_of rfl ⟨k, hk, p.1, p.2, hp, rfl⟩)
  rintro _ ⟨k, hk, p, hp, rfl⟩
  have e : sApp 3 (xPure (sTup (sCons (sNm 5) (sCons (s2 ixD (sNm 6) (sK (.int (0)))) (sCons (s2 ixD (sNm 6) (sK (.int (1)))) sNil))))) [.v .feed, .v (.int 2), .v (.lst bndD), .c (.l found), x4, .v k, .v (.tup [.int p.1, .int p.2])] = .ret (.nx, [.v .feed, .v (.int 2), .v (.lst bndD), .c (.l (found ++ [.tup [k, .int p.1, .int p.2]])), x4, .v k, .v (.tup [.int p.1, .int p.2])]) := by
    have : found.length ≤ 100000 := by omega
    simp [sNm, sK, sAnd, sOr, sNot, sIf, tAndB, tOrB, tNotB, sB, s2, sN, sM, sCh, sCons, sNil, sLst, sTup, sFl, flD, sSl, sPo, sStar, starD, X.fz, sRet, sSeq, sIfS, sSkip, sNev, sAsg, asgX, sAsgT, sPar2, sStF, putD, Tg.asg, setG, fin1, finI, runB, runI, frame, runF, runStarI, permute, sCal, sMth, sNew, sNew0, sEq, sUnI, sIsi, isND, D.isN, isBD, bStr, bInt, bBool, bList, bTuple, D.flat, List.filterMap, List.replicate, sApp, xPure, this, ixD]
  exact M.ok_of e ⟨rfl, _, _, _, ⟨k, hk, p, hp, rfl⟩, rfl⟩
theorem slots_wp {Q : R → Prop} (q : ∀ a b, SlotOk a → SlotOk b → Q (.nw (.l [a, b]))) : (f__law_slots [.feed, .int 2]).ok Q := by
  unfold f__law_slots runB
  rw [M.ok_bind]
  unfold b__law_slots
  refine w_step (fun Γ => Γ = [.v .feed, .v (.int 2), .v (.lst bndD), .no, .no, .no, .no]) ?_ ?_
  · exact M.ok_of rfl ⟨rfl, rfl⟩
  rintro _ rfl
  refine w_step (fun Γ => Γ = [.v .feed, .v (.int 2), .v (.lst bndD), .c (.l []), .no, .no, .no]) ?_ ?_
  · exact M.ok_of rfl ⟨rfl, rfl⟩
  rintro _ rfl
  refine w_step (fun Γ => ∃ a b y4 y5 y6, SlotOk a ∧ SlotOk b ∧ Γ = [.v .feed, .v (.int 2), .v (.lst bndD), .c (.l [a, b]), y4, y5, y6]) ?_ ?_
  · refine w_for (ds := [.int 0, .int 1]) (fb := slotBody) (fun es Γ => ∃ found y4 y5 y6, Γ = [.v .feed, .v (.int 2), .v (.lst bndD), .c (.l found), y4, y5, y6] ∧ ((es = [.int 0, .int 1] ∧ found = []) ∨ (es = [.int 1] ∧ ∃ a, SlotOk a ∧ found = [a]) ∨ (es = [] ∧ ∃ a b, SlotOk a ∧ SlotOk b ∧ found = [a, b]))) rfl ⟨_, _, _, _, rfl, .inl ⟨rfl, rfl⟩⟩ ?_ ?_
    · rintro d es _ ⟨found, y4, y5, y6, rfl, h⟩
      refine ⟨[(4, d)], rfl, ?_⟩
      rcases h with ⟨e, rfl⟩ | ⟨e, a, ha, rfl⟩ | ⟨e, _⟩
      · cases e
        refine M.ok_mono ?_ (slot_body (found := []) (x4 := .v (.int 0)) (x5 := y5) (x6 := y6) (by decide))
        rintro ⟨fl, Γ'⟩ ⟨h1, o, z5, z6, ho, h2⟩
        cases h1
        cases h2
        exact ⟨_, _, _, _, rfl, .inr (.inl ⟨rfl, o, ho, rfl⟩)⟩
      · cases e
        refine M.ok_mono ?_ (slot_body (found := [a]) (x4 := .v (.int 1)) (x5 := y5) (x6 := y6) (by simp))
        rintro ⟨fl, Γ'⟩ ⟨h1, o, z5, z6, ho, h2⟩
        cases h1
        cases h2
        exact ⟨_, _, _, _, rfl, .inr (.inr ⟨rfl, a, o, ha, ho, rfl⟩)⟩
      · cases e
    · rintro _ ⟨found, y4, y5, y6, rfl, h⟩
      rcases h with ⟨e, _⟩ | ⟨e, _⟩ | ⟨_, a, b, ha, hb, rfl⟩
      · cases e
      · cases e
      · exact ⟨rfl, a, b, _, _, _, ha, hb, rfl⟩
  rintro _ ⟨a, b, y4, y5, y6, ha, hb, rfl⟩
  exact M.ok_of rfl (M.ok_of rfl (q a b ha hb))
end Toy
namespace Toy
open PySem PySem.Spec L2 G
open PyProof.Rows hiding St
theorem mapC_ret {tgt : Tg} {vs : List Nat} {te : Se X} {Γ : List Sl} (g : D → D) : ∀ es : List D, (∀ d ∈ es, ∃ as, tgt.asg d = some as ∧ ∃ x, te (setG (wipeG Γ vs) as) = .ret x ∧ x.tn = false ∧ x.toD = g d) → mapC tgt vs tYesB te Γ es = .ret (es.map g)
  | [], _ => rfl
  | d :: es, h => by
    obtain ⟨as, h1, x, h2, h3, h4⟩ := h d (List.mem_cons_self ..)
    have ih := mapC_ret g es fun e he => h e (List.mem_cons_of_mem _ he)
    unfold mapC
    rw [h1]
    show ((te (setG (wipeG Γ vs) as)).bind fun x => if x.tn then .fail else (mapC tgt vs tYesB te Γ es).bind fun r => .ret (x.toD :: r)) = _
    rw [h2, M.bind_ret, h3, ih, h4]
    rfl
def flatP : D → Bool
  | .str _ => true
  | .int _ => true
  | .bl _ => true
  | .non => true
  | _ => false
theorem same_flat {n : Nat} {x : D} (h : flatP x = true) : F_17 (n + 1) 0 [x, x] = .ret (.dt (.bl true)) := by
  show runB 3 (b__law_same (F_17 n)) [x, x] = _
  cases x <;> first | (cases h; done) | skip
  · simp [sNm, sK, sAnd, sOr, sNot, sIf, tAndB, tOrB, tNotB, sB, s2, sN, sM, sCh, sCons, sNil, sLst, sTup, sFl, flD, sSl, sPo, sStar, starD, X.fz, sRet, sSeq, sIfS, sSkip, sNev, sAsg, asgX, sAsgT, sPar2, sStF, putD, Tg.asg, setG, fin1, finI, runB, runI, frame, runF, runStarI, permute, sCal, sMth, sNew, sNew0, sEq, sUnI, sIsi, isND, D.isN, isBD, bStr, bInt, bBool, bList, bTuple, D.flat, List.filterMap, List.replicate, b__law_same]
  · simp [sNm, sK, sAnd, sOr, sNot, sIf, tAndB, tOrB, tNotB, sB, s2, sN, sM, sCh, sCons, sNil, sLst, sTup, sFl, flD, sSl, sPo, sStar, starD, X.fz, sRet, sSeq, sIfS, sSkip, sNev, sAsg, asgX, sAsgT, sPar2, sStF, putD, Tg.asg, setG, fin1, finI, runB, runI, frame, runF, runStarI, permute, sCal, sMth, sNew, sNew0, sEq, sUnI, sIsi, isND, D.isN, isBD, bStr, bInt, bBool, bList, bTuple, D.flat, List.filterMap, List.replicate, b__law_same, eq_bl]
  · simp [sNm, sK, sAnd, sOr, sNot, sIf, tAndB, tOrB, tNotB, sB, s2, sN, sM, sCh, sCons, sNil, sLst, sTup, sFl, flD, sSl, sPo, sStar, starD, X.fz, sRet, sSeq, sIfS, sSkip, sNev, sAsg, asgX, sAsgT, sPar2, sStF, putD, Tg.asg, setG, fin1, finI, runB, runI, frame, runF, runStarI, permute, sCal, sMth, sNew, sNew0, sEq, sUnI, sIsi, isND, D.isN, isBD, bStr, bInt, bBool, bList, bTuple, D.flat, List.filterMap, List.replicate, b__law_same, eq_bl, eq_int]
  · simp [sNm, sK, sAnd, sOr, sNot, sIf, tAndB, tOrB, tNotB, sB, s2, sN, sM, sCh, sCons, sNil, sLst, sTup, sFl, flD, sSl, sPo, sStar, starD, X.fz, sRet, sSeq, sIfS, sSkip, sNev, sAsg, asgX, sAsgT, sPar2, sStF, putD, Tg.asg, setG, fin1, finI, runB, runI, frame, runF, runStarI, permute, sCal, sMth, sNew, sNew0, sEq, sUnI, sIsi, isND, D.isN, isBD, bStr, bInt, bBool, bList, bTuple, D.flat, List.filterMap, List.replicate, b__law_same, eq_bl, eq_str]
theorem bools_rep : ∀ n : Nat, D.bools (List.replicate n (.bl true)) = some (List.replicate n true)
  | 0 => rfl
  | n + 1 => by
    have ih := bools_rep n
    simp only [List.replicate_succ, D.bools, ih]
    try rfl
end Toy
namespace Toy
open PySem PySem.Spec L2 G
open PyProof.Rows hiding St
theorem same_rg {ds : List D} (hl : ds.length ≤ 1000) : sRg1 (sCons (sN lenD (sCons (sNm 1) sNil)) sNil) [.v (.lst ds), .v (.lst ds), .no] = .ret (false, rangeL 0 ds.length) := by
  have h0 : sCons (sN lenD (sCons (sNm 1) sNil)) sNil [.v (.lst ds), .v (.lst ds), .no] = .ret [.p (.int ds.length)] := by simp [sNm, sK, sAnd, sOr, sNot, sIf, tAndB, tOrB, tNotB, sB, s2, sN, sM, sCh, sCons, sNil, sLst, sTup, sFl, flD, sSl, sPo, sStar, starD, X.fz, sRet, sSeq, sIfS, sSkip, sNev, sAsg, asgX, sAsgT, sPar2, sStF, putD, Tg.asg, setG, fin1, finI, runB, runI, frame, runF, runStarI, permute, sCal, sMth, sNew, sNew0, sEq, sUnI, sIsi, isND, D.isN, isBD, bStr, bInt, bBool, bList, bTuple, D.flat, List.filterMap, List.replicate, lenD]
  unfold sRg1
  rw [h0, M.bind_ret]
  have h1 : -(2 ^ 62) ≤ (ds.length : Int) ∧ (ds.length : Int) < 2 ^ 62 := by
    constructor
    · omega
    · omega
  show (if -(2 ^ 62) ≤ (ds.length : Int) ∧ (ds.length : Int) < 2 ^ 62 then M.ret (false, rangeL 0 (ds.length : Int).toNat) else .fail) = _
  rw [if_pos h1]
  rfl
theorem same_map {n : Nat} {ds : List D} (h : ∀ x ∈ ds, flatP x = true) : mapC (.n 2) [2] tYesB (sCal 0 (runF 2 [0, 1] [] (F_17 (n + 1) 0)) (sCons (s2 ixD (sNm 0) (sNm 2)) (sCons (s2 ixD (sNm 1) (sNm 2)) sNil)) sNil) [.v (.lst ds), .v (.lst ds), .no] (rangeL 0 ds.length) = .ret (List.replicate ds.length (.bl true)) := by
  rw [mapC_ret (fun _ => .bl true)]
  · have : (rangeL 0 ds.length).map (fun _ => D.bl true) = List.replicate ds.length (.bl true) := by
      unfold rangeL
      rw [List.map_map]
      refine List.eq_replicate_iff.mpr ⟨by rw [List.length_map, List.length_range], fun b hb => ?_⟩
      obtain ⟨_, _, e⟩ := List.mem_map.mp hb
      exact e.symm
    rw [this]
  · intro d hd
    unfold rangeL at hd
    obtain ⟨i, hi, rfl⟩ := List.mem_map.mp hd
    have hi := List.mem_range.mp hi
    obtain ⟨x, hx⟩ : ∃ x, ds[i]? = some x := ⟨ds[i]'hi, List.getElem?_eq_getElem hi⟩
    have hx' := atI_nat hx
    have hf := same_flat (n := n) (h x (List.mem_of_getElem? hx))
    refine ⟨[(2, .int (0 + (i : Nat)))], rfl, .p (.bl true), ?_, rfl, rfl⟩
    simp [sNm, sK, sAnd, sOr, sNot, sIf, tAndB, tOrB, tNotB, sB, s2, sN, sM, sCh, sCons, sNil, sLst, sTup, sFl, flD, sSl, sPo, sStar, starD, X.fz, sRet, sSeq, sIfS, sSkip, sNev, sAsg, asgX, sAsgT, sPar2, sStF, putD, Tg.asg, setG, fin1, finI, runB, runI, frame, runF, runStarI, permute, sCal, sMth, sNew, sNew0, sEq, sUnI, sIsi, isND, D.isN, isBD, bStr, bInt, bBool, bList, bTuple, D.flat, List.filterMap, List.replicate, wipeG, ixD, hx', hf]
end Toy
namespace Toy
open PySem PySem.Spec L2 G
open PyProof.Rows hiding St
theorem same_lc {n : Nat} {ds : List D} (h : ∀ x ∈ ds, flatP x = true) (hl : ds.length ≤ 1000) : sLc (sRg1 (sCons (sN lenD (sCons (sNm 1) sNil)) sNil)) (.n 2) [2] tYesB (sCal 0 (runF 2 [0, 1] [] (F_17 (n + 1) 0)) (sCons (s2 ixD (sNm 0) (sNm 2)) (sCons (s2 ixD (sNm 1) (sNm 2)) sNil)) sNil) [.v (.lst ds), .v (.lst ds), .no] = .ret (.c (.l (List.replicate ds.length (.bl true)))) := by
  have hlen : (rangeL 0 ds.length).length ≤ 100000 := by
    have e : (rangeL 0 ds.length).length = ds.length := by unfold rangeL; rw [List.length_map, List.length_range]
    rw [e]
    exact Nat.le_trans hl (by decide)
  have e1 := same_rg hl
  have e2 := same_map (n := n) h
  simp only [sLc, e1, e2, M.bind_ret, hlen, if_true]
end Toy
namespace Toy
open PySem PySem.Spec L2 G
open PyProof.Rows hiding St
theorem seq_rt {f1 f2 : Sst} {Γ Γ' : List Sl} {z : R} (h : f1 Γ = .ret (.rt z, Γ')) : sSeq f1 f2 Γ = .ret (.rt z, Γ') := by unfold sSeq; rw [h]; rfl
theorem seq_nx {f1 f2 : Sst} {Γ Γ' : List Sl} (h : f1 Γ = .ret (.nx, Γ')) : sSeq f1 f2 Γ = f2 Γ' := by unfold sSeq; rw [h]; rfl
theorem if_t {t : Se Bool} {f1 f2 : Sst} {Γ : List Sl} (h : t Γ = .ret true) : sIfS t f1 f2 Γ = f1 Γ := by unfold sIfS; rw [h]; rfl
theorem if_f {t : Se Bool} {f1 f2 : Sst} {Γ : List Sl} (h : t Γ = .ret false) : sIfS t f1 f2 Γ = f2 Γ := by unfold sIfS; rw [h]; rfl
theorem sCons_eq {f : Se X} {fs : Se (List X)} {Γ : List Sl} {x : X} {xs : List X} (h1 : f Γ = .ret x) (h2 : fs Γ = .ret xs) : sCons f fs Γ = .ret (x :: xs) := by unfold sCons; rw [h1, M.bind_ret, h2]; rfl
theorem sN_eq {sem : List D → M R} {fs : Se (List X)} {Γ : List Sl} {xs : List X} {z : R} (h1 : fs Γ = .ret xs) (h2 : sem (xs.map X.toD) = .ret z) : sN sem fs Γ = .ret (z.fin (xs.any X.tt)) := by unfold sN; rw [h1, M.bind_ret, h2]; rfl
theorem sRet_eq {f : Se X} {Γ : List Sl} {x : X} (h : f Γ = .ret x) : sRet f Γ = .ret (.rt x.ret, Γ) := by unfold sRet; rw [h]; rfl
theorem same_fin {F : Nat → List D → M R} {ds : List D} (hm : sLc (sRg1 (sCons (sN lenD (sCons (sNm 1) sNil)) sNil)) (.n 2) [2] tYesB (sCal 0 (runF 2 [0, 1] [] (F 0)) (sCons (s2 ixD (sNm 0) (sNm 2)) (sCons (s2 ixD (sNm 1) (sNm 2)) sNil)) sNil) [.v (.lst ds), .v (.lst ds), .no] = .ret (.c (.l (List.replicate ds.length (.bl true))))) : runB 3 (b__law_same F) [.lst ds, .lst ds] = .ret (.dt (.bl true)) := by
  have e0 : runB 3 (b__law_same F) [.lst ds, .lst ds] = (b__law_same F [.v (.lst ds), .v (.lst ds), .no]).bind fin1 := rfl
  have a1 : tOrB (sB (s2 (isND false) (sNm 1) (sK .non))) (sB (s2 (isND false) (sNm 0) (sK .non))) [.v (.lst ds), .v (.lst ds), .no] = .ret false := rfl
  have a2 : sB (sIsi (fun d => match bList d, bTuple d with | some a, some b => some (a || b) | _, _ => none) (sNm 1)) [.v (.lst ds), .v (.lst ds), .no] = .ret true := rfl
  have a3 : sB (s2 (eqPy true) (sIsi bList (sNm 1)) (sIsi bList (sNm 0))) [.v (.lst ds), .v (.lst ds), .no] = .ret false := rfl
  have a4 : sB (s2 (eqPy true) (sIsi bTuple (sNm 1)) (sIsi bTuple (sNm 0))) [.v (.lst ds), .v (.lst ds), .no] = .ret false := rfl
  have l0 : sN lenD (sCons (sNm 0) sNil) [.v (.lst ds), .v (.lst ds), .no] = .ret (.p (.int ds.length)) := rfl
  have l1 : sN lenD (sCons (sNm 1) sNil) [.v (.lst ds), .v (.lst ds), .no] = .ret (.p (.int ds.length)) := rfl
  have a5 : sB (s2 (eqPy true) (sN lenD (sCons (sNm 0) sNil)) (sN lenD (sCons (sNm 1) sNil))) [.v (.lst ds), .v (.lst ds), .no] = .ret false := by
    unfold sB s2
    rw [l0, M.bind_ret, l1, M.bind_ret]
    show ((eqPy true (.int ds.length) (.int ds.length)).bind _).bind _ = _
    rw [eq_int, decide_eq_true rfl]
    rfl
  have a6 : sRet (sN allD (sCons (sLc (sRg1 (sCons (sN lenD (sCons (sNm 1) sNil)) sNil)) (.n 2) [2] tYesB (sCal 0 (runF 2 [0, 1] [] (F 0)) (sCons (s2 ixD (sNm 0) (sNm 2)) (sCons (s2 ixD (sNm 1) (sNm 2)) sNil)) sNil)) sNil)) [.v (.lst ds), .v (.lst ds), .no] = .ret (.rt (.dt (.bl true)), [.v (.lst ds), .v (.lst ds), .no]) := by
    have e : allD [.lst (List.replicate ds.length (.bl true))] = .ret (.at (.bl true)) := by
      show M.of (Option.map (fun bs => R.at (.bl (bs.all id))) (D.bools (List.replicate ds.length (.bl true)))) = _
      rw [bools_rep]
      show M.ret (R.at (.bl ((List.replicate ds.length true).all id))) = _
      have ha : (List.replicate ds.length true).all id = true := List.all_eq_true.mpr fun b hb => by rw [(List.mem_replicate.mp hb).2]; rfl
      rw [ha]
    exact sRet_eq (sN_eq (z := .at (.bl true)) (sCons_eq hm rfl) e)
  have key : b__law_same F [.v (.lst ds), .v (.lst ds), .no] = .ret (.rt (.dt (.bl true)), [.v (.lst ds), .v (.lst ds), .no]) := by
    unfold b__law_same
    refine (seq_nx (if_f a1)).trans (seq_rt ?_)
    refine (if_t a2).trans ?_
    refine (seq_nx (if_f a3)).trans ?_
    refine (seq_nx (if_f a4)).trans ?_
    refine (seq_nx (if_f a5)).trans ?_
    exact a6
  rw [e0, key]
  rfl
end Toy
namespace Toy
open PySem PySem.Spec L2 G
open PyProof.Rows hiding St
theorem same_ll {n : Nat} {ds : List D} (h : ∀ x ∈ ds, flatP x = true) (hl : ds.length ≤ 1000) : F_17 (n + 2) 0 [.lst ds, .lst ds] = .ret (.dt (.bl true)) :=
  same_fin (same_lc h hl)
end Toy
namespace Toy
open PySem PySem.Spec L2 G
open PyProof.Rows hiding St
/-! ### kinds: their texts tell them apart -/
def txK : D → Str
  | .tup [_, .int l, .int h] => (("num " ++ Str.ofString (toString l)) ++ " ") ++ Str.ofString (toString h)
  | .tup [_, .tup ws] => Str.join " " ("of" :: (D.strs ws).getD [])
  | _ => "any"
def textRun (o : D) : M R := match o with
  | .ins C fs => match mt_text_1 C with
    | some f => f [.ins C fs] []
    | none => .fail
  | _ => .fail
theorem texts_ok : allKinds.all (fun k => match (textRun (koS k)).val with | some z => D.eqb z.toD (.str (txK k)) | none => false) = true := by decide +kernel
theorem texts_ne : allKinds.all (fun a => allKinds.all fun b => D.eqb a b || !decide (txK a = txK b)) = true := by decide +kernel
theorem text_run {k : D} (h : k ∈ allKinds) : ∃ z, textRun (koS k) = .ret z ∧ z.toD = .str (txK k) := by
  have := List.all_eq_true.mp texts_ok k h
  split at this
  · rename_i z hz
    exact ⟨z, M.of_val hz, D.eqb_eq this⟩
  · cases this
theorem text_inj {a b : D} (ha : a ∈ allKinds) (hb : b ∈ allKinds) (h : txK a = txK b) : a = b := by
  have := List.all_eq_true.mp (List.all_eq_true.mp texts_ne a ha) b hb
  rw [Bool.or_eq_true] at this
  rcases this with e | e
  · exact D.eqb_eq e
  · rw [h] at e; simp at e
theorem kind_ins {k : D} (h : k ∈ allKinds) : ∃ C fs, koS k = .ins C fs ∧ (C = 2 ∨ C = 3 ∨ C = 4) := by
  have hh : allKinds.all (fun k => match koS k with | .ins C _ => decide (C = 2 ∨ C = 3 ∨ C = 4) | _ => false) = true := by decide +kernel
  have := List.all_eq_true.mp hh k h
  split at this
  · rename_i C fs e
    exact ⟨C, fs, e, of_decide_eq_true this⟩
  · cases this
end Toy
namespace Toy
open PySem PySem.Spec L2 G
open PyProof.Rows hiding St
/-! ### options and places made -/
theorem nm_ok : ([("-a" : Str), "-b", "-all", "-abc", "-on", "-x"]).all (fun n => (match (f_is_option_name [.str n]).val with | some z => R.eqb z (.dt (.bl true)) | none => false) && (match (f_Option___repr__ [.ins 0 [.str n, .non, .non]]).val with | some z => R.eqb z (.dt (.str (("Option(" ++ n) ++ ")"))) | none => false)) = true := by decide +kernel
theorem bt_ok : ([0, 1, 2, 3, 4] : List Int).all (fun n => match (f_is_between [.int n, .int 0, .int 4]).val with | some z => R.eqb z (.dt (.bl true)) | none => false) = true := by decide +kernel
theorem val_eqb {m : M R} {r : R} (h : (match m.val with | some z => R.eqb z r | none => false) = true) : m = .ret r := by
  split at h
  · rename_i z hz
    rw [← R.eqb_eq h]
    exact M.of_val hz
  · cases h
def dx : List Str := ["-a", "-b", "-all", "-abc", "-on", "-x"]
theorem name_ok {n : Str} (h : n ∈ dx) : f_is_option_name [.str n] = .ret (.dt (.bl true)) := by
  have := List.all_eq_true.mp nm_ok n h
  rw [Bool.and_eq_true] at this
  exact val_eqb this.1
theorem betw_ok {m : Int} (h0 : 0 ≤ m) (h4 : m ≤ 4) : f_is_between [.int m, .int 0, .int 4] = .ret (.dt (.bl true)) := by
  have hm : m ∈ ([0, 1, 2, 3, 4] : List Int) := by
    simp only [List.mem_cons, List.not_mem_nil, or_false]
    omega
  exact val_eqb (List.all_eq_true.mp bt_ok m hm)
theorem opt_init {n : Str} {k : D} {m : Int} (hA : f_is_option_name [.str n] = .ret (.dt (.bl true))) (hB : f_is_between [.int m, .int 0, .int 4] = .ret (.dt (.bl true))) : f_Option___init__ [.str n, k, .int m] = .ret (.i 0 [.str n, k, .int m]) := by
  simp [sNm, sK, sAnd, sOr, sNot, sIf, tAndB, tOrB, tNotB, sB, s2, sN, sM, sCh, sCons, sNil, sLst, sTup, sFl, flD, sSl, sPo, sStar, starD, X.fz, sRet, sSeq, sIfS, sSkip, sNev, sAsg, asgX, sAsgT, sPar2, sStF, putD, Tg.asg, setG, fin1, finI, runB, runI, frame, runF, runStarI, permute, sCal, sMth, sNew, sNew0, sEq, sUnI, sIsi, isND, D.isN, isBD, bStr, bInt, bBool, bList, bTuple, D.flat, List.filterMap, List.replicate, f_Option___init__, b_Option___init__, hA, hB, ix_name, ix_kind, ix_most]
theorem ready_opt0 {n : Str} {s k : D} {m : Int} {z : R} (hA : f_is_option_name [.str n] = .ret (.dt (.bl true))) (hB : f_is_between [.int m, .int 0, .int 4] = .ret (.dt (.bl true))) (hk : f__law_ready_kind [s] = .ret z) (hz : z.toD = k) : f__law_ready_option [.tup [.str n, s, .int m]] = .ret (.nw (.i 0 [.str n, k, .int m])) := by
  simp [sNm, sK, sAnd, sOr, sNot, sIf, tAndB, tOrB, tNotB, sB, s2, sN, sM, sCh, sCons, sNil, sLst, sTup, sFl, flD, sSl, sPo, sStar, starD, X.fz, sRet, sSeq, sIfS, sSkip, sNev, sAsg, asgX, sAsgT, sPar2, sStF, putD, Tg.asg, setG, fin1, finI, runB, runI, frame, runF, runStarI, permute, sCal, sMth, sNew, sNew0, sEq, sUnI, sIsi, isND, D.isN, isBD, bStr, bInt, bBool, bList, bTuple, D.flat, List.filterMap, List.replicate, f__law_ready_option, b__law_ready_option, hk, hz, opt_init hA hB, ixD]
theorem ready_opt {n : Str} {s : D} {m : Int} (hn : n ∈ dn) (hs : s ∈ sorts) (h0 : 0 ≤ m) (h4 : m ≤ 4) : f__law_ready_option [.tup [.str n, s, .int m]] = .ret (.nw (.i 0 [.str n, koS s, .int m])) := by
  obtain ⟨z, h1, h2⟩ := ready_ok hs
  exact ready_opt0 (name_ok (show n ∈ dx from (List.mem_append_left [("-x" : Str)] hn : n ∈ dn ++ [("-x" : Str)]))) (betw_ok h0 h4) h1 h2
end Toy
namespace Toy
open PySem PySem.Spec L2 G
open PyProof.Rows hiding St
/-! ### == of kinds -/
theorem kind_eq {F : Nat → List D → M R} {a b : D} (ha : a ∈ allKinds) (hb : b ∈ allKinds) : eqB cP (mt_eq_r25 F) (koS a) (koS b) = .ret (decide (txK a = txK b)) := by
  obtain ⟨C, fs, e1, hC⟩ := kind_ins ha
  obtain ⟨C', fs', e2, hC'⟩ := kind_ins hb
  obtain ⟨z, t1, t2⟩ := text_run ha
  obtain ⟨z', t1', t2'⟩ := text_run hb
  rw [e1] at t1 ⊢
  rw [e2] at t1' ⊢
  unfold textRun at t1 t1'
  rcases hC with rfl | rfl | rfl
  · have u1 : f_AnyWord_text [.ins 2 fs] = .ret z := t1
    rcases hC' with rfl | rfl | rfl
    · have u2 : f_AnyWord_text [.ins 2 fs'] = .ret z' := t1'
      simp [sNm, sK, sAnd, sOr, sNot, sIf, tAndB, tOrB, tNotB, sB, s2, sN, sM, sCh, sCons, sNil, sLst, sTup, sFl, flD, sSl, sPo, sStar, starD, X.fz, sRet, sSeq, sIfS, sSkip, sNev, sAsg, asgX, sAsgT, sPar2, sStF, putD, Tg.asg, setG, fin1, finI, runB, runI, frame, runF, runStarI, permute, sCal, sMth, sNew, sNew0, sEq, sUnI, sIsi, isND, D.isN, isBD, bStr, bInt, bBool, bList, bTuple, D.flat, List.filterMap, List.replicate, eqB, mt_eq_r25, okTy, cP, f_Kind___eq__, b_Kind___eq__, is_Kind, mt_text_1, boolR, eq_str, u1, u2, t2, t2']
    · have u2 : f_OneOf_text [.ins 3 fs'] = .ret z' := t1'
      simp [sNm, sK, sAnd, sOr, sNot, sIf, tAndB, tOrB, tNotB, sB, s2, sN, sM, sCh, sCons, sNil, sLst, sTup, sFl, flD, sSl, sPo, sStar, starD, X.fz, sRet, sSeq, sIfS, sSkip, sNev, sAsg, asgX, sAsgT, sPar2, sStF, putD, Tg.asg, setG, fin1, finI, runB, runI, frame, runF, runStarI, permute, sCal, sMth, sNew, sNew0, sEq, sUnI, sIsi, isND, D.isN, isBD, bStr, bInt, bBool, bList, bTuple, D.flat, List.filterMap, List.replicate, eqB, mt_eq_r25, okTy, cP, f_Kind___eq__, b_Kind___eq__, is_Kind, mt_text_1, boolR, eq_str, u1, u2, t2, t2']
    · have u2 : f_Number_text [.ins 4 fs'] = .ret z' := t1'
      simp [sNm, sK, sAnd, sOr, sNot, sIf, tAndB, tOrB, tNotB, sB, s2, sN, sM, sCh, sCons, sNil, sLst, sTup, sFl, flD, sSl, sPo, sStar, starD, X.fz, sRet, sSeq, sIfS, sSkip, sNev, sAsg, asgX, sAsgT, sPar2, sStF, putD, Tg.asg, setG, fin1, finI, runB, runI, frame, runF, runStarI, permute, sCal, sMth, sNew, sNew0, sEq, sUnI, sIsi, isND, D.isN, isBD, bStr, bInt, bBool, bList, bTuple, D.flat, List.filterMap, List.replicate, eqB, mt_eq_r25, okTy, cP, f_Kind___eq__, b_Kind___eq__, is_Kind, mt_text_1, boolR, eq_str, u1, u2, t2, t2']
  · have u1 : f_OneOf_text [.ins 3 fs] = .ret z := t1
    rcases hC' with rfl | rfl | rfl
    · have u2 : f_AnyWord_text [.ins 2 fs'] = .ret z' := t1'
      simp [sNm, sK, sAnd, sOr, sNot, sIf, tAndB, tOrB, tNotB, sB, s2, sN, sM, sCh, sCons, sNil, sLst, sTup, sFl, flD, sSl, sPo, sStar, starD, X.fz, sRet, sSeq, sIfS, sSkip, sNev, sAsg, asgX, sAsgT, sPar2, sStF, putD, Tg.asg, setG, fin1, finI, runB, runI, frame, runF, runStarI, permute, sCal, sMth, sNew, sNew0, sEq, sUnI, sIsi, isND, D.isN, isBD, bStr, bInt, bBool, bList, bTuple, D.flat, List.filterMap, List.replicate, eqB, mt_eq_r25, okTy, cP, f_Kind___eq__, b_Kind___eq__, is_Kind, mt_text_1, boolR, eq_str, u1, u2, t2, t2']
    · have u2 : f_OneOf_text [.ins 3 fs'] = .ret z' := t1'
      simp [sNm, sK, sAnd, sOr, sNot, sIf, tAndB, tOrB, tNotB, sB, s2, sN, sM, sCh, sCons, sNil, sLst, sTup, sFl, flD, sSl, sPo, sStar, starD, X.fz, sRet, sSeq, sIfS, sSkip, sNev, sAsg, asgX, sAsgT, sPar2, sStF, putD, Tg.asg, setG, fin1, finI, runB, runI, frame, runF, runStarI, permute, sCal, sMth, sNew, sNew0, sEq, sUnI, sIsi, isND, D.isN, isBD, bStr, bInt, bBool, bList, bTuple, D.flat, List.filterMap, List.replicate, eqB, mt_eq_r25, okTy, cP, f_Kind___eq__, b_Kind___eq__, is_Kind, mt_text_1, boolR, eq_str, u1, u2, t2, t2']
    · have u2 : f_Number_text [.ins 4 fs'] = .ret z' := t1'
      simp [sNm, sK, sAnd, sOr, sNot, sIf, tAndB, tOrB, tNotB, sB, s2, sN, sM, sCh, sCons, sNil, sLst, sTup, sFl, flD, sSl, sPo, sStar, starD, X.fz, sRet, sSeq, sIfS, sSkip, sNev, sAsg, asgX, sAsgT, sPar2, sStF, putD, Tg.asg, setG, fin1, finI, runB, runI, frame, runF, runStarI, permute, sCal, sMth, sNew, sNew0, sEq, sUnI, sIsi, isND, D.isN, isBD, bStr, bInt, bBool, bList, bTuple, D.flat, List.filterMap, List.replicate, eqB, mt_eq_r25, okTy, cP, f_Kind___eq__, b_Kind___eq__, is_Kind, mt_text_1, boolR, eq_str, u1, u2, t2, t2']
  · have u1 : f_Number_text [.ins 4 fs] = .ret z := t1
    rcases hC' with rfl | rfl | rfl
    · have u2 : f_AnyWord_text [.ins 2 fs'] = .ret z' := t1'
      simp [sNm, sK, sAnd, sOr, sNot, sIf, tAndB, tOrB, tNotB, sB, s2, sN, sM, sCh, sCons, sNil, sLst, sTup, sFl, flD, sSl, sPo, sStar, starD, X.fz, sRet, sSeq, sIfS, sSkip, sNev, sAsg, asgX, sAsgT, sPar2, sStF, putD, Tg.asg, setG, fin1, finI, runB, runI, frame, runF, runStarI, permute, sCal, sMth, sNew, sNew0, sEq, sUnI, sIsi, isND, D.isN, isBD, bStr, bInt, bBool, bList, bTuple, D.flat, List.filterMap, List.replicate, eqB, mt_eq_r25, okTy, cP, f_Kind___eq__, b_Kind___eq__, is_Kind, mt_text_1, boolR, eq_str, u1, u2, t2, t2']
    · have u2 : f_OneOf_text [.ins 3 fs'] = .ret z' := t1'
      simp [sNm, sK, sAnd, sOr, sNot, sIf, tAndB, tOrB, tNotB, sB, s2, sN, sM, sCh, sCons, sNil, sLst, sTup, sFl, flD, sSl, sPo, sStar, starD, X.fz, sRet, sSeq, sIfS, sSkip, sNev, sAsg, asgX, sAsgT, sPar2, sStF, putD, Tg.asg, setG, fin1, finI, runB, runI, frame, runF, runStarI, permute, sCal, sMth, sNew, sNew0, sEq, sUnI, sIsi, isND, D.isN, isBD, bStr, bInt, bBool, bList, bTuple, D.flat, List.filterMap, List.replicate, eqB, mt_eq_r25, okTy, cP, f_Kind___eq__, b_Kind___eq__, is_Kind, mt_text_1, boolR, eq_str, u1, u2, t2, t2']
    · have u2 : f_Number_text [.ins 4 fs'] = .ret z' := t1'
      simp [sNm, sK, sAnd, sOr, sNot, sIf, tAndB, tOrB, tNotB, sB, s2, sN, sM, sCh, sCons, sNil, sLst, sTup, sFl, flD, sSl, sPo, sStar, starD, X.fz, sRet, sSeq, sIfS, sSkip, sNev, sAsg, asgX, sAsgT, sPar2, sStF, putD, Tg.asg, setG, fin1, finI, runB, runI, frame, runF, runStarI, permute, sCal, sMth, sNew, sNew0, sEq, sUnI, sIsi, isND, D.isN, isBD, bStr, bInt, bBool, bList, bTuple, D.flat, List.filterMap, List.replicate, eqB, mt_eq_r25, okTy, cP, f_Kind___eq__, b_Kind___eq__, is_Kind, mt_text_1, boolR, eq_str, u1, u2, t2, t2']
end Toy
namespace Toy
open PySem PySem.Spec L2 G
open PyProof.Rows hiding St
theorem kind_non {F : Nat → List D → M R} {a : D} (ha : a ∈ allKinds) : eqB cP (mt_eq_r25 F) (koS a) .non = .ret false ∧ eqG false cP (mt_eq_r25 F) .non (koS a) = .ret false := by
  obtain ⟨C, fs, e1, hC⟩ := kind_ins ha
  rw [e1]
  rcases hC with rfl | rfl | rfl
  · exact ⟨rfl, rfl⟩
  · exact ⟨rfl, rfl⟩
  · exact ⟨rfl, rfl⟩
theorem eqG_ins {F : MSem} {P : Nat → Bool} {neg : Bool} {C : Nat} {fs : List D} {d : D} : eqG neg P F (.ins C fs) d = eqB P F (.ins C fs) d := by
  cases neg <;> rfl
/-- sorts: their instances are equal where they are -/
theorem sort_eq {F : Nat → List D → M R} {a b : D} (ha : a ∈ sorts) (hb : b ∈ sorts) : ∃ t, eqG false cP (mt_eq_r25 F) (koS a) (koS b) = .ret t ∧ (t = true ↔ a = b) := by
  rcases List.mem_cons.mp ha with rfl | ha <;> rcases List.mem_cons.mp hb with rfl | hb
  · exact ⟨true, rfl, by simp⟩
  · refine ⟨false, (kind_non hb).2, ?_⟩
    obtain ⟨t, r, e⟩ := kind_tup hb
    rw [e]
    simp
  · obtain ⟨C, fs, e1, _⟩ := kind_ins ha
    refine ⟨false, by have := (kind_non (F := F) ha).1; rw [e1] at this ⊢; rw [eqG_ins]; exact this, ?_⟩
    obtain ⟨t, r, e⟩ := kind_tup ha
    rw [e]
    simp
  · obtain ⟨C, fs, e1, _⟩ := kind_ins ha
    refine ⟨decide (txK a = txK b), by have := kind_eq (F := F) ha hb; rw [e1] at this ⊢; rw [eqG_ins]; exact this, ?_⟩
    rw [decide_eq_true_iff]
    exact ⟨text_inj ha hb, fun e => by rw [e]⟩
theorem pys_eq : sorts.all (fun a => sorts.all fun b => match a.py, b.py with | some x, some y => PyData.eqv x y == D.eqb a b | _, _ => false) = true := by decide +kernel
theorem eqb_refl : sorts.all (fun a => D.eqb a a) = true := by decide +kernel
theorem sort_py {a b : D} (ha : a ∈ sorts) (hb : b ∈ sorts) : ∃ x y, a.py = some x ∧ b.py = some y ∧ x.depth ≤ 20 ∧ y.depth ≤ 20 ∧ (PyData.eqv x y = true ↔ a = b) := by
  obtain ⟨x, h1, h2⟩ := py_ok ha
  obtain ⟨y, h3, h4⟩ := py_ok hb
  have := List.all_eq_true.mp (List.all_eq_true.mp pys_eq a ha) b hb
  rw [h1, h3] at this
  have this' : (PyData.eqv x y == D.eqb a b) = true := this
  rw [beq_iff_eq] at this'
  refine ⟨x, y, h1, h3, h2, h4, ?_⟩
  rw [this']
  exact ⟨D.eqb_eq, fun e => e ▸ List.all_eq_true.mp eqb_refl a ha⟩
end Toy
namespace Toy
open PySem PySem.Spec L2 G
open PyProof.Rows hiding St
/-! ### == of options, of places; of what was drawn -/
theorem opt_eq {n : Nat} {n1 n2 : Str} {a b : D} {m1 m2 : Int} (ha : a ∈ sorts) (hb : b ∈ sorts) : ∃ t, F_25 (n + 1) 1 [.ins 0 [.str n1, koS a, .int m1], .ins 0 [.str n2, koS b, .int m2]] = .ret (.dt (.bl t)) ∧ (t = true ↔ n1 = n2 ∧ a = b ∧ m1 = m2) := by
  obtain ⟨t, e, ht⟩ := sort_eq (F := F_25 n) ha hb
  have e0 : F_25 (n + 1) 1 [.ins 0 [.str n1, koS a, .int m1], .ins 0 [.str n2, koS b, .int m2]] = runB 2 (b_Option___eq__ (F_25 n)) [.ins 0 [.str n1, koS a, .int m1], .ins 0 [.str n2, koS b, .int m2]] := rfl
  rw [e0]
  by_cases h1 : n1 = n2
  · cases t with
    | true =>
      refine ⟨decide (m1 = m2), by simp [sNm, sK, sAnd, sOr, sNot, sIf, tAndB, tOrB, tNotB, sB, s2, sN, sM, sCh, sCons, sNil, sLst, sTup, sFl, flD, sSl, sPo, sStar, starD, X.fz, sRet, sSeq, sIfS, sSkip, sNev, sAsg, asgX, sAsgT, sPar2, sStF, putD, Tg.asg, setG, fin1, finI, runB, runI, frame, runF, runStarI, permute, sCal, sMth, sNew, sNew0, sEq, sUnI, sIsi, isND, D.isN, isBD, bStr, bInt, bBool, bList, bTuple, D.flat, List.filterMap, List.replicate, b_Option___eq__, is_Option, ix_name, ix_kind, ix_most, eq_str, eq_int, h1, e], ?_⟩
      have := ht.mp rfl
      simp [h1, this]
    | false =>
      refine ⟨false, by simp [sNm, sK, sAnd, sOr, sNot, sIf, tAndB, tOrB, tNotB, sB, s2, sN, sM, sCh, sCons, sNil, sLst, sTup, sFl, flD, sSl, sPo, sStar, starD, X.fz, sRet, sSeq, sIfS, sSkip, sNev, sAsg, asgX, sAsgT, sPar2, sStF, putD, Tg.asg, setG, fin1, finI, runB, runI, frame, runF, runStarI, permute, sCal, sMth, sNew, sNew0, sEq, sUnI, sIsi, isND, D.isN, isBD, bStr, bInt, bBool, bList, bTuple, D.flat, List.filterMap, List.replicate, b_Option___eq__, is_Option, ix_name, ix_kind, ix_most, eq_str, eq_int, h1, e], ?_⟩
      have hn : ¬ a = b := fun z => by simpa using ht.mpr z
      simp [hn]
  · refine ⟨false, by simp [sNm, sK, sAnd, sOr, sNot, sIf, tAndB, tOrB, tNotB, sB, s2, sN, sM, sCh, sCons, sNil, sLst, sTup, sFl, flD, sSl, sPo, sStar, starD, X.fz, sRet, sSeq, sIfS, sSkip, sNev, sAsg, asgX, sAsgT, sPar2, sStF, putD, Tg.asg, setG, fin1, finI, runB, runI, frame, runF, runStarI, permute, sCal, sMth, sNew, sNew0, sEq, sUnI, sIsi, isND, D.isN, isBD, bStr, bInt, bBool, bList, bTuple, D.flat, List.filterMap, List.replicate, b_Option___eq__, is_Option, ix_name, ix_kind, ix_most, eq_str, eq_int, h1], ?_⟩
    simp [h1]
theorem place_eq {n : Nat} {a b : D} {l1 l2 m1 m2 : Int} (ha : a ∈ sorts) (hb : b ∈ sorts) : ∃ t, F_25 (n + 1) 0 [.ins 1 [koS a, .int l1, .int m1], .ins 1 [koS b, .int l2, .int m2]] = .ret (.dt (.bl t)) ∧ (t = true ↔ a = b ∧ l1 = l2 ∧ m1 = m2) := by
  obtain ⟨t, e, ht⟩ := sort_eq (F := F_25 n) ha hb
  have e0 : F_25 (n + 1) 0 [.ins 1 [koS a, .int l1, .int m1], .ins 1 [koS b, .int l2, .int m2]] = runB 2 (b_Place___eq__ (F_25 n)) [.ins 1 [koS a, .int l1, .int m1], .ins 1 [koS b, .int l2, .int m2]] := rfl
  rw [e0]
  cases t with
  | true =>
    have := ht.mp rfl
    by_cases h1 : l1 = l2
    · refine ⟨decide (m1 = m2), by simp [sNm, sK, sAnd, sOr, sNot, sIf, tAndB, tOrB, tNotB, sB, s2, sN, sM, sCh, sCons, sNil, sLst, sTup, sFl, flD, sSl, sPo, sStar, starD, X.fz, sRet, sSeq, sIfS, sSkip, sNev, sAsg, asgX, sAsgT, sPar2, sStF, putD, Tg.asg, setG, fin1, finI, runB, runI, frame, runF, runStarI, permute, sCal, sMth, sNew, sNew0, sEq, sUnI, sIsi, isND, D.isN, isBD, bStr, bInt, bBool, bList, bTuple, D.flat, List.filterMap, List.replicate, b_Place___eq__, is_Place, ix_least, ix_kind, ix_most, eq_str, eq_int, h1, e], ?_⟩
      simp [h1, this]
    · refine ⟨false, by simp [sNm, sK, sAnd, sOr, sNot, sIf, tAndB, tOrB, tNotB, sB, s2, sN, sM, sCh, sCons, sNil, sLst, sTup, sFl, flD, sSl, sPo, sStar, starD, X.fz, sRet, sSeq, sIfS, sSkip, sNev, sAsg, asgX, sAsgT, sPar2, sStF, putD, Tg.asg, setG, fin1, finI, runB, runI, frame, runF, runStarI, permute, sCal, sMth, sNew, sNew0, sEq, sUnI, sIsi, isND, D.isN, isBD, bStr, bInt, bBool, bList, bTuple, D.flat, List.filterMap, List.replicate, b_Place___eq__, is_Place, ix_least, ix_kind, ix_most, eq_str, eq_int, h1, e], ?_⟩
      simp [h1]
  | false =>
    refine ⟨false, by simp [sNm, sK, sAnd, sOr, sNot, sIf, tAndB, tOrB, tNotB, sB, s2, sN, sM, sCh, sCons, sNil, sLst, sTup, sFl, flD, sSl, sPo, sStar, starD, X.fz, sRet, sSeq, sIfS, sSkip, sNev, sAsg, asgX, sAsgT, sPar2, sStF, putD, Tg.asg, setG, fin1, finI, runB, runI, frame, runF, runStarI, permute, sCal, sMth, sNew, sNew0, sEq, sUnI, sIsi, isND, D.isN, isBD, bStr, bInt, bBool, bList, bTuple, D.flat, List.filterMap, List.replicate, b_Place___eq__, is_Place, ix_least, ix_kind, ix_most, eq_str, eq_int, e], ?_⟩
    have hn : ¬ a = b := fun z => by simpa using ht.mpr z
    simp [hn]
theorem opt_py_eq {neg : Bool} {n1 n2 : Str} {a b : D} {m1 m2 : Int} (ha : a ∈ sorts) (hb : b ∈ sorts) : ∃ t, eqPy neg (.tup [.str n1, a, .int m1]) (.tup [.str n2, b, .int m2]) = .ret (.at (.bl (neg != t))) ∧ (t = true ↔ n1 = n2 ∧ a = b ∧ m1 = m2) := by
  obtain ⟨x, y, h1, h2, h3, h4, h5⟩ := sort_py ha hb
  have p1 : (D.tup [.str n1, a, .int m1]).py = some (.tuple [.str n1, x, .int m1]) := by simp only [D.py, D.pys, h1, Option.map_some]
  have p2 : (D.tup [.str n2, b, .int m2]).py = some (.tuple [.str n2, y, .int m2]) := by simp only [D.py, D.pys, h2, Option.map_some]
  have d1 : (PyData.tuple [.str n1, x, .int m1]).depth ≤ 60 := by simp only [PyData.depth, PyData.depthAll]; omega
  have d2 : (PyData.tuple [.str n2, y, .int m2]).depth ≤ 60 := by simp only [PyData.depth, PyData.depthAll]; omega
  refine ⟨PyData.eqv (.tuple [.str n1, x, .int m1]) (.tuple [.str n2, y, .int m2]), ?_, ?_⟩
  · unfold eqPy
    rw [p1, p2]
    show (if _ then _ else _) = _
    rw [if_pos ⟨d1, d2⟩]
  · simp only [PyData.eqv, PyData.eqvAll, Bool.and_eq_true, Bool.and_true, h5, beq_iff_eq]
theorem slot_py_eq {neg : Bool} {a b : D} {l1 l2 m1 m2 : Int} (ha : a ∈ sorts) (hb : b ∈ sorts) : ∃ t, eqPy neg (.tup [a, .int l1, .int m1]) (.tup [b, .int l2, .int m2]) = .ret (.at (.bl (neg != t))) ∧ (t = true ↔ a = b ∧ l1 = l2 ∧ m1 = m2) := by
  obtain ⟨x, y, h1, h2, h3, h4, h5⟩ := sort_py ha hb
  have p1 : (D.tup [a, .int l1, .int m1]).py = some (.tuple [x, .int l1, .int m1]) := by simp only [D.py, D.pys, h1, Option.map_some]
  have p2 : (D.tup [b, .int l2, .int m2]).py = some (.tuple [y, .int l2, .int m2]) := by simp only [D.py, D.pys, h2, Option.map_some]
  have d1 : (PyData.tuple [x, .int l1, .int m1]).depth ≤ 60 := by simp only [PyData.depth, PyData.depthAll]; omega
  have d2 : (PyData.tuple [y, .int l2, .int m2]).depth ≤ 60 := by simp only [PyData.depth, PyData.depthAll]; omega
  refine ⟨PyData.eqv (.tuple [x, .int l1, .int m1]) (.tuple [y, .int l2, .int m2]), ?_, ?_⟩
  · unfold eqPy
    rw [p1, p2]
    show (if _ then _ else _) = _
    rw [if_pos ⟨d1, d2⟩]
  · simp only [PyData.eqv, PyData.eqvAll, Bool.and_eq_true, Bool.and_true, h5, beq_iff_eq]
end Toy
namespace Toy
open PySem PySem.Spec L2 G
open PyProof.Rows hiding St
/-! ### the items of an option -/
theorem add_ok : dx.all (fun n => (match (addD (.str n) (.str "=")).val with | some z => R.eqb z (.at (.str (n ++ "="))) | none => false) && menu.all fun w => match (addD (.str (n ++ "=")) (.str w)).val with | some z => R.eqb z (.at (.str ((n ++ "=") ++ w))) | none => false) = true := by decide +kernel
theorem add1 {n : Str} (hn : n ∈ dx) : addD (.str n) (.str "=") = .ret (.at (.str (n ++ "="))) := by
  have := List.all_eq_true.mp add_ok n hn
  rw [Bool.and_eq_true] at this
  exact val_eqb this.1
theorem add2 {n w : Str} (hn : n ∈ dx) (hw : w ∈ menu) : addD (.str (n ++ "=")) (.str w) = .ret (.at (.str ((n ++ "=") ++ w))) := by
  have := List.all_eq_true.mp add_ok n hn
  rw [Bool.and_eq_true] at this
  exact val_eqb (List.all_eq_true.mp this.2 w hw)
/-- the words of a sort -/
theorem sort_cases {s : D} (hs : s ∈ sorts) : (s = .non) ∨ (∃ fs, (koS s = .ins 2 fs ∨ koS s = .ins 4 fs) ∧ (∃ t r, s = .tup (.str t :: r) ∧ t ≠ "of") ∧ wsS s = []) ∨ (∃ ws : List Str, s = ofK ws ∧ koS s = .ins 3 [.tup (ws.map .str)] ∧ ((∃ a ∈ menu, ws = [a]) ∨ ∃ a ∈ menu, ∃ b ∈ menu, ws = [a, b])) := by
  rcases List.mem_cons.mp hs with rfl | h
  · exact .inl rfl
  · right
    rcases List.mem_cons.mp h with rfl | h
    · exact .inl ⟨[], .inl rfl, ⟨_, _, rfl, by decide +kernel⟩, rfl⟩
    · rcases List.mem_append.mp h with h | h
      · obtain ⟨l, h1, h2⟩ := List.mem_flatten.mp h
        obtain ⟨a, _, rfl⟩ := List.mem_map.mp h1
        obtain ⟨b, _, rfl⟩ := List.mem_map.mp h2
        exact .inl ⟨_, .inr rfl, ⟨_, _, rfl, by decide +kernel⟩, rfl⟩
      · obtain ⟨ws, h1, rfl⟩ := List.mem_map.mp h
        refine .inr ⟨ws, rfl, rfl, ?_⟩
        rcases List.mem_append.mp h1 with h | h
        · obtain ⟨a, ha, rfl⟩ := List.mem_map.mp h
          exact .inl ⟨a, ha, rfl⟩
        · obtain ⟨l, h1, h2⟩ := List.mem_flatten.mp h
          obtain ⟨a, ha, rfl⟩ := List.mem_map.mp h1
          obtain ⟨b, hb, rfl⟩ := List.mem_map.mp h2
          exact .inr ⟨a, ha, b, (List.mem_filter.mp hb).1, rfl⟩
def itemsL (n : Str) (s : D) : List D := .str n :: (wsS s).map fun w => match w with | .str w => .str ((n ++ "=") ++ w) | d => d
theorem items_opt {n : Str} {s m : D} (hn : n ∈ dx) (hs : s ∈ sorts) : f_Option_all_items [.ins 0 [.str n, koS s, m]] = .ret (.nw (.l (itemsL n s))) := by
  rcases sort_cases hs with rfl | ⟨fs, h, _, hw⟩ | ⟨ws, rfl, h, hw⟩
  · simp [sNm, sK, sAnd, sOr, sNot, sIf, tAndB, tOrB, tNotB, sB, s2, sN, sM, sCh, sCons, sNil, sLst, sTup, sFl, flD, sSl, sPo, sStar, starD, X.fz, sRet, sSeq, sIfS, sSkip, sNev, sAsg, asgX, sAsgT, sPar2, sStF, putD, Tg.asg, setG, fin1, finI, runB, runI, frame, runF, runStarI, permute, sCal, sMth, sNew, sNew0, sEq, sUnI, sIsi, isND, D.isN, isBD, bStr, bInt, bBool, bList, bTuple, D.flat, List.filterMap, List.replicate, f_Option_all_items, b_Option_all_items, koS, ix_kind, ix_name, sLc, sSq, itSq, mapC, itemsL, wsS]
  · rcases h with h | h
    · rw [h]
      simp [sNm, sK, sAnd, sOr, sNot, sIf, tAndB, tOrB, tNotB, sB, s2, sN, sM, sCh, sCons, sNil, sLst, sTup, sFl, flD, sSl, sPo, sStar, starD, X.fz, sRet, sSeq, sIfS, sSkip, sNev, sAsg, asgX, sAsgT, sPar2, sStF, putD, Tg.asg, setG, fin1, finI, runB, runI, frame, runF, runStarI, permute, sCal, sMth, sNew, sNew0, sEq, sUnI, sIsi, isND, D.isN, isBD, bStr, bInt, bBool, bList, bTuple, D.flat, List.filterMap, List.replicate, f_Option_all_items, b_Option_all_items, ix_kind, ix_name, sLc, sSq, itSq, mapC, itemsL, hw, sMth, mt_words_1, f_Kind_words, b_Kind_words]
    · rw [h]
      simp [sNm, sK, sAnd, sOr, sNot, sIf, tAndB, tOrB, tNotB, sB, s2, sN, sM, sCh, sCons, sNil, sLst, sTup, sFl, flD, sSl, sPo, sStar, starD, X.fz, sRet, sSeq, sIfS, sSkip, sNev, sAsg, asgX, sAsgT, sPar2, sStF, putD, Tg.asg, setG, fin1, finI, runB, runI, frame, runF, runStarI, permute, sCal, sMth, sNew, sNew0, sEq, sUnI, sIsi, isND, D.isN, isBD, bStr, bInt, bBool, bList, bTuple, D.flat, List.filterMap, List.replicate, f_Option_all_items, b_Option_all_items, ix_kind, ix_name, sLc, sSq, itSq, mapC, itemsL, hw, sMth, mt_words_1, f_Kind_words, b_Kind_words]
  · rw [h]
    rcases hw with ⟨a, ha, rfl⟩ | ⟨a, ha, b, hb, rfl⟩
    · simp [sNm, sK, sAnd, sOr, sNot, sIf, tAndB, tOrB, tNotB, sB, s2, sN, sM, sCh, sCons, sNil, sLst, sTup, sFl, flD, sSl, sPo, sStar, starD, X.fz, sRet, sSeq, sIfS, sSkip, sNev, sAsg, asgX, sAsgT, sPar2, sStF, putD, Tg.asg, setG, fin1, finI, runB, runI, frame, runF, runStarI, permute, sCal, sMth, sNew, sNew0, sEq, sUnI, sIsi, isND, D.isN, isBD, bStr, bInt, bBool, bList, bTuple, D.flat, List.filterMap, List.replicate, f_Option_all_items, b_Option_all_items, ix_kind, ix_name, ix_own_words, sLc, sSq, itSq, mapC, tYesB, wipeG, itemsL, wsS, ofK, sMth, mt_words_1, f_OneOf_words, b_OneOf_words, listD, add1 hn, add2 hn ha]
    · simp [sNm, sK, sAnd, sOr, sNot, sIf, tAndB, tOrB, tNotB, sB, s2, sN, sM, sCh, sCons, sNil, sLst, sTup, sFl, flD, sSl, sPo, sStar, starD, X.fz, sRet, sSeq, sIfS, sSkip, sNev, sAsg, asgX, sAsgT, sPar2, sStF, putD, Tg.asg, setG, fin1, finI, runB, runI, frame, runF, runStarI, permute, sCal, sMth, sNew, sNew0, sEq, sUnI, sIsi, isND, D.isN, isBD, bStr, bInt, bBool, bList, bTuple, D.flat, List.filterMap, List.replicate, f_Option_all_items, b_Option_all_items, ix_kind, ix_name, ix_own_words, sLc, sSq, itSq, mapC, tYesB, wipeG, itemsL, wsS, ofK, sMth, mt_words_1, f_OneOf_words, b_OneOf_words, listD, add1 hn, add2 hn ha, add2 hn hb]
theorem add_l1 {x y : D} : addD (.lst [x]) (.lst [y]) = .ret (.nw (.l [x, y])) := rfl
theorem add_l2 {x y z : D} : addD (.lst [x]) (.lst [y, z]) = .ret (.nw (.l [x, y, z])) := rfl
theorem items_law {n : Str} {s m : D} (hn : n ∈ dx) (hs : s ∈ sorts) : f__law_items [.lst [.tup [.str n, s, m]]] = .ret (.nw (.l (itemsL n s))) := by
  rcases sort_cases hs with rfl | ⟨fs, h, ⟨t, r, rfl, ht⟩, hw⟩ | ⟨ws, rfl, h, hw⟩
  · simp [sNm, sK, sAnd, sOr, sNot, sIf, tAndB, tOrB, tNotB, sB, s2, sN, sM, sCh, sCons, sNil, sLst, sTup, sFl, flD, sSl, sPo, sStar, starD, X.fz, sRet, sSeq, sIfS, sSkip, sNev, sAsg, asgX, sAsgT, sPar2, sStF, putD, Tg.asg, setG, fin1, finI, runB, runI, frame, runF, runStarI, permute, sCal, sMth, sNew, sNew0, sEq, sUnI, sIsi, isND, D.isN, isBD, bStr, bInt, bBool, bList, bTuple, D.flat, List.filterMap, List.replicate, f__law_items, b__law_items, sFor, forL, sApp, xPure, sSq, itSq, itemsL, wsS]
  · simp [sNm, sK, sAnd, sOr, sNot, sIf, tAndB, tOrB, tNotB, sB, s2, sN, sM, sCh, sCons, sNil, sLst, sTup, sFl, flD, sSl, sPo, sStar, starD, X.fz, sRet, sSeq, sIfS, sSkip, sNev, sAsg, asgX, sAsgT, sPar2, sStF, putD, Tg.asg, setG, fin1, finI, runB, runI, frame, runF, runStarI, permute, sCal, sMth, sNew, sNew0, sEq, sUnI, sIsi, isND, D.isN, isBD, bStr, bInt, bBool, bList, bTuple, D.flat, List.filterMap, List.replicate, f__law_items, b__law_items, sFor, forL, sApp, xPure, sSq, itSq, itemsL, hw, ixD, eq_str, ht]
  · rcases hw with ⟨a, ha, rfl⟩ | ⟨a, ha, b, hb, rfl⟩
    · simp [sNm, sK, sAnd, sOr, sNot, sIf, tAndB, tOrB, tNotB, sB, s2, sN, sM, sCh, sCons, sNil, sLst, sTup, sFl, flD, sSl, sPo, sStar, starD, X.fz, sRet, sSeq, sIfS, sSkip, sNev, sAsg, asgX, sAsgT, sPar2, sStF, putD, Tg.asg, setG, fin1, finI, runB, runI, frame, runF, runStarI, permute, sCal, sMth, sNew, sNew0, sEq, sUnI, sIsi, isND, D.isN, isBD, bStr, bInt, bBool, bList, bTuple, D.flat, List.filterMap, List.replicate, f__law_items, b__law_items, sFor, forL, sApp, xPure, sSq, itSq, itemsL, wsS, ofK, ixD, eq_str, sLc, mapC, tYesB, wipeG, add1 hn, add2 hn ha, add_l1]
    · simp [sNm, sK, sAnd, sOr, sNot, sIf, tAndB, tOrB, tNotB, sB, s2, sN, sM, sCh, sCons, sNil, sLst, sTup, sFl, flD, sSl, sPo, sStar, starD, X.fz, sRet, sSeq, sIfS, sSkip, sNev, sAsg, asgX, sAsgT, sPar2, sStF, putD, Tg.asg, setG, fin1, finI, runB, runI, frame, runF, runStarI, permute, sCal, sMth, sNew, sNew0, sEq, sUnI, sIsi, isND, D.isN, isBD, bStr, bInt, bBool, bList, bTuple, D.flat, List.filterMap, List.replicate, f__law_items, b__law_items, sFor, forL, sApp, xPure, sSq, itSq, itemsL, wsS, ofK, ixD, eq_str, sLc, mapC, tYesB, wipeG, add1 hn, add2 hn ha, add2 hn hb, add_l2]
theorem items_flat {n : Str} {s : D} (hs : s ∈ sorts) : (∀ x ∈ itemsL n s, flatP x = true) ∧ (itemsL n s).length ≤ 1000 := by
  rcases sort_cases hs with rfl | ⟨fs, h, _, hw⟩ | ⟨ws, rfl, h, hw⟩
  · simp [itemsL, wsS, flatP]
  · simp [itemsL, hw, flatP]
  · rcases hw with ⟨a, ha, rfl⟩ | ⟨a, ha, b, hb, rfl⟩ <;> simp [itemsL, wsS, ofK, flatP]
end Toy
namespace Toy
open PySem PySem.Spec L2 G
open PyProof.Rows hiding St
/-! ### texts of options and places -/
theorem repr_opt {n : Str} {k m : D} (hn : n ∈ dx) : f_Option___repr__ [.ins 0 [.str n, k, m]] = .ret (.dt (.str (("Option(" ++ n) ++ ")"))) := by
  simp only [dx, List.mem_cons, List.not_mem_nil, or_false] at hn
  rcases hn with rfl | rfl | rfl | rfl | rfl | rfl <;> rfl
end Toy
namespace Toy
open PySem PySem.Spec L2 G
open PyProof.Rows hiding St
/-! ### places made -/
def mxI (l : Int) : Int := if l < 1 then 1 else l
def isR (m : M R) (r : R) : Bool := match m.val with | some z => R.eqb z r | none => false
theorem isR_eq {m : M R} {r : R} (h : isR m r = true) : m = .ret r := by
  unfold isR at h
  split at h
  · rename_i z hz
    rw [← R.eqb_eq h]
    exact M.of_val hz
  · cases h
def isB (m : M R) (b : Bool) : Bool := isR m (.dt (.bl b))
theorem isB_eq {m : M R} {b : Bool} (h : isB m b = true) : m = .ret (.dt (.bl b)) := isR_eq h
theorem place_facts : bnds.all (fun p => isR (maxD [.lst [.int p.1, .int 1]]) (.at (.int (mxI p.1))) && (isB (f_is_between [.int p.1, .int 0, .int 4]) true &&
    (isB (f_is_between [.int p.2, .int (mxI p.1), .int 4]) true || (isB (f_is_between [.int p.2, .int (mxI p.1), .int 4]) false && isB (f_is_between [.int p.2, .int 0, .int 0]) true)))) = true := by decide +kernel
theorem place_init {p : Int × Int} (hp : p ∈ bnds) {k : D} : f_Place___init__ [k, .int p.1, .int p.2] = .ret (.i 1 [k, .int p.1, .int p.2]) := by
  have h := List.all_eq_true.mp place_facts p hp
  rw [Bool.and_eq_true, Bool.and_eq_true, Bool.or_eq_true, Bool.and_eq_true] at h
  obtain ⟨h1, h2, h3⟩ := h
  have h1 := isR_eq h1
  have h2 := isB_eq h2
  rcases h3 with h3 | ⟨h3, h4⟩
  · have h3 := isB_eq h3
    simp [sNm, sK, sAnd, sOr, sNot, sIf, tAndB, tOrB, tNotB, sB, s2, sN, sM, sCh, sCons, sNil, sLst, sTup, sFl, flD, sSl, sPo, sStar, starD, X.fz, sRet, sSeq, sIfS, sSkip, sNev, sAsg, asgX, sAsgT, sPar2, sStF, putD, Tg.asg, setG, fin1, finI, runB, runI, frame, runF, runStarI, permute, sCal, sMth, sNew, sNew0, sEq, sUnI, sIsi, isND, D.isN, isBD, bStr, bInt, bBool, bList, bTuple, D.flat, List.filterMap, List.replicate, f_Place___init__, b_Place___init__, h1, h2, h3, ix_kind, ix_least, ix_most]
  · have h3 := isB_eq h3
    have h4 := isB_eq h4
    simp [sNm, sK, sAnd, sOr, sNot, sIf, tAndB, tOrB, tNotB, sB, s2, sN, sM, sCh, sCons, sNil, sLst, sTup, sFl, flD, sSl, sPo, sStar, starD, X.fz, sRet, sSeq, sIfS, sSkip, sNev, sAsg, asgX, sAsgT, sPar2, sStF, putD, Tg.asg, setG, fin1, finI, runB, runI, frame, runF, runStarI, permute, sCal, sMth, sNew, sNew0, sEq, sUnI, sIsi, isND, D.isN, isBD, bStr, bInt, bBool, bList, bTuple, D.flat, List.filterMap, List.replicate, f_Place___init__, b_Place___init__, h1, h2, h3, h4, ix_kind, ix_least, ix_most]
theorem ready_place {s : D} (hs : s ∈ sorts) {p : Int × Int} (hp : p ∈ bnds) : f__law_ready_place [.tup [s, .int p.1, .int p.2]] = .ret (.nw (.i 1 [koS s, .int p.1, .int p.2])) := by
  obtain ⟨z, h1, h2⟩ := ready_ok hs
  have h3 := place_init hp (k := koS s)
  simp [sNm, sK, sAnd, sOr, sNot, sIf, tAndB, tOrB, tNotB, sB, s2, sN, sM, sCh, sCons, sNil, sLst, sTup, sFl, flD, sSl, sPo, sStar, starD, X.fz, sRet, sSeq, sIfS, sSkip, sNev, sAsg, asgX, sAsgT, sPar2, sStF, putD, Tg.asg, setG, fin1, finI, runB, runI, frame, runF, runStarI, permute, sCal, sMth, sNew, sNew0, sEq, sUnI, sIsi, isND, D.isN, isBD, bStr, bInt, bBool, bList, bTuple, D.flat, List.filterMap, List.replicate, f__law_ready_place, b__law_ready_place, h1, h2, h3, ixD]
end Toy
namespace Toy
open PySem PySem.Spec L2 G
open PyProof.Rows hiding St
/-! ### texts put together -/
theorem str_len (a b : Str) : (a ++ b).length = a.length + b.length := by
  show (Str.append a b).cps.size = _
  unfold Str.append
  simp [Str.length]
theorem add_str {a b : Str} (h : a.length + b.length ≤ 100000) : addD (.str a) (.str b) = .ret (.at (.str (a ++ b))) := by
  show lim (a.length + b.length) _ = _
  unfold lim
  rw [if_pos h]
def intS (i : Int) : Str := Str.ofString (toString i)
def shS (k : D) (l m : Int) : Str := (((txK k ++ " ") ++ intS l) ++ " ") ++ intS m
theorem tx_len : allKinds.all (fun k => decide ((txK k).length ≤ 30)) = true := by decide +kernel
theorem int_len : bnds.all (fun p => decide ((intS p.1).length ≤ 3 ∧ (intS p.2).length ≤ 3)) = true := by decide +kernel
end Toy
namespace Toy
open PySem PySem.Spec L2 G
open PyProof.Rows hiding St
theorem str_assoc (a b c : Str) : (a ++ b) ++ c = a ++ (b ++ c) := by
  show Str.append (Str.append a b) c = Str.append a (Str.append b c)
  unfold Str.append
  simp
theorem str_empty (a : Str) : Str.empty ++ a = a := by
  show Str.append Str.empty a = a
  unfold Str.append Str.empty
  cases a
  simp
theorem repr_place {s : D} (hs : s ∈ allKinds) {p : Int × Int} (hp : p ∈ bnds) : ∃ z, f_Place___repr__ [.ins 1 [koS s, .int p.1, .int p.2]] = .ret (.dt (.str z)) ∧ z = ("Place(" ++ shS s p.1 p.2) ++ ")" := by
  have l1 := of_decide_eq_true (List.all_eq_true.mp tx_len s hs)
  have l2 := of_decide_eq_true (List.all_eq_true.mp int_len p hp)
  obtain ⟨C, fs, e1, hC⟩ := kind_ins hs
  obtain ⟨z, t1, t2⟩ := text_run hs
  rw [e1] at t1 ⊢
  have hz : ∃ f, mt_text_1 C = some f ∧ f [.ins C fs] [] = .ret z := by
    have t1' : (match mt_text_1 C with | some f => f [.ins C fs] [] | none => M.fail) = M.ret z := t1
    cases h : mt_text_1 C with
    | none => rw [h] at t1'; cases t1'
    | some f => rw [h] at t1'; exact ⟨f, rfl, t1'⟩
  obtain ⟨f, hf, hz⟩ := hz
  have q1 : p.1.natAbs.log2 < 1920 ∧ p.2.natAbs.log2 < 1920 := by
    have : bnds.all (fun p => decide (p.1.natAbs.log2 < 1920 ∧ p.2.natAbs.log2 < 1920)) = true := by decide +kernel
    exact of_decide_eq_true (List.all_eq_true.mp this p hp)
  simp [sNm, sK, sAnd, sOr, sNot, sIf, tAndB, tOrB, tNotB, sB, s2, sN, sM, sCh, sCons, sNil, sLst, sTup, sFl, flD, sSl, sPo, sStar, starD, X.fz, sRet, sSeq, sIfS, sSkip, sNev, sAsg, asgX, sAsgT, sPar2, sStF, putD, Tg.asg, setG, fin1, finI, runB, runI, frame, runF, runStarI, permute, sCal, sMth, sNew, sNew0, sEq, sUnI, sIsi, isND, D.isN, isBD, bStr, bInt, bBool, bList, bTuple, D.flat, List.filterMap, List.replicate, f_Place___repr__, b_Place___repr__, sFs, fStr, fVal, fNil, fmtD, sMth, ix_kind, ix_least, ix_most, hf, hz, t2, q1, str_len]
  have c0 : Str.empty.length = 0 := rfl
  have c1 : (Str.ofString "Place(").length = 6 := by decide +kernel
  have c2 : (Str.ofString " ").length = 1 := by decide +kernel
  have c3 : (Str.ofString ")").length = 1 := by decide +kernel
  have c4 : (Str.ofString p.1.repr).length ≤ 3 := l2.1
  have c5 : (Str.ofString p.2.repr).length ≤ 3 := l2.2
  repeat (first | rw [if_pos (by omega)] | simp only [M.bind_ret])
  simp only [shS, intS, str_empty, str_assoc, ret_p, fin1]
  rfl
end Toy
namespace Toy
open PySem PySem.Spec L2 G
open PyProof.Rows hiding St
/-! ### instances of other classes, texts -/
theorem opt_other {n1 : Str} {k m : D} {fs : List D} : eqG false cP mt_eq (.ins 0 [.str n1, k, m]) (.ins 1 fs) = .ret false := rfl
theorem place_text {k l m : D} {s : Str} : eqG false cP mt_eq (.ins 1 [k, l, m]) (.str s) = .ret false := rfl
end Toy
namespace Toy
open PySem PySem.Spec L2 G
open PyProof.Rows hiding St
/-! ### == and != of what the law made -/
theorem mt_eq_r : mt_eq = mt_eq_r25 (F_25 8) := rfl
theorem kinds_ne {a b : D} (ha : a ∈ allKinds) (hb : b ∈ allKinds) : ∃ t, eqG true cP mt_eq (koS a) (koS b) = .ret t ∧ (t = true ↔ a = b) := by
  obtain ⟨C, fs, e1, _⟩ := kind_ins ha
  refine ⟨decide (txK a = txK b), by have := kind_eq (F := F_25 8) ha hb; rw [mt_eq_r]; rw [e1] at this ⊢; rw [eqG_ins]; exact this, ?_⟩
  rw [decide_eq_true_iff]
  exact ⟨text_inj ha hb, fun e => by rw [e]⟩
theorem opt_eqG {n1 n2 : Str} {a b : D} {m1 m2 : Int} (ha : a ∈ sorts) (hb : b ∈ sorts) : ∃ t, (∀ neg, eqG neg cP mt_eq (.ins 0 [.str n1, koS a, .int m1]) (.ins 0 [.str n2, koS b, .int m2]) = .ret t) ∧ (t = true ↔ n1 = n2 ∧ a = b ∧ m1 = m2) := by
  obtain ⟨t, e, ht⟩ := opt_eq (n := 7) (n1 := n1) (n2 := n2) (m1 := m1) (m2 := m2) ha hb
  refine ⟨t, fun neg => ?_, ht⟩
  rw [eqG_ins]
  show ((F_25 8 1 [.ins 0 [.str n1, koS a, .int m1], .ins 0 [.str n2, koS b, .int m2]]).bind boolR) = _
  rw [e]
  rfl
theorem place_eqG {a b : D} {l1 l2 m1 m2 : Int} (ha : a ∈ sorts) (hb : b ∈ sorts) : ∃ t, (∀ neg, eqG neg cP mt_eq (.ins 1 [koS a, .int l1, .int m1]) (.ins 1 [koS b, .int l2, .int m2]) = .ret t) ∧ (t = true ↔ a = b ∧ l1 = l2 ∧ m1 = m2) := by
  obtain ⟨t, e, ht⟩ := place_eq (n := 7) (l1 := l1) (l2 := l2) (m1 := m1) (m2 := m2) ha hb
  refine ⟨t, fun neg => ?_, ht⟩
  rw [eqG_ins]
  show ((F_25 8 0 [.ins 1 [koS a, .int l1, .int m1], .ins 1 [koS b, .int l2, .int m2]]).bind boolR) = _
  rw [e]
  rfl
theorem isN_ko {s : D} (hs : s ∈ sorts) {neg : Bool} : isND neg (koS s) .non = isND neg s .non := by
  have h : sorts.all (fun s => [true, false].all fun neg => match (isND neg (koS s) .non).val, (isND neg s .non).val with | some a, some b => R.eqb a b | _, _ => false) = true := by decide +kernel
  have := List.all_eq_true.mp (List.all_eq_true.mp h s hs) neg (by cases neg <;> simp)
  split at this
  · rename_i a b h1 h2
    rw [M.of_val h1, M.of_val h2, R.eqb_eq this]
  · cases this
/-- the text of a place, put together -/
theorem shown_run {k : D} (hk : k ∈ allKinds) {p : Int × Int} (hp : p ∈ bnds) : ∃ z, textRun (koS k) = .ret z ∧ z.toD = .str (txK k) ∧ addD (.str (txK k)) (.str " ") = .ret (.at (.str (txK k ++ " "))) ∧
    strD [.int p.1] = .ret (.at (.str (intS p.1))) ∧ addD (.str (txK k ++ " ")) (.str (intS p.1)) = .ret (.at (.str ((txK k ++ " ") ++ intS p.1))) ∧
    addD (.str ((txK k ++ " ") ++ intS p.1)) (.str " ") = .ret (.at (.str (((txK k ++ " ") ++ intS p.1) ++ " "))) ∧ strD [.int p.2] = .ret (.at (.str (intS p.2))) ∧
    addD (.str (((txK k ++ " ") ++ intS p.1) ++ " ")) (.str (intS p.2)) = .ret (.at (.str (shS k p.1 p.2))) ∧ addD (.str "Place(") (.str (shS k p.1 p.2)) = .ret (.at (.str ("Place(" ++ shS k p.1 p.2))) ∧
    addD (.str ("Place(" ++ shS k p.1 p.2)) (.str ")") = .ret (.at (.str (("Place(" ++ shS k p.1 p.2) ++ ")"))) := by
  obtain ⟨z, t1, t2⟩ := text_run hk
  have l1 := of_decide_eq_true (List.all_eq_true.mp tx_len k hk)
  have l2 := of_decide_eq_true (List.all_eq_true.mp int_len p hp)
  have s1 : (" " : Str).length = 1 := by decide +kernel
  have s2 : ("Place(" : Str).length = 6 := by decide +kernel
  have s3 : (")" : Str).length = 1 := by decide +kernel
  have q : bnds.all (fun p => match (strD [.int p.1]).val, (strD [.int p.2]).val with | some a, some b => R.eqb a (.at (.str (intS p.1))) && R.eqb b (.at (.str (intS p.2))) | _, _ => false) = true := by decide +kernel
  have q := List.all_eq_true.mp q p hp
  split at q
  rotate_left
  · cases q
  rename_i a b h1 h2
  rw [Bool.and_eq_true] at q
  have e1 := R.eqb_eq q.1
  have e2 := R.eqb_eq q.2
  subst e1
  subst e2
  refine ⟨z, t1, t2, add_str (by omega), M.of_val h1, add_str (by rw [str_len]; omega), add_str (by rw [str_len, str_len]; omega), M.of_val h2, add_str (by rw [str_len, str_len, str_len]; omega), add_str ?_, add_str ?_⟩
  · simp only [shS, str_len]; omega
  · simp only [shS, str_len]; omega
theorem optn_add {n : Str} (hn : n ∈ dx) : addD (.str "Option(") (.str n) = .ret (.at (.str ("Option(" ++ n))) ∧ addD (.str ("Option(" ++ n)) (.str ")") = .ret (.at (.str (("Option(" ++ n) ++ ")"))) := by
  have h : dx.all (fun n => isR (addD (.str "Option(") (.str n)) (.at (.str ("Option(" ++ n))) && isR (addD (.str ("Option(" ++ n)) (.str ")")) (.at (.str (("Option(" ++ n) ++ ")")))) = true := by decide +kernel
  have := List.all_eq_true.mp h n hn
  rw [Bool.and_eq_true] at this
  exact ⟨isR_eq this.1, isR_eq this.2⟩
end Toy
namespace Toy
open PySem PySem.Spec L2 G
open PyProof.Rows hiding St
abbrev LB1 : Sst := (sAsg false 3 (sCal 0 (runF 2 [0, 1] [] f__law_dashes) (sCons (sNm 1) (sCons (sK (.int (2))) sNil)) sNil))
abbrev LB2 : Sst := (sPar2 false false 4 5 (sCal 0 (runF 2 [0, 1] [] f__law_opts) (sCons (sNm 1) (sCons (sNm 3) sNil)) sNil) (sCal 0 (runF 2 [0, 1] [] f__law_opts) (sCons (sNm 1) (sCons (sNm 3) sNil)) sNil))
abbrev LB3 : Sst := (sPar2 false false 6 7 (s2 ixD (sNm 4) (sK (.int (0)))) (sCal 0 (runF 2 [0, 1] [] f__law_of) (sCons (sNm 1) (sCons (sLst (sCons (s2 ixD (sNm 4) (sK (.int (1)))) (sCons (s2 ixD (sNm 5) (sK (.int (0)))) (sCons (s2 ixD (sNm 4) (sK (.int (0)))) sNil)))) sNil)) sNil))
abbrev LB4 : Sst := (sPar2 false false 8 9 (sCal 0 (runF 1 [0] [] f__law_ready_option) (sCons (sNm 6) sNil) sNil) (sCal 0 (runF 1 [0] [] f__law_ready_option) (sCons (sNm 7) sNil) sNil))
abbrev LB5 : Sst := (sIfS (tNotB (sB (sCal 0 (runF 2 [0, 1] [] (f__law_same 8)) (sCons (sLst (sCons (sFl ix_name (sNm 8)) (sCons (sFl ix_most (sNm 8)) (sCons (sUnI mt___repr___1 chkS (sNm 8)) (sCons (s2 (isND false) (sFl ix_kind (sNm 8)) (sK .non)) sNil))))) (sCons (sLst (sCons (s2 ixD (sNm 6) (sK (.int (0)))) (sCons (s2 ixD (sNm 6) (sK (.int (2)))) (sCons (s2 addD (s2 addD (sK (.str "Option(")) (s2 ixD (sNm 6) (sK (.int (0))))) (sK (.str ")"))) (sCons (s2 (isND false) (s2 ixD (sNm 6) (sK (.int (1)))) (sK .non)) sNil))))) sNil)) sNil))) (sRet (sK (.bl false))) sSkip)
abbrev LB6 : Sst := (sIfS (tAndB (sB (s2 (isND true) (s2 ixD (sNm 6) (sK (.int (1)))) (sK .non))) (sB (sEq true cP mt_eq (sFl ix_kind (sNm 8)) (sCal 0 (runF 1 [0] [] f__law_ready_kind) (sCons (s2 ixD (sNm 6) (sK (.int (1)))) sNil) sNil)))) (sRet (sK (.bl false))) sSkip)
abbrev LB7 : Sst := (sAsg true 11 (sMth 0 mt_all_items_1 (sNm 8) sNil sNil))
abbrev LB8 : Sst := (sIfS (tNotB (sB (sCal 0 (runF 2 [0, 1] [] (f__law_same 8)) (sCons (sNm 11) (sCons (sCal 0 (runF 1 [0] [] f__law_items) (sCons (sLst (sCons (sNm 6) sNil)) sNil) sNil) sNil)) sNil))) (sRet (sK (.bl false))) sSkip)
abbrev LB9 : Sst := (sApp 11 (xPure (sK (.str "x"))))
abbrev LBb10 : Sst := (sSeq LB7 (sSeq LB8 LB9))
abbrev LB10 : Sst := (sFor (sRg1 (sCons (sK (.int (2))) sNil)) (.n 10) LBb10)
abbrev LB11 : Sst := (sIfS (tOrB (sB (s2 (eqPy true) (sEq false cP mt_eq (sNm 8) (sNm 9)) (s2 (eqPy false) (sNm 6) (sNm 7)))) (sB (s2 (eqPy false) (sEq true cP mt_eq (sNm 8) (sNm 9)) (s2 (eqPy false) (sNm 6) (sNm 7))))) (sRet (sK (.bl false))) sSkip)
abbrev LB12 : Sst := (sAsg false 12 (sCal 0 (runF 2 [0, 1] [] f__law_slots) (sCons (sNm 1) (sCons (sK (.int (2))) sNil)) sNil))
abbrev LB13 : Sst := (sPar2 false false 13 14 (s2 ixD (sNm 12) (sK (.int (0)))) (sCal 0 (runF 2 [0, 1] [] f__law_of) (sCons (sNm 1) (sCons (sNm 12) sNil)) sNil))
abbrev LB14 : Sst := (sPar2 false false 15 16 (sCal 0 (runF 1 [0] [] f__law_ready_place) (sCons (sNm 13) sNil) sNil) (sCal 0 (runF 1 [0] [] f__law_ready_place) (sCons (sNm 14) sNil) sNil))
abbrev LB15 : Sst := (sAsg false 17 (s2 addD (s2 addD (s2 addD (s2 addD (sMth 0 mt_text_1 (sFl ix_kind (sNm 15)) sNil sNil) (sK (.str " "))) (sN strD (sCons (s2 ixD (sNm 13) (sK (.int (1)))) sNil))) (sK (.str " "))) (sN strD (sCons (s2 ixD (sNm 13) (sK (.int (2)))) sNil))))
abbrev LB16 : Sst := (sIfS (tNotB (sB (sCal 0 (runF 2 [0, 1] [] (f__law_same 8)) (sCons (sLst (sCons (sFl ix_least (sNm 15)) (sCons (sFl ix_most (sNm 15)) (sCons (sUnI mt___repr___1 chkS (sNm 15)) (sCons (sEq false cP mt_eq (sNm 15) (sNm 16)) (sCons (sEq true cP mt_eq (sNm 15) (sNm 16)) sNil)))))) (sCons (sLst (sCons (s2 ixD (sNm 13) (sK (.int (1)))) (sCons (s2 ixD (sNm 13) (sK (.int (2)))) (sCons (s2 addD (s2 addD (sK (.str "Place(")) (sNm 17)) (sK (.str ")"))) (sCons (s2 (eqPy false) (sNm 13) (sNm 14)) (sCons (s2 (eqPy true) (sNm 13) (sNm 14)) sNil)))))) sNil)) sNil))) (sRet (sK (.bl false))) sSkip)
abbrev LB17 : Sst := (sIfS (tOrB (sB (sEq true cP mt_eq (sFl ix_kind (sNm 15)) (sCal 0 (runF 1 [0] [] f__law_ready_kind) (sCons (s2 ixD (sNm 13) (sK (.int (0)))) sNil) sNil))) (tOrB (sB (sEq false cP mt_eq (sNm 8) (sNm 15))) (sB (sEq false cP mt_eq (sNm 15) (s2 ixD (sNm 6) (sK (.int (0)))))))) (sRet (sK (.bl false))) sSkip)
abbrev LBb18 : Sst := (sSeq LB1 (sSeq LB2 (sSeq LB3 (sSeq LB4 (sSeq LB5 (sSeq LB6 (sSeq LB10 (sSeq LB11 (sSeq LB12 (sSeq LB13 (sSeq LB14 (sSeq LB15 (sSeq LB16 LB17)))))))))))))
abbrev LB18 : Sst := (sFor (sRg1 (sCons (sK (.int (6))) sNil)) (.n 2) LBb18)
abbrev LB19 : Sst := (sPar2 false false 18 19 (sNew 0 (runF 1 [0, 1, 2] [.non, .int (1)] f_Option___init__) (sCons (sK (.str "-x")) sNil) sNil) (sNew 0 (runF 1 [0, 1, 2] [.int (1), .int (1)] f_Place___init__) (sCons (sNew0 2) sNil) sNil))
abbrev LB20 : Sst := (sAsg false 20 (sLst (sCons (sFl ix_kind (sNm 18)) (sCons (sFl ix_most (sNm 18)) (sCons (sMth 0 mt_all_items_1 (sNm 18) sNil sNil) (sCons (sFl ix_least (sNm 19)) (sCons (sFl ix_most (sNm 19)) sNil)))))))
abbrev LB21 : Sst := (sRet (sCal 0 (runF 2 [0, 1] [] (f__law_same 8)) (sCons (sNm 20) (sCons (sLst (sCons (sK .non) (sCons (sK (.int (1))) (sCons (sLst (sCons (sK (.str "-x")) sNil)) (sCons (sK (.int (1))) (sCons (sK (.int (1))) sNil)))))) sNil)) sNil))
theorem LB_eq : b_law = (sSeq LB18 (sSeq LB19 (sSeq LB20 LB21))) := rfl
end Toy
namespace Toy
open PySem PySem.Spec L2 G
open PyProof.Rows hiding St
abbrev LΓ (x0 x2 x3 x4 x5 x6 x7 x8 x9 x10 x11 x12 x13 x14 x15 x16 x17 x18 x19 x20 : Sl) : List Sl := [x0, .v .feed, x2, x3, x4, x5, x6, x7, x8, x9, x10, x11, x12, x13, x14, x15, x16, x17, x18, x19, x20]
abbrev opD (n : Str) (s : D) (m : Int) : D := .tup [.str n, s, .int m]
abbrev opI (n : Str) (s : D) (m : Int) : D := .ins 0 [.str n, koS s, .int m]
abbrev slD' (s : D) (p : Int × Int) : D := .tup [s, .int p.1, .int p.2]
abbrev slI (s : D) (p : Int × Int) : D := .ins 1 [koS s, .int p.1, .int p.2]
section
variable {x0 x2 x3 x4 x5 x6 x7 x8 x9 x10 x11 x12 x13 x14 x15 x16 x17 x18 x19 x20 : Sl}
variable {Q : Fl × List Sl → Prop}
theorem lb1 (q : ∀ a ∈ dn, ∀ b ∈ dn, a ≠ b → Q (.nx, LΓ x0 x2 (.v (.lst [.str a, .str b])) x4 x5 x6 x7 x8 x9 x10 x11 x12 x13 x14 x15 x16 x17 x18 x19 x20)) : (LB1 (LΓ x0 x2 x3 x4 x5 x6 x7 x8 x9 x10 x11 x12 x13 x14 x15 x16 x17 x18 x19 x20)).ok Q := by
  simp [sNm, sK, sAnd, sOr, sNot, sIf, tAndB, tOrB, tNotB, sB, s2, sN, sM, sCh, sCons, sNil, sLst, sTup, sFl, flD, sSl, sPo, sStar, starD, X.fz, sRet, sSeq, sIfS, sSkip, sNev, sAsg, asgX, sAsgT, sPar2, sStF, putD, Tg.asg, setG, fin1, finI, runB, runI, frame, runF, runStarI, permute, sCal, sMth, sNew, sNew0, sEq, sUnI, sIsi, isND, D.isN, isBD, bStr, bInt, bBool, bList, bTuple, D.flat, List.filterMap, List.replicate, LB1, M.ok_bind]
  exact dashes_wp fun a ha b hb ne => M.ok_of rfl (q a ha b hb ne)
theorem lb2 {a b : Str} (q : ∀ o1 o2 l1 l2, OptOk a o1 → OptOk b o2 → OptOk a l1 → OptOk b l2 → Q (.nx, LΓ x0 x2 (.v (.lst [.str a, .str b])) (.v (.lst [o1, o2])) (.v (.lst [l1, l2])) x6 x7 x8 x9 x10 x11 x12 x13 x14 x15 x16 x17 x18 x19 x20)) :
    (LB2 (LΓ x0 x2 (.v (.lst [.str a, .str b])) x4 x5 x6 x7 x8 x9 x10 x11 x12 x13 x14 x15 x16 x17 x18 x19 x20)).ok Q := by
  simp [sNm, sK, sAnd, sOr, sNot, sIf, tAndB, tOrB, tNotB, sB, s2, sN, sM, sCh, sCons, sNil, sLst, sTup, sFl, flD, sSl, sPo, sStar, starD, X.fz, sRet, sSeq, sIfS, sSkip, sNev, sAsg, asgX, sAsgT, sPar2, sStF, putD, Tg.asg, setG, fin1, finI, runB, runI, frame, runF, runStarI, permute, sCal, sMth, sNew, sNew0, sEq, sUnI, sIsi, isND, D.isN, isBD, bStr, bInt, bBool, bList, bTuple, D.flat, List.filterMap, List.replicate, LB2, M.ok_bind]
  exact opts_wp fun o1 o2 h1 h2 => opts_wp fun l1 l2 h3 h4 => M.ok_of rfl (M.ok_of rfl (q o1 o2 l1 l2 h1 h2 h3 h4))
theorem lb3 {o1 o2 l1 l2 : D} (q : ∀ o, (o = o2 ∨ o = l1 ∨ o = o1) → Q (.nx, LΓ x0 x2 x3 (.v (.lst [o1, o2])) (.v (.lst [l1, l2])) (.v o1) (.v o) x8 x9 x10 x11 x12 x13 x14 x15 x16 x17 x18 x19 x20)) :
    (LB3 (LΓ x0 x2 x3 (.v (.lst [o1, o2])) (.v (.lst [l1, l2])) x6 x7 x8 x9 x10 x11 x12 x13 x14 x15 x16 x17 x18 x19 x20)).ok Q := by
  simp [sNm, sK, sAnd, sOr, sNot, sIf, tAndB, tOrB, tNotB, sB, s2, sN, sM, sCh, sCons, sNil, sLst, sTup, sFl, flD, sSl, sPo, sStar, starD, X.fz, sRet, sSeq, sIfS, sSkip, sNev, sAsg, asgX, sAsgT, sPar2, sStF, putD, Tg.asg, setG, fin1, finI, runB, runI, frame, runF, runStarI, permute, sCal, sMth, sNew, sNew0, sEq, sUnI, sIsi, isND, D.isN, isBD, bStr, bInt, bBool, bList, bTuple, D.flat, List.filterMap, List.replicate, LB3, M.ok_bind, ixD]
  refine of_wpL (Nat.succ_pos _) (by simp only [List.length_cons, List.length_nil]; omega) fun d hd => ?_
  simp only [List.mem_cons, List.not_mem_nil, or_false] at hd
  exact M.ok_of rfl (q d hd)
theorem lb4 {n n' : Str} {s s' : D} {m m' : Int} (hn : n ∈ dn) (hs : s ∈ sorts) (h0 : 0 ≤ m) (h4 : m ≤ 4) (hn' : n' ∈ dn) (hs' : s' ∈ sorts) (h0' : 0 ≤ m') (h4' : m' ≤ 4) : LB4 (LΓ x0 x2 x3 x4 x5 (.v (opD n s m)) (.v (opD n' s' m')) x8 x9 x10 x11 x12 x13 x14 x15 x16 x17 x18 x19 x20) = .ret (.nx, LΓ x0 x2 x3 x4 x5 (.v (opD n s m)) (.v (opD n' s' m')) (.v (opI n s m)) (.v (opI n' s' m')) x10 x11 x12 x13 x14 x15 x16 x17 x18 x19 x20) := by
  have e1 := ready_opt hn hs h0 h4
  have e2 := ready_opt hn' hs' h0' h4'
  simp [sNm, sK, sAnd, sOr, sNot, sIf, tAndB, tOrB, tNotB, sB, s2, sN, sM, sCh, sCons, sNil, sLst, sTup, sFl, flD, sSl, sPo, sStar, starD, X.fz, sRet, sSeq, sIfS, sSkip, sNev, sAsg, asgX, sAsgT, sPar2, sStF, putD, Tg.asg, setG, fin1, finI, runB, runI, frame, runF, runStarI, permute, sCal, sMth, sNew, sNew0, sEq, sUnI, sIsi, isND, D.isN, isBD, bStr, bInt, bBool, bList, bTuple, D.flat, List.filterMap, List.replicate, LB4, e1, e2]
theorem lb5 {n : Str} {s : D} {m : Int} (hn : n ∈ dn) (hs : s ∈ sorts) : LB5 (LΓ x0 x2 x3 x4 x5 (.v (opD n s m)) x7 (.v (opI n s m)) x9 x10 x11 x12 x13 x14 x15 x16 x17 x18 x19 x20) = .ret (.nx, LΓ x0 x2 x3 x4 x5 (.v (opD n s m)) x7 (.v (opI n s m)) x9 x10 x11 x12 x13 x14 x15 x16 x17 x18 x19 x20) := by
  have hx : n ∈ dx := (List.mem_append_left [("-x" : Str)] hn : n ∈ dn ++ [("-x" : Str)])
  obtain ⟨a1, a2⟩ := optn_add hx
  have r := repr_opt (k := koS s) (m := .int m) hx
  rcases List.mem_cons.mp hs with rfl | h
  · have key := same_ll (n := 6) (ds := [.str n, .int m, .str (("Option(" ++ n) ++ ")"), .bl true]) (by simp [flatP]) (by simp)
    have r' : f_Option___repr__ [.ins 0 [.str n, .non, .int m]] = _ := r
    simp [sNm, sK, sAnd, sOr, sNot, sIf, tAndB, tOrB, tNotB, sB, s2, sN, sM, sCh, sCons, sNil, sLst, sTup, sFl, flD, sSl, sPo, sStar, starD, X.fz, sRet, sSeq, sIfS, sSkip, sNev, sAsg, asgX, sAsgT, sPar2, sStF, putD, Tg.asg, setG, fin1, finI, runB, runI, frame, runF, runStarI, permute, sCal, sMth, sNew, sNew0, sEq, sUnI, sIsi, isND, D.isN, isBD, bStr, bInt, bBool, bList, bTuple, D.flat, List.filterMap, List.replicate, LB5, opI, koS, ix_name, ix_most, ix_kind, mt___repr___1, chkS, r', a1, a2, ixD, f__law_same, key]
  · obtain ⟨C, fs, e1, _⟩ := kind_ins h
    obtain ⟨t, rr, rfl⟩ := kind_tup h
    rw [e1] at r
    have key := same_ll (n := 6) (ds := [.str n, .int m, .str (("Option(" ++ n) ++ ")"), .bl false]) (by simp [flatP]) (by simp)
    simp [sNm, sK, sAnd, sOr, sNot, sIf, tAndB, tOrB, tNotB, sB, s2, sN, sM, sCh, sCons, sNil, sLst, sTup, sFl, flD, sSl, sPo, sStar, starD, X.fz, sRet, sSeq, sIfS, sSkip, sNev, sAsg, asgX, sAsgT, sPar2, sStF, putD, Tg.asg, setG, fin1, finI, runB, runI, frame, runF, runStarI, permute, sCal, sMth, sNew, sNew0, sEq, sUnI, sIsi, isND, D.isN, isBD, bStr, bInt, bBool, bList, bTuple, D.flat, List.filterMap, List.replicate, LB5, opI, e1, ix_name, ix_most, ix_kind, mt___repr___1, chkS, r, a1, a2, ixD, f__law_same, key]
theorem lb6 {n : Str} {s : D} {m : Int} (hs : s ∈ sorts) : LB6 (LΓ x0 x2 x3 x4 x5 (.v (opD n s m)) x7 (.v (opI n s m)) x9 x10 x11 x12 x13 x14 x15 x16 x17 x18 x19 x20) = .ret (.nx, LΓ x0 x2 x3 x4 x5 (.v (opD n s m)) x7 (.v (opI n s m)) x9 x10 x11 x12 x13 x14 x15 x16 x17 x18 x19 x20) := by
  rcases List.mem_cons.mp hs with rfl | h
  · simp [sNm, sK, sAnd, sOr, sNot, sIf, tAndB, tOrB, tNotB, sB, s2, sN, sM, sCh, sCons, sNil, sLst, sTup, sFl, flD, sSl, sPo, sStar, starD, X.fz, sRet, sSeq, sIfS, sSkip, sNev, sAsg, asgX, sAsgT, sPar2, sStF, putD, Tg.asg, setG, fin1, finI, runB, runI, frame, runF, runStarI, permute, sCal, sMth, sNew, sNew0, sEq, sUnI, sIsi, isND, D.isN, isBD, bStr, bInt, bBool, bList, bTuple, D.flat, List.filterMap, List.replicate, LB6, ixD]
  · obtain ⟨z, h1, h2⟩ := ready_ok hs
    obtain ⟨t, r, e⟩ := kind_tup h
    obtain ⟨b, hb, hbt⟩ := kinds_ne h h
    have hb1 : b = true := hbt.mpr rfl
    subst hb1
    have hn : isND true s .non = .ret (.at (.bl true)) := by rw [e]; rfl
    simp [sNm, sK, sAnd, sOr, sNot, sIf, tAndB, tOrB, tNotB, sB, s2, sN, sM, sCh, sCons, sNil, sLst, sTup, sFl, flD, sSl, sPo, sStar, starD, X.fz, sRet, sSeq, sIfS, sSkip, sNev, sAsg, asgX, sAsgT, sPar2, sStF, putD, Tg.asg, setG, fin1, finI, runB, runI, frame, runF, runStarI, permute, sCal, sMth, sNew, sNew0, sEq, sUnI, sIsi, isND, D.isN, isBD, bStr, bInt, bBool, bList, bTuple, D.flat, List.filterMap, List.replicate, LB6, ixD, hn, ix_kind, h1, h2, hb]
theorem lb7 {n : Str} {s : D} {m : Int} (hn : n ∈ dn) (hs : s ∈ sorts) : LB7 (LΓ x0 x2 x3 x4 x5 (.v (opD n s m)) x7 (.v (opI n s m)) x9 x10 x11 x12 x13 x14 x15 x16 x17 x18 x19 x20) = .ret (.nx, LΓ x0 x2 x3 x4 x5 (.v (opD n s m)) x7 (.v (opI n s m)) x9 x10 (.c (.l (itemsL n s))) x12 x13 x14 x15 x16 x17 x18 x19 x20) := by
  have hx : n ∈ dx := (List.mem_append_left [("-x" : Str)] hn : n ∈ dn ++ [("-x" : Str)])
  have r := items_opt (m := .int m) hx hs
  simp [sNm, sK, sAnd, sOr, sNot, sIf, tAndB, tOrB, tNotB, sB, s2, sN, sM, sCh, sCons, sNil, sLst, sTup, sFl, flD, sSl, sPo, sStar, starD, X.fz, sRet, sSeq, sIfS, sSkip, sNev, sAsg, asgX, sAsgT, sPar2, sStF, putD, Tg.asg, setG, fin1, finI, runB, runI, frame, runF, runStarI, permute, sCal, sMth, sNew, sNew0, sEq, sUnI, sIsi, isND, D.isN, isBD, bStr, bInt, bBool, bList, bTuple, D.flat, List.filterMap, List.replicate, LB7, sMth, mt_all_items_1, r]
theorem lb8 {n : Str} {s : D} {m : Int} (hn : n ∈ dn) (hs : s ∈ sorts) : LB8 (LΓ x0 x2 x3 x4 x5 (.v (opD n s m)) x7 x8 x9 x10 (.c (.l (itemsL n s))) x12 x13 x14 x15 x16 x17 x18 x19 x20) = .ret (.nx, LΓ x0 x2 x3 x4 x5 (.v (opD n s m)) x7 x8 x9 x10 (.c (.l (itemsL n s))) x12 x13 x14 x15 x16 x17 x18 x19 x20) := by
  have hx : n ∈ dx := (List.mem_append_left [("-x" : Str)] hn : n ∈ dn ++ [("-x" : Str)])
  have r := items_law (m := .int m) hx hs
  obtain ⟨f1, f2⟩ := items_flat (n := n) hs
  have key := same_ll (n := 6) f1 f2
  simp [sNm, sK, sAnd, sOr, sNot, sIf, tAndB, tOrB, tNotB, sB, s2, sN, sM, sCh, sCons, sNil, sLst, sTup, sFl, flD, sSl, sPo, sStar, starD, X.fz, sRet, sSeq, sIfS, sSkip, sNev, sAsg, asgX, sAsgT, sPar2, sStF, putD, Tg.asg, setG, fin1, finI, runB, runI, frame, runF, runStarI, permute, sCal, sMth, sNew, sNew0, sEq, sUnI, sIsi, isND, D.isN, isBD, bStr, bInt, bBool, bList, bTuple, D.flat, List.filterMap, List.replicate, LB8, r, f__law_same, key]
theorem lb9 {n : Str} {s : D} (hs : s ∈ sorts) : LB9 (LΓ x0 x2 x3 x4 x5 x6 x7 x8 x9 x10 (.c (.l (itemsL n s))) x12 x13 x14 x15 x16 x17 x18 x19 x20) = .ret (.nx, LΓ x0 x2 x3 x4 x5 x6 x7 x8 x9 x10 (.c (.l (itemsL n s ++ [.str "x"]))) x12 x13 x14 x15 x16 x17 x18 x19 x20) := by
  obtain ⟨f1, f2⟩ := items_flat (n := n) hs
  have : (itemsL n s).length ≤ 100000 := by omega
  simp [sNm, sK, sAnd, sOr, sNot, sIf, tAndB, tOrB, tNotB, sB, s2, sN, sM, sCh, sCons, sNil, sLst, sTup, sFl, flD, sSl, sPo, sStar, starD, X.fz, sRet, sSeq, sIfS, sSkip, sNev, sAsg, asgX, sAsgT, sPar2, sStF, putD, Tg.asg, setG, fin1, finI, runB, runI, frame, runF, runStarI, permute, sCal, sMth, sNew, sNew0, sEq, sUnI, sIsi, isND, D.isN, isBD, bStr, bInt, bBool, bList, bTuple, D.flat, List.filterMap, List.replicate, LB9, sApp, xPure, this]
theorem lb10 {n : Str} {s : D} {m : Int} (hn : n ∈ dn) (hs : s ∈ sorts) : (LB10 (LΓ x0 x2 x3 x4 x5 (.v (opD n s m)) x7 (.v (opI n s m)) x9 x10 x11 x12 x13 x14 x15 x16 x17 x18 x19 x20)).ok fun p => p.1 = .nx ∧ ∃ y10 y11, p.2 = LΓ x0 x2 x3 x4 x5 (.v (opD n s m)) x7 (.v (opI n s m)) x9 y10 y11 x12 x13 x14 x15 x16 x17 x18 x19 x20 := by
  refine w_for (ds := [.int 0, .int 1]) (fun es Γ => ∃ y10 y11, Γ = LΓ x0 x2 x3 x4 x5 (.v (opD n s m)) x7 (.v (opI n s m)) x9 y10 y11 x12 x13 x14 x15 x16 x17 x18 x19 x20) rfl ⟨_, _, rfl⟩ ?_ ?_
  · rintro d es _ ⟨y10, y11, rfl⟩
    refine ⟨[(10, d)], rfl, ?_⟩
    have e1 := lb7 (x0 := x0) (x2 := x2) (x3 := x3) (x4 := x4) (x5 := x5) (x7 := x7) (x9 := x9) (x10 := .v d) (x11 := y11) (x12 := x12) (x13 := x13) (x14 := x14) (x15 := x15) (x16 := x16) (x17 := x17) (x18 := x18) (x19 := x19) (x20 := x20) (m := m) hn hs
    refine M.ok_of (a := (Fl.nx, LΓ x0 x2 x3 x4 x5 (.v (opD n s m)) x7 (.v (opI n s m)) x9 (.v d) (.c (.l (itemsL n s ++ [D.str "x"]))) x12 x13 x14 x15 x16 x17 x18 x19 x20)) ?_ ⟨_, _, rfl⟩
    refine (seq_nx e1).trans ?_
    refine (seq_nx (lb8 hn hs)).trans ?_
    exact lb9 hs
  · rintro _ ⟨y10, y11, rfl⟩
    exact ⟨rfl, _, _, rfl⟩
theorem lb11 {n n' : Str} {s s' : D} {m m' : Int} (hs : s ∈ sorts) (hs' : s' ∈ sorts) : LB11 (LΓ x0 x2 x3 x4 x5 (.v (opD n s m)) (.v (opD n' s' m')) (.v (opI n s m)) (.v (opI n' s' m')) x10 x11 x12 x13 x14 x15 x16 x17 x18 x19 x20) = .ret (.nx, LΓ x0 x2 x3 x4 x5 (.v (opD n s m)) (.v (opD n' s' m')) (.v (opI n s m)) (.v (opI n' s' m')) x10 x11 x12 x13 x14 x15 x16 x17 x18 x19 x20) := by
  obtain ⟨t, h1, h2⟩ := opt_eqG (n1 := n) (n2 := n') (m1 := m) (m2 := m') hs hs'
  obtain ⟨u, h3, h4⟩ := opt_py_eq (neg := false) (n1 := n) (n2 := n') (m1 := m) (m2 := m') hs hs'
  have e : u = t := by
    have := h4.trans h2.symm
    cases u <;> cases t <;> simp_all
  subst e
  have h5 := h1 false
  have h6 := h1 true
  cases u <;> simp [sNm, sK, sAnd, sOr, sNot, sIf, tAndB, tOrB, tNotB, sB, s2, sN, sM, sCh, sCons, sNil, sLst, sTup, sFl, flD, sSl, sPo, sStar, starD, X.fz, sRet, sSeq, sIfS, sSkip, sNev, sAsg, asgX, sAsgT, sPar2, sStF, putD, Tg.asg, setG, fin1, finI, runB, runI, frame, runF, runStarI, permute, sCal, sMth, sNew, sNew0, sEq, sUnI, sIsi, isND, D.isN, isBD, bStr, bInt, bBool, bList, bTuple, D.flat, List.filterMap, List.replicate, LB11, h5, h6, h3, eq_bl]
theorem lb12 (q : ∀ a b, SlotOk a → SlotOk b → Q (.nx, LΓ x0 x2 x3 x4 x5 x6 x7 x8 x9 x10 x11 (.v (.lst [a, b])) x13 x14 x15 x16 x17 x18 x19 x20)) : (LB12 (LΓ x0 x2 x3 x4 x5 x6 x7 x8 x9 x10 x11 x12 x13 x14 x15 x16 x17 x18 x19 x20)).ok Q := by
  simp [sNm, sK, sAnd, sOr, sNot, sIf, tAndB, tOrB, tNotB, sB, s2, sN, sM, sCh, sCons, sNil, sLst, sTup, sFl, flD, sSl, sPo, sStar, starD, X.fz, sRet, sSeq, sIfS, sSkip, sNev, sAsg, asgX, sAsgT, sPar2, sStF, putD, Tg.asg, setG, fin1, finI, runB, runI, frame, runF, runStarI, permute, sCal, sMth, sNew, sNew0, sEq, sUnI, sIsi, isND, D.isN, isBD, bStr, bInt, bBool, bList, bTuple, D.flat, List.filterMap, List.replicate, LB12, M.ok_bind]
  exact slots_wp fun a b ha hb => M.ok_of rfl (q a b ha hb)
theorem lb13 {a b : D} (q : ∀ c, (c = a ∨ c = b) → Q (.nx, LΓ x0 x2 x3 x4 x5 x6 x7 x8 x9 x10 x11 (.v (.lst [a, b])) (.v a) (.v c) x15 x16 x17 x18 x19 x20)) : (LB13 (LΓ x0 x2 x3 x4 x5 x6 x7 x8 x9 x10 x11 (.v (.lst [a, b])) x13 x14 x15 x16 x17 x18 x19 x20)).ok Q := by
  simp [sNm, sK, sAnd, sOr, sNot, sIf, tAndB, tOrB, tNotB, sB, s2, sN, sM, sCh, sCons, sNil, sLst, sTup, sFl, flD, sSl, sPo, sStar, starD, X.fz, sRet, sSeq, sIfS, sSkip, sNev, sAsg, asgX, sAsgT, sPar2, sStF, putD, Tg.asg, setG, fin1, finI, runB, runI, frame, runF, runStarI, permute, sCal, sMth, sNew, sNew0, sEq, sUnI, sIsi, isND, D.isN, isBD, bStr, bInt, bBool, bList, bTuple, D.flat, List.filterMap, List.replicate, LB13, M.ok_bind, ixD]
  refine of_wpL (Nat.succ_pos _) (by simp only [List.length_cons, List.length_nil]; omega) fun d hd => ?_
  simp only [List.mem_cons, List.not_mem_nil, or_false] at hd
  exact M.ok_of rfl (q d hd)
theorem lb14 {s s' : D} {p p' : Int × Int} (hs : s ∈ sorts) (hs' : s' ∈ sorts) (hp : p ∈ bnds) (hp' : p' ∈ bnds) : LB14 (LΓ x0 x2 x3 x4 x5 x6 x7 x8 x9 x10 x11 x12 (.v (slD' s p)) (.v (slD' s' p')) x15 x16 x17 x18 x19 x20) = .ret (.nx, LΓ x0 x2 x3 x4 x5 x6 x7 x8 x9 x10 x11 x12 (.v (slD' s p)) (.v (slD' s' p')) (.v (slI s p)) (.v (slI s' p')) x17 x18 x19 x20) := by
  have e1 := ready_place hs hp
  have e2 := ready_place hs' hp'
  simp [sNm, sK, sAnd, sOr, sNot, sIf, tAndB, tOrB, tNotB, sB, s2, sN, sM, sCh, sCons, sNil, sLst, sTup, sFl, flD, sSl, sPo, sStar, starD, X.fz, sRet, sSeq, sIfS, sSkip, sNev, sAsg, asgX, sAsgT, sPar2, sStF, putD, Tg.asg, setG, fin1, finI, runB, runI, frame, runF, runStarI, permute, sCal, sMth, sNew, sNew0, sEq, sUnI, sIsi, isND, D.isN, isBD, bStr, bInt, bBool, bList, bTuple, D.flat, List.filterMap, List.replicate, LB14, e1, e2]
theorem lb15 {s : D} {p : Int × Int} (hs : s ∈ allKinds) (hp : p ∈ bnds) : LB15 (LΓ x0 x2 x3 x4 x5 x6 x7 x8 x9 x10 x11 x12 (.v (slD' s p)) x14 (.v (slI s p)) x16 x17 x18 x19 x20) = .ret (.nx, LΓ x0 x2 x3 x4 x5 x6 x7 x8 x9 x10 x11 x12 (.v (slD' s p)) x14 (.v (slI s p)) x16 (.v (.str (shS s p.1 p.2))) x18 x19 x20) := by
  obtain ⟨z, t1, t2, a1, a2, a3, a4, a5, a6, a7, a8⟩ := shown_run hs hp
  obtain ⟨C, fs, e1, hC⟩ := kind_ins hs
  rw [e1] at t1
  have hz : ∃ f, mt_text_1 C = some f ∧ f [.ins C fs] [] = .ret z := by
    have t1' : (match mt_text_1 C with | some f => f [.ins C fs] [] | none => M.fail) = M.ret z := t1
    cases h : mt_text_1 C with
    | none => rw [h] at t1'; cases t1'
    | some f => rw [h] at t1'; exact ⟨f, rfl, t1'⟩
  obtain ⟨f, hf, hz⟩ := hz
  simp [sNm, sK, sAnd, sOr, sNot, sIf, tAndB, tOrB, tNotB, sB, s2, sN, sM, sCh, sCons, sNil, sLst, sTup, sFl, flD, sSl, sPo, sStar, starD, X.fz, sRet, sSeq, sIfS, sSkip, sNev, sAsg, asgX, sAsgT, sPar2, sStF, putD, Tg.asg, setG, fin1, finI, runB, runI, frame, runF, runStarI, permute, sCal, sMth, sNew, sNew0, sEq, sUnI, sIsi, isND, D.isN, isBD, bStr, bInt, bBool, bList, bTuple, D.flat, List.filterMap, List.replicate, LB15, slI, e1, sMth, ix_kind, hf, hz, t2, a1, a2, a3, a4, a5, a6, ixD]
theorem lb16 {s s' : D} {p p' : Int × Int} (hs : s ∈ allKinds) (hs' : s' ∈ allKinds) (hp : p ∈ bnds) : LB16 (LΓ x0 x2 x3 x4 x5 x6 x7 x8 x9 x10 x11 x12 (.v (slD' s p)) (.v (slD' s' p')) (.v (slI s p)) (.v (slI s' p')) (.v (.str (shS s p.1 p.2))) x18 x19 x20) = .ret (.nx, LΓ x0 x2 x3 x4 x5 x6 x7 x8 x9 x10 x11 x12 (.v (slD' s p)) (.v (slD' s' p')) (.v (slI s p)) (.v (slI s' p')) (.v (.str (shS s p.1 p.2))) x18 x19 x20) := by
  obtain ⟨z, t1, t2, a1, a2, a3, a4, a5, a6, a7, a8⟩ := shown_run hs hp
  obtain ⟨w, r1, r2⟩ := repr_place hs hp
  subst r2
  have m1 : s ∈ sorts := List.mem_cons_of_mem _ hs
  have m2 : s' ∈ sorts := List.mem_cons_of_mem _ hs'
  obtain ⟨t, h1, h2⟩ := place_eqG (l1 := p.1) (l2 := p'.1) (m1 := p.2) (m2 := p'.2) m1 m2
  obtain ⟨u, h3, h4⟩ := slot_py_eq (neg := false) (l1 := p.1) (l2 := p'.1) (m1 := p.2) (m2 := p'.2) m1 m2
  obtain ⟨u', h3', h4'⟩ := slot_py_eq (neg := true) (l1 := p.1) (l2 := p'.1) (m1 := p.2) (m2 := p'.2) m1 m2
  have e : u = t := by
    have := h4.trans h2.symm
    cases u <;> cases t <;> simp_all
  subst e
  have e' : u' = u := by
    have := h4'.trans h2.symm
    cases u' <;> cases u <;> simp_all
  subst e'
  have h5 := h1 false
  have h6 := h1 true
  have key := same_ll (n := 6) (ds := [.int p.1, .int p.2, .str (("Place(" ++ shS s p.1 p.2) ++ ")"), .bl u', .bl (!u')]) (by simp [flatP]) (by simp)
  simp [sNm, sK, sAnd, sOr, sNot, sIf, tAndB, tOrB, tNotB, sB, s2, sN, sM, sCh, sCons, sNil, sLst, sTup, sFl, flD, sSl, sPo, sStar, starD, X.fz, sRet, sSeq, sIfS, sSkip, sNev, sAsg, asgX, sAsgT, sPar2, sStF, putD, Tg.asg, setG, fin1, finI, runB, runI, frame, runF, runStarI, permute, sCal, sMth, sNew, sNew0, sEq, sUnI, sIsi, isND, D.isN, isBD, bStr, bInt, bBool, bList, bTuple, D.flat, List.filterMap, List.replicate, LB16, slI, slD', ix_least, ix_most, mt___repr___1, chkS, r1, h5, h6, h3, h3', a7, a8, ixD, f__law_same, key]
theorem lb17 {n : Str} {s0 : D} {m : Int} {s : D} {p : Int × Int} (hs : s ∈ allKinds) : LB17 (LΓ x0 x2 x3 x4 x5 (.v (opD n s0 m)) x7 (.v (opI n s0 m)) x9 x10 x11 x12 (.v (slD' s p)) x14 (.v (slI s p)) x16 x17 x18 x19 x20) = .ret (.nx, LΓ x0 x2 x3 x4 x5 (.v (opD n s0 m)) x7 (.v (opI n s0 m)) x9 x10 x11 x12 (.v (slD' s p)) x14 (.v (slI s p)) x16 x17 x18 x19 x20) := by
  obtain ⟨z, h1, h2⟩ := ready_ok (List.mem_cons_of_mem _ hs : s ∈ sorts)
  obtain ⟨b, hb, hbt⟩ := kinds_ne hs hs
  have hb1 : b = true := hbt.mpr rfl
  subst hb1
  have e1 : eqG false cP mt_eq (opI n s0 m) (slI s p) = .ret false := rfl
  have e2 : eqG false cP mt_eq (slI s p) (.str n) = .ret false := rfl
  simp [sNm, sK, sAnd, sOr, sNot, sIf, tAndB, tOrB, tNotB, sB, s2, sN, sM, sCh, sCons, sNil, sLst, sTup, sFl, flD, sSl, sPo, sStar, starD, X.fz, sRet, sSeq, sIfS, sSkip, sNev, sAsg, asgX, sAsgT, sPar2, sStF, putD, Tg.asg, setG, fin1, finI, runB, runI, frame, runF, runStarI, permute, sCal, sMth, sNew, sNew0, sEq, sUnI, sIsi, isND, D.isN, isBD, bStr, bInt, bBool, bList, bTuple, D.flat, List.filterMap, List.replicate, LB17, ixD, ix_kind, h1, h2, hb, e1, e2]
end
end Toy
namespace Toy
open PySem PySem.Spec L2 G
open PyProof.Rows hiding St
theorem body_ok {x0 x2 x3 x4 x5 x6 x7 x8 x9 x10 x11 x12 x13 x14 x15 x16 x17 x18 x19 x20 : Sl} {Q : Fl × List Sl → Prop} (q : ∀ x2 x3 x4 x5 x6 x7 x8 x9 x10 x11 x12 x13 x14 x15 x16 x17 x18 x19 x20, Q (.nx, LΓ x0 x2 x3 x4 x5 x6 x7 x8 x9 x10 x11 x12 x13 x14 x15 x16 x17 x18 x19 x20)) :
    (LBb18 (LΓ x0 x2 x3 x4 x5 x6 x7 x8 x9 x10 x11 x12 x13 x14 x15 x16 x17 x18 x19 x20)).ok Q := by
  refine w_seq (lb1 fun a ha b hb ne => ?_)
  refine w_seq (lb2 fun o1 o2 l1 l2 h1 h2 h3 h4 => ?_)
  refine w_seq (lb3 fun o ho => ?_)
  have hO : ∃ n s m, n ∈ dn ∧ s ∈ sorts ∧ (0 : Int) ≤ m ∧ m ≤ 4 ∧ o = opD n s m := by
    rcases ho with rfl | rfl | rfl
    · obtain ⟨s, hs, m, m0, m4, rfl⟩ := h2; exact ⟨b, s, m, hb, hs, m0, m4, rfl⟩
    · obtain ⟨s, hs, m, m0, m4, rfl⟩ := h3; exact ⟨a, s, m, ha, hs, m0, m4, rfl⟩
    · obtain ⟨s, hs, m, m0, m4, rfl⟩ := h1; exact ⟨a, s, m, ha, hs, m0, m4, rfl⟩
  obtain ⟨s, hs, m, m0, m4, rfl⟩ := h1
  obtain ⟨n', s', m', hn', hs', m0', m4', rfl⟩ := hO
  show (sSeq LB4 _ _).ok Q
  rw [seq_nx (lb4 ha hs m0 m4 hn' hs' m0' m4'), seq_nx (lb5 ha hs), seq_nx (lb6 hs)]
  refine w_step (fun Γ => ∃ y10 y11, Γ = LΓ x0 x2 _ _ _ (.v (opD a s m)) (.v (opD n' s' m')) (.v (opI a s m)) (.v (opI n' s' m')) y10 y11 x12 x13 x14 x15 x16 x17 x18 x19 x20) (lb10 ha hs) ?_
  rintro _ ⟨y10, y11, rfl⟩
  rw [seq_nx (lb11 hs hs')]
  refine w_seq (lb12 fun c d hc hd => ?_)
  refine w_seq (lb13 fun e he => ?_)
  have hE : SlotOk e := by rcases he with rfl | rfl <;> assumption
  obtain ⟨k, hk, p, hp, rfl⟩ := hc
  obtain ⟨k', hk', p', hp', rfl⟩ := hE
  show (sSeq LB14 _ _).ok Q
  have mk : k ∈ sorts := List.mem_cons_of_mem _ hk
  have mk' : k' ∈ sorts := List.mem_cons_of_mem _ hk'
  rw [seq_nx (lb14 mk mk' hp hp'), seq_nx (lb15 hk hp), seq_nx (lb16 hk hk' hp)]
  exact M.ok_of (lb17 hk) (q _ _ _ _ _ _ _ _ _ _ _ _ _ _ _ _ _ _ _)
theorem last_same : isR (f__law_same 8 [.lst [.non, .int 1, .lst [.str "-x"], .int 1, .int 1], .lst [.non, .int 1, .lst [.str "-x"], .int 1, .int 1]]) (.dt (.bl true)) = true := by decide +kernel
theorem tail_ok {x0 x2 x3 x4 x5 x6 x7 x8 x9 x10 x11 x12 x13 x14 x15 x16 x17 x18 x19 x20 : Sl} : ∃ Γ, (sSeq LB19 (sSeq LB20 LB21)) (LΓ x0 x2 x3 x4 x5 x6 x7 x8 x9 x10 x11 x12 x13 x14 x15 x16 x17 x18 x19 x20) = .ret (.rt (.dt (.bl true)), Γ) := by
  have hx : ("-x" : Str) ∈ dx := by simp [dx]
  have e1 := opt_init (n := "-x") (k := .non) (m := 1) (name_ok hx) (betw_ok (by decide) (by decide))
  have e2 := place_init (p := (1, 1)) (by simp [bnds]) (k := .ins 2 [])
  have e3 : f_Option_all_items [.ins 0 [.str "-x", .non, .int 1]] = .ret (.nw (.l [.str "-x"])) := items_opt (s := .non) (m := .int 1) hx (List.mem_cons_self ..)
  have e4 := isR_eq last_same
  have a1 : LB19 (LΓ x0 x2 x3 x4 x5 x6 x7 x8 x9 x10 x11 x12 x13 x14 x15 x16 x17 x18 x19 x20) = .ret (.nx, LΓ x0 x2 x3 x4 x5 x6 x7 x8 x9 x10 x11 x12 x13 x14 x15 x16 x17 (.v (.ins 0 [.str "-x", .non, .int 1])) (.v (.ins 1 [.ins 2 [], .int 1, .int 1])) x20) := by
    simp [sNm, sK, sAnd, sOr, sNot, sIf, tAndB, tOrB, tNotB, sB, s2, sN, sM, sCh, sCons, sNil, sLst, sTup, sFl, flD, sSl, sPo, sStar, starD, X.fz, sRet, sSeq, sIfS, sSkip, sNev, sAsg, asgX, sAsgT, sPar2, sStF, putD, Tg.asg, setG, fin1, finI, runB, runI, frame, runF, runStarI, permute, sCal, sMth, sNew, sNew0, sEq, sUnI, sIsi, isND, D.isN, isBD, bStr, bInt, bBool, bList, bTuple, D.flat, List.filterMap, List.replicate, LB19, e1, e2]
  have a2 : LB20 (LΓ x0 x2 x3 x4 x5 x6 x7 x8 x9 x10 x11 x12 x13 x14 x15 x16 x17 (.v (.ins 0 [.str "-x", .non, .int 1])) (.v (.ins 1 [.ins 2 [], .int 1, .int 1])) x20) = .ret (.nx, LΓ x0 x2 x3 x4 x5 x6 x7 x8 x9 x10 x11 x12 x13 x14 x15 x16 x17 (.v (.ins 0 [.str "-x", .non, .int 1])) (.v (.ins 1 [.ins 2 [], .int 1, .int 1])) (.v (.lst [.non, .int 1, .lst [.str "-x"], .int 1, .int 1]))) := by
    simp [sNm, sK, sAnd, sOr, sNot, sIf, tAndB, tOrB, tNotB, sB, s2, sN, sM, sCh, sCons, sNil, sLst, sTup, sFl, flD, sSl, sPo, sStar, starD, X.fz, sRet, sSeq, sIfS, sSkip, sNev, sAsg, asgX, sAsgT, sPar2, sStF, putD, Tg.asg, setG, fin1, finI, runB, runI, frame, runF, runStarI, permute, sCal, sMth, sNew, sNew0, sEq, sUnI, sIsi, isND, D.isN, isBD, bStr, bInt, bBool, bList, bTuple, D.flat, List.filterMap, List.replicate, LB20, ix_kind, ix_most, ix_least, sMth, mt_all_items_1, e3]
  have a3 : LB21 (LΓ x0 x2 x3 x4 x5 x6 x7 x8 x9 x10 x11 x12 x13 x14 x15 x16 x17 (.v (.ins 0 [.str "-x", .non, .int 1])) (.v (.ins 1 [.ins 2 [], .int 1, .int 1])) (.v (.lst [.non, .int 1, .lst [.str "-x"], .int 1, .int 1]))) = .ret (.rt (.dt (.bl true)), LΓ x0 x2 x3 x4 x5 x6 x7 x8 x9 x10 x11 x12 x13 x14 x15 x16 x17 (.v (.ins 0 [.str "-x", .non, .int 1])) (.v (.ins 1 [.ins 2 [], .int 1, .int 1])) (.v (.lst [.non, .int 1, .lst [.str "-x"], .int 1, .int 1]))) := by
    simp [sNm, sK, sAnd, sOr, sNot, sIf, tAndB, tOrB, tNotB, sB, s2, sN, sM, sCh, sCons, sNil, sLst, sTup, sFl, flD, sSl, sPo, sStar, starD, X.fz, sRet, sSeq, sIfS, sSkip, sNev, sAsg, asgX, sAsgT, sPar2, sStF, putD, Tg.asg, setG, fin1, finI, runB, runI, frame, runF, runStarI, permute, sCal, sMth, sNew, sNew0, sEq, sUnI, sIsi, isND, D.isN, isBD, bStr, bInt, bBool, bList, bTuple, D.flat, List.filterMap, List.replicate, LB21, e4]
  exact ⟨_, (seq_nx a1).trans ((seq_nx a2).trans a3)⟩
theorem law_ok {x0 : Sl} : (b_law (LΓ x0 .no .no .no .no .no .no .no .no .no .no .no .no .no .no .no .no .no .no .no)).ok fun p => p.1 = .rt (.dt (.bl true)) := by
  rw [LB_eq]
  refine w_step (fun Γ => ∃ x2 x3 x4 x5 x6 x7 x8 x9 x10 x11 x12 x13 x14 x15 x16 x17 x18 x19 x20, Γ = LΓ x0 x2 x3 x4 x5 x6 x7 x8 x9 x10 x11 x12 x13 x14 x15 x16 x17 x18 x19 x20) ?_ ?_
  · refine w_for (ds := rangeL 0 6) (fun es Γ => ∃ x2 x3 x4 x5 x6 x7 x8 x9 x10 x11 x12 x13 x14 x15 x16 x17 x18 x19 x20, Γ = LΓ x0 x2 x3 x4 x5 x6 x7 x8 x9 x10 x11 x12 x13 x14 x15 x16 x17 x18 x19 x20) rfl ⟨_, _, _, _, _, _, _, _, _, _, _, _, _, _, _, _, _, _, _, rfl⟩ ?_ ?_
    · rintro d es _ ⟨x2, x3, x4, x5, x6, x7, x8, x9, x10, x11, x12, x13, x14, x15, x16, x17, x18, x19, x20, rfl⟩
      exact ⟨[(2, d)], rfl, body_ok (x2 := .v d) fun _ _ _ _ _ _ _ _ _ _ _ _ _ _ _ _ _ _ _ => ⟨_, _, _, _, _, _, _, _, _, _, _, _, _, _, _, _, _, _, _, rfl⟩⟩
    · rintro _ h
      exact ⟨rfl, h⟩
  · rintro _ ⟨x2, x3, x4, x5, x6, x7, x8, x9, x10, x11, x12, x13, x14, x15, x16, x17, x18, x19, x20, rfl⟩
    obtain ⟨Γ, e⟩ := tail_ok (x0 := x0) (x2 := x2) (x3 := x3) (x4 := x4) (x5 := x5) (x6 := x6) (x7 := x7) (x8 := x8) (x9 := x9) (x10 := x10) (x11 := x11) (x12 := x12) (x13 := x13) (x14 := x14) (x15 := x15) (x16 := x16) (x17 := x17) (x18 := x18) (x19 := x19) (x20 := x20)
    exact M.ok_of e rfl
theorem law_run0 : (b_law (.no :: .v .feed :: List.replicate 19 .no)).ok fun p => p.1 = .rt (.dt (.bl true)) := law_ok
end Toy
namespace Toy
open PySem PySem.Spec L2 G
open PyProof.Rows hiding St
section
def spLaw (K : PySem.W.Frag) : Sp := fun vs H Q _ => ∃ (a : Addr) (ns : List Int), vs = [.ref a] ∧ SqL K H a (ns.map V.int) ∧ ns.length ≤ 63 ∧ ∀ H', Q (.bl true) H'
abbrev lawLevel : Nat := lawRoom + 1
def lawΓ (n : Nat) : List Sl := .no :: .v .feed :: List.replicate (n - 2) .no
theorem law_start {B : Cf} {p l : Addr} {H : Hp} {N : List Str} {v : V} (hN : 2 ≤ N.length) (F : Feed H p l) : Rl (B.wf (some (p, l))) [p] H [] H (lawΓ N.length) ((L2.start N [v]).set 1 (some (.ref p))) := by
  obtain ⟨n, hn⟩ : ∃ n, N.length = n + 2 := ⟨N.length - 2, by omega⟩
  have es : (L2.start N [v]).set 1 (some (.ref p)) = some v :: some (.ref p) :: List.replicate n none := by
    unfold L2.start
    simp only [hn, List.length_cons, List.length_nil, List.map_cons, List.map_nil]
    rfl
  have eg : lawΓ N.length = .no :: .v .feed :: List.replicate n .no := by unfold lawΓ; rw [hn]; rfl
  rw [es, eg]
  have slots : ∀ (i : Nat) (s : Sl), ((.no :: .v .feed :: List.replicate n .no : List Sl))[i]? = some s → s = .no ∨ (i = 1 ∧ s = .v .feed) := fun i s h => by
    match i with
    | 0 => simp at h; exact .inl h.symm
    | 1 => simp at h; exact .inr ⟨rfl, h.symm⟩
    | i + 2 =>
      simp only [List.getElem?_cons_succ, List.getElem?_replicate] at h
      split at h
      · exact .inl (Option.some.inj h).symm
      · cases h
  refine ⟨by simp, fun i s h => ?_, fun i j o o' a h1 h2 h3 h4 => ?_, fun a h => (by cases h), fun a h => (by cases h), fun p' l' h => ?_, fun a h => ?_, Ext.of_same (Same.refl _) fun p' l' h => ?_, fun a e => (by cases e)⟩
  · rcases slots i s h with rfl | ⟨rfl, rfl⟩
    · trivial
    · exact ⟨.ref p, rfl, .feed rfl⟩
  · rcases slots i _ h1 with e | ⟨_, e⟩ <;> cases e
  · cases h
    exact ⟨List.mem_singleton.mpr rfl, F.tkl⟩
  · rw [List.mem_singleton.mp h]; exact F.tk
  · cases h; exact F
theorem law_all {P : Program} {w : World} {K : PySem.W.Frag} {mg : Str → Option Value} {base : Heap} {c : Cs} (A : Alls K mg c) (hlaw : (b_law (lawΓ lawNames)).ok fun p => p.1 = .rt (.dt (.bl true))) : Okd P w K mg base CX0 lawLevel "law" s_law ["_law_script"] (spLaw K) := by
  have T := A.T
  have c1 := c__law_feed_ok (P := P) (w := w) (base := base) A.d__law_feed T
  refine ok_mk A.d_law sc_law (fun vs H Q E h => ?_) (fun f cdv A' outer s H vs Q E hr h => ?_)
  · obtain ⟨a, ns, rfl, _⟩ := h; rfl
  · obtain ⟨a, ns, rfl, hS, hn, q⟩ := h
    refine ⟨_, pss_cons (ps_set (i := 1) sc_law.nd rfl (by first | exact Or.inl rfl | exact Or.inr rfl) (pe_c c1 (hr.mono (by decide)) (Nat.le_refl 1) (by rfl) (pa_cons (pv 0) pa_nil)))
      (⟨fun pins s1 σ H1 D I ⟨p, l, He, h⟩ => (d_law_ok (P := P) (w := w) (base := base) A cdv A' outer s H He E f (some (p, l)) [p] hr).run pins s1 σ H1 D I h⟩ : PSs _ _ fun D σ H1 => ∃ p l He, rdS ((Bc K c).wf (some (p, l))) [p] He b_law D σ H1), ?_⟩
    refine ⟨_, rfl, a, ns, rfl, hS, hn, fun p l H1 S1 F1 hp hl => ?_⟩
    refine ⟨p, l, H1, lawΓ lawNames, [], law_start (N := lawN) (by decide) F1, ?_⟩
    refine M.wp_mono (fun o h => ?_) (M.ok_iff.mp hlaw)
    obtain ⟨fl, Γ⟩ := o
    cases h
    intro v H' _ r
    cases (show Rp _ _ v (.bl true) from r)
    exact q H'
end
end Toy
namespace Toy
open PySem PySem.Spec PyProof.Rows L2
theorem fun_uniq {K : PySem.W.Frag} {x q : Str} {st : Stmt} {f : Addr} {fd fd' : FuncData} (a : Fun K x q st f fd) (b : Fun K x q st f fd') : fd = fd' := by
  obtain ⟨_, _, _, _, _, _, _, _, _, _, l1, _⟩ := a.ex
  obtain ⟨_, _, _, _, _, _, _, _, _, _, l2, _⟩ := b.ex
  rw [l1] at l2
  injection l2 with l2
  injection l2 with _ _ l2
  injection l2
theorem law_end {P : Program} {w : World} {K : PySem.W.Frag} {mg : Str → Option Value} {x y : Str} {st : Stmt} {fa : Addr} {k : Nat} {sp : Sp} (D : Df K mg x st)
    (hb : ∀ (kV doc pm : Value) (an : Option Addr) (cdv ct : Value) (v : Value), bindArgs (PySem.W.fnOf x x (defArgs st) (defBody st) (defScope st) .none kV doc pm an cdv ct) ⟨[v], []⟩ = pure [(y, v)])
    (o : ∀ base : Heap, K.In base → base.Ns mainGlobals mg → Okd P w K mg base CX0 k x st [y] sp) (hfa : mg x = some (.ref fa)) :
    ∃ fd : FuncData, (∀ (s : Shared) (v : Value), BindsTo s fd ⟨[v], []⟩ [(y, v)]) ∧ ∀ base : Heap, K.In base → base.Ns mainGlobals mg → FnOk P w K mg base CX0 k fa fd [y] sp := by
  obtain ⟨f, fd, F, hm⟩ := D.ex
  have e := hm.symm.trans hfa
  injection e with e
  injection e with e
  subst e
  refine ⟨fd, fun s v => ?_, fun base h1 h2 => ?_⟩
  · obtain ⟨oc, od, kV, doc, pm, an, cdv, ct, osl, rfl, lk, hcd⟩ := F.ex
    exact .of_eq (hb kV doc pm an cdv ct v)
  · obtain ⟨f', fd', F', hm', ok⟩ := (o base h1 h2).ex
    have e := hm'.symm.trans hm
    injection e with e
    injection e with e
    subst e
    rw [fun_uniq F F']
    exact ok
theorem walk {l : PySem.W.OpenLaw} {q : Program} {loose : List Str} {XP : (Str → Option Value) → Heap → Prop} {YP : World → Heap → Prop} {d : DefRec} {K : Params → PySem.W.Frag} (hn : l.most = some 63) (hdf : d.params.defaults = [])
    (hY : ∀ (w : World) (h : Heap), YP w h → (K w.params).In h) (hd : d.name = "law")
    (F : ∀ (w : World) (mg : Str → Option Value) (h : Heap), (K w.params).In h → h.Ns mainGlobals mg → ∃ c, Alls (K w.params) mg c) :
    PySem.W.WalkO q loose XP YP l.row.toRowW d [] (fun f vs => PySem.call f vs) :=
  L2.walk_of (n := 63) (k := lawLevel) (x := "_law_script") (CX := fun _ => CX0) (sp := fun w => spLaw (K w.params)) hn (by decide) hdf ⟨rfl, by decide, by decide⟩ hY
    (fun w mg fa h KX G hmg => by
      obtain ⟨c, A⟩ := F w mg h KX G
      rw [hd] at hmg
      exact law_end A.d_law (fun _ _ _ _ _ _ _ => rfl) (fun base _ _ => law_all (P := l.prog) (w := w) (base := base) A law_run0) hmg)
    (fun _ _ a ns hl _ hS => ⟨a, ns, rfl, hS, hl, fun _ => rfl⟩) fun _ _ _ _ _ z => z
end Toy

open PySem PySem.W PyProof.Rows in
set_option maxRecDepth 100000 in
set_option maxHeartbeats 0 in
theorem PySem.Challenge.cw_tabsure_k05_options_and_places_holds : PySem.Challenge.rw_tabsure_k05_options_and_places.Holds := by
  w_on; o_law; k_head; (case hw => w_witness2)
  k_fill
  refine Toy.walk (l := PySem.Challenge.rw_tabsure_k05_options_and_places) rfl rfl (fun w h Y => PySem.W.kIn_of Y) rfl ?F
  case F =>
    intro w mg h KX G
    refine' Toy.all_mk KX G ?hn_Option ?hn_Place ?hn_Kind ?hn_AnyWord ?hn_OneOf ?hn_Number ?hgc ?htc ?hp_Option ?hh_Option ?ho_Option ?hs_Option ?hk_Option ?hm_Option ?hb_Option ?hc_Option ?hf_Option___init__ ?hf_Option_all_items ?hf_Option___eq__ ?hf_Option___repr__ ?hp_Place ?hh_Place ?ho_Place ?hs_Place ?hk_Place ?hm_Place ?hb_Place ?hc_Place ?hf_Place___init__ ?hf_Place___eq__ ?hf_Place___repr__ ?hp_Kind ?hh_Kind ?ho_Kind ?hs_Kind ?hk_Kind ?hm_Kind ?hb_Kind ?hc_Kind ?hf_Kind_fits ?hf_Kind_words ?hf_Kind_hint ?hf_Kind_text ?hf_Kind___contains__ ?hf_Kind___eq__ ?hf_Kind___repr__ ?hp_AnyWord ?hh_AnyWord ?ho_AnyWord ?hs_AnyWord ?hk_AnyWord ?hm_AnyWord ?hb_AnyWord ?hc_AnyWord ?hf_AnyWord_fits ?hf_AnyWord_words ?hf_AnyWord_hint ?hf_AnyWord_text ?hf_AnyWord___contains__ ?hf_AnyWord___eq__ ?hf_AnyWord___repr__ ?hp_OneOf ?hh_OneOf ?ho_OneOf ?hs_OneOf ?hk_OneOf ?hm_OneOf ?hb_OneOf ?hc_OneOf ?hf_OneOf_fits ?hf_OneOf_words ?hf_OneOf_hint ?hf_OneOf_text ?hf_OneOf___contains__ ?hf_OneOf___eq__ ?hf_OneOf___repr__ ?hf_OneOf___init__ ?hp_Number ?hh_Number ?ho_Number ?hs_Number ?hk_Number ?hm_Number ?hb_Number ?hc_Number ?hf_Number_fits ?hf_Number_words ?hf_Number_hint ?hf_Number_text ?hf_Number___contains__ ?hf_Number___eq__ ?hf_Number___repr__ ?hf_Number___init__ ?hi_Option___init__ ?hi_Option_all_items ?hi_Option___eq__ ?hi_Option___repr__ ?hi_Place___init__ ?hi_Place___eq__ ?hi_Place___repr__ ?hi_Kind_fits ?hi_Kind_words ?hi_Kind_hint ?hi_Kind_text ?hi_Kind___contains__ ?hi_Kind___eq__ ?hi_Kind___repr__ ?hi_AnyWord_fits ?hi_AnyWord_hint ?hi_AnyWord_text ?hi_OneOf___init__ ?hi_OneOf_fits ?hi_OneOf_words ?hi_OneOf_text ?hi_Number___init__ ?hi_Number_fits ?hi_Number_hint ?hi_Number_text ?l_Option___init__ ?c_Option___init__ ?k_Option___init__ ?d_Option___init__ ?w0_Option___init__ ?l_Option_all_items ?c_Option_all_items ?k_Option_all_items ?l_Option___eq__ ?c_Option___eq__ ?k_Option___eq__ ?l_Option___repr__ ?c_Option___repr__ ?k_Option___repr__ ?l_Place___init__ ?c_Place___init__ ?k_Place___init__ ?w0_Place___init__ ?w1_Place___init__ ?l_Place___eq__ ?c_Place___eq__ ?k_Place___eq__ ?l_Place___repr__ ?c_Place___repr__ ?k_Place___repr__ ?l_Kind_fits ?c_Kind_fits ?k_Kind_fits ?w0_Kind_fits ?l_Kind_words ?c_Kind_words ?k_Kind_words ?l_Kind_hint ?c_Kind_hint ?k_Kind_hint ?l_Kind_text ?c_Kind_text ?k_Kind_text ?l_Kind___contains__ ?c_Kind___contains__ ?k_Kind___contains__ ?l_Kind___eq__ ?c_Kind___eq__ ?k_Kind___eq__ ?l_Kind___repr__ ?c_Kind___repr__ ?k_Kind___repr__ ?l_AnyWord_fits ?c_AnyWord_fits ?k_AnyWord_fits ?w0_AnyWord_fits ?l_AnyWord_hint ?c_AnyWord_hint ?k_AnyWord_hint ?l_AnyWord_text ?c_AnyWord_text ?k_AnyWord_text ?l_OneOf___init__ ?c_OneOf___init__ ?k_OneOf___init__ ?l_OneOf_fits ?c_OneOf_fits ?k_OneOf_fits ?w0_OneOf_fits ?l_OneOf_words ?c_OneOf_words ?k_OneOf_words ?l_OneOf_text ?c_OneOf_text ?k_OneOf_text ?l_Number___init__ ?c_Number___init__ ?k_Number___init__ ?l_Number_fits ?c_Number_fits ?k_Number_fits ?w0_Number_fits ?l_Number_hint ?c_Number_hint ?k_Number_hint ?l_Number_text ?c_Number_text ?k_Number_text ?he_Option ?hq_Option ?hx_Option_name ?hx_Option_kind ?hx_Option_most ?he_Place ?hq_Place ?hx_Place_kind ?hx_Place_least ?hx_Place_most ?h0_Kind ?he_Kind ?hq_Kind ?h0_AnyWord ?he_AnyWord ?hq_AnyWord ?he_OneOf ?hq_OneOf ?hx_OneOf_own_words ?he_Number ?hq_Number ?hx_Number_low ?hx_Number_high ?hr_Number_MOST ?hg_Number_MOST ?hv_Number_MOST ?ic_Option ?it_Option ?is_Option ?ib_NoneType_Option ?ib_bool_Option ?ib_int_Option ?ib_str_Option ?ib_list_Option ?ib_tuple_Option ?ib_dict_Option ?io_Option_Option ?io_Place_Option ?io_Kind_Option ?io_AnyWord_Option ?io_OneOf_Option ?io_Number_Option ?ic_Place ?it_Place ?is_Place ?ib_NoneType_Place ?ib_bool_Place ?ib_int_Place ?ib_str_Place ?ib_list_Place ?ib_tuple_Place ?ib_dict_Place ?io_Option_Place ?io_Place_Place ?io_Kind_Place ?io_AnyWord_Place ?io_OneOf_Place ?io_Number_Place ?ic_Kind ?it_Kind ?is_Kind ?ib_NoneType_Kind ?ib_bool_Kind ?ib_int_Kind ?ib_str_Kind ?ib_list_Kind ?ib_tuple_Kind ?ib_dict_Kind ?io_Option_Kind ?io_Place_Kind ?io_Kind_Kind ?io_AnyWord_Kind ?io_OneOf_Kind ?io_Number_Kind ?nb_Option_NoneType ?nb_Option_bool ?nb_Option_int ?nb_Option_str ?nb_Option_list ?nb_Option_tuple ?nb_Option_dict ?no_Option_Option ?no_Option_Place ?no_Option_AnyWord ?no_Option_OneOf ?no_Option_Number ?nb_Place_NoneType ?nb_Place_bool ?nb_Place_int ?nb_Place_str ?nb_Place_list ?nb_Place_tuple ?nb_Place_dict ?no_Place_Option ?no_Place_Place ?no_Place_AnyWord ?no_Place_OneOf ?no_Place_Number ?nb_Kind_NoneType ?nb_Kind_bool ?nb_Kind_int ?nb_Kind_str ?nb_Kind_list ?nb_Kind_tuple ?nb_Kind_dict ?no_Kind_Kind ?nb_AnyWord_NoneType ?nb_AnyWord_bool ?nb_AnyWord_int ?nb_AnyWord_str ?nb_AnyWord_list ?nb_AnyWord_tuple ?nb_AnyWord_dict ?no_AnyWord_Option ?no_AnyWord_Place ?no_AnyWord_Kind ?no_AnyWord_AnyWord ?no_AnyWord_OneOf ?no_AnyWord_Number ?nb_OneOf_NoneType ?nb_OneOf_bool ?nb_OneOf_int ?nb_OneOf_str ?nb_OneOf_list ?nb_OneOf_tuple ?nb_OneOf_dict ?no_OneOf_Option ?no_OneOf_Place ?no_OneOf_Kind ?no_OneOf_AnyWord ?no_OneOf_OneOf ?no_OneOf_Number ?nb_Number_NoneType ?nb_Number_bool ?nb_Number_int ?nb_Number_str ?nb_Number_list ?nb_Number_tuple ?nb_Number_dict ?no_Number_Option ?no_Number_Place ?no_Number_Kind ?no_Number_AnyWord ?no_Number_OneOf ?no_Number_Number ?hn__wall ?l__wall ?c__wall ?k__wall ?hn_is_number ?l_is_number ?c_is_number ?k_is_number ?hn_is_between ?l_is_between ?c_is_between ?k_is_between ?hn_is_word ?l_is_word ?c_is_word ?k_is_word ?hn_is_plain ?l_is_plain ?c_is_plain ?k_is_plain ?hn_is_number_word ?l_is_number_word ?c_is_number_word ?k_is_number_word ?hn_is_option_name ?l_is_option_name ?c_is_option_name ?k_is_option_name ?hn_is_name ?l_is_name ?c_is_name ?k_is_name ?hn__law_feed ?l__law_feed ?c__law_feed ?k__law_feed ?hn__law_take ?l__law_take ?c__law_take ?k__law_take ?hn__law_of ?l__law_of ?c__law_of ?k__law_of ?hn__law_mixed ?l__law_mixed ?c__law_mixed ?k__law_mixed ?hn__law_same ?l__law_same ?c__law_same ?k__law_same ?hn__law_plain_words ?l__law_plain_words ?c__law_plain_words ?k__law_plain_words ?hn__law_dashes ?l__law_dashes ?c__law_dashes ?k__law_dashes ?hn__law_kind ?l__law_kind ?c__law_kind ?k__law_kind ?hn__law_opts ?l__law_opts ?c__law_opts ?k__law_opts ?hn__law_items ?l__law_items ?c__law_items ?k__law_items ?hn__law_slots ?l__law_slots ?c__law_slots ?k__law_slots ?hn__law_ready_kind ?l__law_ready_kind ?c__law_ready_kind ?k__law_ready_kind ?hn__law_ready_option ?l__law_ready_option ?c__law_ready_option ?k__law_ready_option ?hn__law_ready_place ?l__law_ready_place ?c__law_ready_place ?k__law_ready_place ?hn_law ?l_law ?c_law ?k_law ?z0 ?z1 ?z2 ?z3 ?z4 ?z5 ?z6 ?z7 ?z8 ?z9 ?z10 ?z11 ?z12 ?z13 ?z14 ?z15 ?z16 ?z17 ?z18 ?z19 ?cst0 ?cst1 ?cst2 ?cst3 ?cst4 ?cst5 ?cst6
    (case hn_Option => k_is)
    (case hn_Place => k_is)
    (case hn_Kind => k_is)
    (case hn_AnyWord => k_is)
    (case hn_OneOf => k_is)
    (case hn_Number => k_is)
    (case hgc => k_is)
    (case htc => k_is)
    (case hp_Option => k_is)
    (case hh_Option => k_is)
    (case ho_Option => k_is)
    (case hs_Option => k_is)
    (case hk_Option => k_is)
    (case hm_Option => k_is)
    (case hb_Option => k_is)
    (case hc_Option => k_is)
    (case hf_Option___init__ => k_is)
    (case hf_Option_all_items => k_is)
    (case hf_Option___eq__ => k_is)
    (case hf_Option___repr__ => k_is)
    (case hp_Place => k_is)
    (case hh_Place => k_is)
    (case ho_Place => k_is)
    (case hs_Place => k_is)
    (case hk_Place => k_is)
    (case hm_Place => k_is)
    (case hb_Place => k_is)
    (case hc_Place => k_is)
    (case hf_Place___init__ => k_is)
    (case hf_Place___eq__ => k_is)
    (case hf_Place___repr__ => k_is)
    (case hp_Kind => k_is)
    (case hh_Kind => k_is)
    (case ho_Kind => k_is)
    (case hs_Kind => k_is)
    (case hk_Kind => k_is)
    (case hm_Kind => k_is)
    (case hb_Kind => k_is)
    (case hc_Kind => k_is)
    (case hf_Kind_fits => k_is)
    (case hf_Kind_words => k_is)
    (case hf_Kind_hint => k_is)
    (case hf_Kind_text => k_is)
    (case hf_Kind___contains__ => k_is)
    (case hf_Kind___eq__ => k_is)
    (case hf_Kind___repr__ => k_is)
    (case hp_AnyWord => k_is)
    (case hh_AnyWord => k_is)
    (case ho_AnyWord => k_is)
    (case hs_AnyWord => k_is)
    (case hk_AnyWord => k_is)
    (case hm_AnyWord => k_is)
    (case hb_AnyWord => k_is)
    (case hc_AnyWord => k_is)
    (case hf_AnyWord_fits => k_is)
    (case hf_AnyWord_words => k_is)
    (case hf_AnyWord_hint => k_is)
    (case hf_AnyWord_text => k_is)
    (case hf_AnyWord___contains__ => k_is)
    (case hf_AnyWord___eq__ => k_is)
    (case hf_AnyWord___repr__ => k_is)
    (case hp_OneOf => k_is)
    (case hh_OneOf => k_is)
    (case ho_OneOf => k_is)
    (case hs_OneOf => k_is)
    (case hk_OneOf => k_is)
    (case hm_OneOf => k_is)
    (case hb_OneOf => k_is)
    (case hc_OneOf => k_is)
    (case hf_OneOf_fits => k_is)
    (case hf_OneOf_words => k_is)
    (case hf_OneOf_hint => k_is)
    (case hf_OneOf_text => k_is)
    (case hf_OneOf___contains__ => k_is)
    (case hf_OneOf___eq__ => k_is)
    (case hf_OneOf___repr__ => k_is)
    (case hf_OneOf___init__ => k_is)
    (case hp_Number => k_is)
    (case hh_Number => k_is)
    (case ho_Number => k_is)
    (case hs_Number => k_is)
    (case hk_Number => k_is)
    (case hm_Number => k_is)
    (case hb_Number => k_is)
    (case hc_Number => k_is)
    (case hf_Number_fits => k_is)
    (case hf_Number_words => k_is)
    (case hf_Number_hint => k_is)
    (case hf_Number_text => k_is)
    (case hf_Number___contains__ => k_is)
    (case hf_Number___eq__ => k_is)
    (case hf_Number___repr__ => k_is)
    (case hf_Number___init__ => k_is)
    (case hi_Option___init__ => k_is)
    (case hi_Option_all_items => k_is)
    (case hi_Option___eq__ => k_is)
    (case hi_Option___repr__ => k_is)
    (case hi_Place___init__ => k_is)
    (case hi_Place___eq__ => k_is)
    (case hi_Place___repr__ => k_is)
    (case hi_Kind_fits => k_is)
    (case hi_Kind_words => k_is)
    (case hi_Kind_hint => k_is)
    (case hi_Kind_text => k_is)
    (case hi_Kind___contains__ => k_is)
    (case hi_Kind___eq__ => k_is)
    (case hi_Kind___repr__ => k_is)
    (case hi_AnyWord_fits => k_is)
    (case hi_AnyWord_hint => k_is)
    (case hi_AnyWord_text => k_is)
    (case hi_OneOf___init__ => k_is)
    (case hi_OneOf_fits => k_is)
    (case hi_OneOf_words => k_is)
    (case hi_OneOf_text => k_is)
    (case hi_Number___init__ => k_is)
    (case hi_Number_fits => k_is)
    (case hi_Number_hint => k_is)
    (case hi_Number_text => k_is)
    (case l_Option___init__ => k_is)
    (case c_Option___init__ => k_is)
    (case k_Option___init__ => k_is)
    (case d_Option___init__ => k_is)
    (case w0_Option___init__ => k_is)
    (case l_Option_all_items => k_is)
    (case c_Option_all_items => k_is)
    (case k_Option_all_items => k_is)
    (case l_Option___eq__ => k_is)
    (case c_Option___eq__ => k_is)
    (case k_Option___eq__ => k_is)
    (case l_Option___repr__ => k_is)
    (case c_Option___repr__ => k_is)
    (case k_Option___repr__ => k_is)
    (case l_Place___init__ => k_is)
    (case c_Place___init__ => k_is)
    (case k_Place___init__ => k_is)
    (case w0_Place___init__ => k_is)
    (case w1_Place___init__ => k_is)
    (case l_Place___eq__ => k_is)
    (case c_Place___eq__ => k_is)
    (case k_Place___eq__ => k_is)
    (case l_Place___repr__ => k_is)
    (case c_Place___repr__ => k_is)
    (case k_Place___repr__ => k_is)
    (case l_Kind_fits => k_is)
    (case c_Kind_fits => k_is)
    (case k_Kind_fits => k_is)
    (case w0_Kind_fits => k_is)
    (case l_Kind_words => k_is)
    (case c_Kind_words => k_is)
    (case k_Kind_words => k_is)
    (case l_Kind_hint => k_is)
    (case c_Kind_hint => k_is)
    (case k_Kind_hint => k_is)
    (case l_Kind_text => k_is)
    (case c_Kind_text => k_is)
    (case k_Kind_text => k_is)
    (case l_Kind___contains__ => k_is)
    (case c_Kind___contains__ => k_is)
    (case k_Kind___contains__ => k_is)
    (case l_Kind___eq__ => k_is)
    (case c_Kind___eq__ => k_is)
    (case k_Kind___eq__ => k_is)
    (case l_Kind___repr__ => k_is)
    (case c_Kind___repr__ => k_is)
    (case k_Kind___repr__ => k_is)
    (case l_AnyWord_fits => k_is)
    (case c_AnyWord_fits => k_is)
    (case k_AnyWord_fits => k_is)
    (case w0_AnyWord_fits => k_is)
    (case l_AnyWord_hint => k_is)
    (case c_AnyWord_hint => k_is)
    (case k_AnyWord_hint => k_is)
    (case l_AnyWord_text => k_is)
    (case c_AnyWord_text => k_is)
    (case k_AnyWord_text => k_is)
    (case l_OneOf___init__ => k_is)
    (case c_OneOf___init__ => k_is)
    (case k_OneOf___init__ => k_is)
    (case l_OneOf_fits => k_is)
    (case c_OneOf_fits => k_is)
    (case k_OneOf_fits => k_is)
    (case w0_OneOf_fits => k_is)
    (case l_OneOf_words => k_is)
    (case c_OneOf_words => k_is)
    (case k_OneOf_words => k_is)
    (case l_OneOf_text => k_is)
    (case c_OneOf_text => k_is)
    (case k_OneOf_text => k_is)
    (case l_Number___init__ => k_is)
    (case c_Number___init__ => k_is)
    (case k_Number___init__ => k_is)
    (case l_Number_fits => k_is)
    (case c_Number_fits => k_is)
    (case k_Number_fits => k_is)
    (case w0_Number_fits => k_is)
    (case l_Number_hint => k_is)
    (case c_Number_hint => k_is)
    (case k_Number_hint => k_is)
    (case l_Number_text => k_is)
    (case c_Number_text => k_is)
    (case k_Number_text => k_is)
    (case he_Option => k_is)
    (case hq_Option => k_is)
    (case hx_Option_name => k_is)
    (case hx_Option_kind => k_is)
    (case hx_Option_most => k_is)
    (case he_Place => k_is)
    (case hq_Place => k_is)
    (case hx_Place_kind => k_is)
    (case hx_Place_least => k_is)
    (case hx_Place_most => k_is)
    (case h0_Kind => k_is)
    (case he_Kind => k_is)
    (case hq_Kind => k_is)
    (case h0_AnyWord => k_is)
    (case he_AnyWord => k_is)
    (case hq_AnyWord => k_is)
    (case he_OneOf => k_is)
    (case hq_OneOf => k_is)
    (case hx_OneOf_own_words => k_is)
    (case he_Number => k_is)
    (case hq_Number => k_is)
    (case hx_Number_low => k_is)
    (case hx_Number_high => k_is)
    (case hr_Number_MOST => k_is)
    (case hg_Number_MOST => k_is)
    (case hv_Number_MOST => k_is)
    (case ic_Option => k_is)
    (case it_Option => k_is)
    (case is_Option => k_is)
    (case ib_NoneType_Option => k_is)
    (case ib_bool_Option => k_is)
    (case ib_int_Option => k_is)
    (case ib_str_Option => k_is)
    (case ib_list_Option => k_is)
    (case ib_tuple_Option => k_is)
    (case ib_dict_Option => k_is)
    (case io_Option_Option => k_is)
    (case io_Place_Option => k_is)
    (case io_Kind_Option => k_is)
    (case io_AnyWord_Option => k_is)
    (case io_OneOf_Option => k_is)
    (case io_Number_Option => k_is)
    (case ic_Place => k_is)
    (case it_Place => k_is)
    (case is_Place => k_is)
    (case ib_NoneType_Place => k_is)
    (case ib_bool_Place => k_is)
    (case ib_int_Place => k_is)
    (case ib_str_Place => k_is)
    (case ib_list_Place => k_is)
    (case ib_tuple_Place => k_is)
    (case ib_dict_Place => k_is)
    (case io_Option_Place => k_is)
    (case io_Place_Place => k_is)
    (case io_Kind_Place => k_is)
    (case io_AnyWord_Place => k_is)
    (case io_OneOf_Place => k_is)
    (case io_Number_Place => k_is)
    (case ic_Kind => k_is)
    (case it_Kind => k_is)
    (case is_Kind => k_is)
    (case ib_NoneType_Kind => k_is)
    (case ib_bool_Kind => k_is)
    (case ib_int_Kind => k_is)
    (case ib_str_Kind => k_is)
    (case ib_list_Kind => k_is)
    (case ib_tuple_Kind => k_is)
    (case ib_dict_Kind => k_is)
    (case io_Option_Kind => k_is)
    (case io_Place_Kind => k_is)
    (case io_Kind_Kind => k_is)
    (case io_AnyWord_Kind => k_is)
    (case io_OneOf_Kind => k_is)
    (case io_Number_Kind => k_is)
    (case nb_Option_NoneType => k_is)
    (case nb_Option_bool => k_is)
    (case nb_Option_int => k_is)
    (case nb_Option_str => k_is)
    (case nb_Option_list => k_is)
    (case nb_Option_tuple => k_is)
    (case nb_Option_dict => k_is)
    (case no_Option_Option => k_is)
    (case no_Option_Place => k_is)
    (case no_Option_AnyWord => k_is)
    (case no_Option_OneOf => k_is)
    (case no_Option_Number => k_is)
    (case nb_Place_NoneType => k_is)
    (case nb_Place_bool => k_is)
    (case nb_Place_int => k_is)
    (case nb_Place_str => k_is)
    (case nb_Place_list => k_is)
    (case nb_Place_tuple => k_is)
    (case nb_Place_dict => k_is)
    (case no_Place_Option => k_is)
    (case no_Place_Place => k_is)
    (case no_Place_AnyWord => k_is)
    (case no_Place_OneOf => k_is)
    (case no_Place_Number => k_is)
    (case nb_Kind_NoneType => k_is)
    (case nb_Kind_bool => k_is)
    (case nb_Kind_int => k_is)
    (case nb_Kind_str => k_is)
    (case nb_Kind_list => k_is)
    (case nb_Kind_tuple => k_is)
    (case nb_Kind_dict => k_is)
    (case no_Kind_Kind => k_is)
    (case nb_AnyWord_NoneType => k_is)
    (case nb_AnyWord_bool => k_is)
    (case nb_AnyWord_int => k_is)
    (case nb_AnyWord_str => k_is)
    (case nb_AnyWord_list => k_is)
    (case nb_AnyWord_tuple => k_is)
    (case nb_AnyWord_dict => k_is)
    (case no_AnyWord_Option => k_is)
    (case no_AnyWord_Place => k_is)
    (case no_AnyWord_Kind => k_is)
    (case no_AnyWord_AnyWord => k_is)
    (case no_AnyWord_OneOf => k_is)
    (case no_AnyWord_Number => k_is)
    (case nb_OneOf_NoneType => k_is)
    (case nb_OneOf_bool => k_is)
    (case nb_OneOf_int => k_is)
    (case nb_OneOf_str => k_is)
    (case nb_OneOf_list => k_is)
    (case nb_OneOf_tuple => k_is)
    (case nb_OneOf_dict => k_is)
    (case no_OneOf_Option => k_is)
    (case no_OneOf_Place => k_is)
    (case no_OneOf_Kind => k_is)
    (case no_OneOf_AnyWord => k_is)
    (case no_OneOf_OneOf => k_is)
    (case no_OneOf_Number => k_is)
    (case nb_Number_NoneType => k_is)
    (case nb_Number_bool => k_is)
    (case nb_Number_int => k_is)
    (case nb_Number_str => k_is)
    (case nb_Number_list => k_is)
    (case nb_Number_tuple => k_is)
    (case nb_Number_dict => k_is)
    (case no_Number_Option => k_is)
    (case no_Number_Place => k_is)
    (case no_Number_Kind => k_is)
    (case no_Number_AnyWord => k_is)
    (case no_Number_OneOf => k_is)
    (case no_Number_Number => k_is)
    (case hn__wall => k_is)
    (case l__wall => k_is)
    (case c__wall => k_is)
    (case k__wall => k_is)
    (case hn_is_number => k_is)
    (case l_is_number => k_is)
    (case c_is_number => k_is)
    (case k_is_number => k_is)
    (case hn_is_between => k_is)
    (case l_is_between => k_is)
    (case c_is_between => k_is)
    (case k_is_between => k_is)
    (case hn_is_word => k_is)
    (case l_is_word => k_is)
    (case c_is_word => k_is)
    (case k_is_word => k_is)
    (case hn_is_plain => k_is)
    (case l_is_plain => k_is)
    (case c_is_plain => k_is)
    (case k_is_plain => k_is)
    (case hn_is_number_word => k_is)
    (case l_is_number_word => k_is)
    (case c_is_number_word => k_is)
    (case k_is_number_word => k_is)
    (case hn_is_option_name => k_is)
    (case l_is_option_name => k_is)
    (case c_is_option_name => k_is)
    (case k_is_option_name => k_is)
    (case hn_is_name => k_is)
    (case l_is_name => k_is)
    (case c_is_name => k_is)
    (case k_is_name => k_is)
    (case hn__law_feed => k_is)
    (case l__law_feed => k_is)
    (case c__law_feed => k_is)
    (case k__law_feed => k_is)
    (case hn__law_take => k_is)
    (case l__law_take => k_is)
    (case c__law_take => k_is)
    (case k__law_take => k_is)
    (case hn__law_of => k_is)
    (case l__law_of => k_is)
    (case c__law_of => k_is)
    (case k__law_of => k_is)
    (case hn__law_mixed => k_is)
    (case l__law_mixed => k_is)
    (case c__law_mixed => k_is)
    (case k__law_mixed => k_is)
    (case hn__law_same => k_is)
    (case l__law_same => k_is)
    (case c__law_same => k_is)
    (case k__law_same => k_is)
    (case hn__law_plain_words => k_is)
    (case l__law_plain_words => k_is)
    (case c__law_plain_words => k_is)
    (case k__law_plain_words => k_is)
    (case hn__law_dashes => k_is)
    (case l__law_dashes => k_is)
    (case c__law_dashes => k_is)
    (case k__law_dashes => k_is)
    (case hn__law_kind => k_is)
    (case l__law_kind => k_is)
    (case c__law_kind => k_is)
    (case k__law_kind => k_is)
    (case hn__law_opts => k_is)
    (case l__law_opts => k_is)
    (case c__law_opts => k_is)
    (case k__law_opts => k_is)
    (case hn__law_items => k_is)
    (case l__law_items => k_is)
    (case c__law_items => k_is)
    (case k__law_items => k_is)
    (case hn__law_slots => k_is)
    (case l__law_slots => k_is)
    (case c__law_slots => k_is)
    (case k__law_slots => k_is)
    (case hn__law_ready_kind => k_is)
    (case l__law_ready_kind => k_is)
    (case c__law_ready_kind => k_is)
    (case k__law_ready_kind => k_is)
    (case hn__law_ready_option => k_is)
    (case l__law_ready_option => k_is)
    (case c__law_ready_option => k_is)
    (case k__law_ready_option => k_is)
    (case hn__law_ready_place => k_is)
    (case l__law_ready_place => k_is)
    (case c__law_ready_place => k_is)
    (case k__law_ready_place => k_is)
    (case hn_law => k_is)
    (case l_law => k_is)
    (case c_law => k_is)
    (case k_law => k_is)
    (case z0 => k_is)
    (case z1 => k_is)
    (case z2 => k_is)
    (case z3 => k_is)
    (case z4 => k_is)
    (case z5 => k_is)
    (case z6 => k_is)
    (case z7 => k_is)
    (case z8 => k_is)
    (case z9 => k_is)
    (case z10 => k_is)
    (case z11 => k_is)
    (case z12 => k_is)
    (case z13 => k_is)
    (case z14 => k_is)
    (case z15 => k_is)
    (case z16 => k_is)
    (case z17 => k_is)
    (case z18 => k_is)
    (case z19 => k_is)
    (case cst0 => k_is)
    (case cst1 => k_is)
    (case cst2 => k_is)
    (case cst3 => k_is)
    (case cst4 => k_is)
    (case cst5 => k_is)
    (case cst6 => k_is)
#print axioms PySem.Challenge.cw_tabsure_k05_options_and_places_holds
