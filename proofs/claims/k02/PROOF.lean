import PyProof.Rows.All
import Wide.All
import OpenK.AllK
import Wide.FinOn
import HandS.ForMost
import HandS.IsInst
import HandS.Defaults
import HandS.Codes
import HandS.Flow
import HandS.Evl
import PySem.Challenge.RW_tabsure_k02_words_and_names
set_option Elab.async false
set_option linter.all false
set_option maxRecDepth 100000
set_option maxHeartbeats 4000000
namespace L2
open PySem PySem.Spec PyProof.Rows
/-! ### calls of a def by its name -/
structure Cl (P : Program) (w : World) (K : PySem.W.Frag) (mg : Str → Option Value) (base : Heap) (CX : CXT) (k : Nat) (x : Str) (sp : Sp) (dvs : List V) : Prop where
  ex : ∃ (f : Addr) (fd : FuncData) (ps : List Str) (ds : List Value), FnOk P w K mg base CX k f fd ps sp ∧ mg x = some (.ref f) ∧ PySem.W.keepIn K (.ref f) = true ∧ Binds K fd ps ds ∧ Vals dvs ds
section
variable {X : Cx} {k j : Nat} {x : Str} {p pos : Pos} {t : TA} {sp : Sp} {dvs : List V} {e : Expr} {es : List Expr}
theorem pe_c (c : Cl X.prog X.w X.K X.mg X.base CX0 k x sp dvs) (hr : Room j X.A) (hk : k ≤ j) (hg : Gl X x) (ha : PA X (e :: es) t)
    (hdb : (x == ("__debug__" : Str)) = false := by decide) (he : starEach (e :: es) X.env = (false, eval e X.env) :: starEach es X.env := by rfl) (hpl : (backTo pos (starEach es X.env)).any (·.1) = false := by rfl) :
    PE X (.Call (.Name x p) (e :: es) [] pos) (tCall sp dvs E0 t) := by
  obtain ⟨f, fd, ps, ds, F, hm, kp, b, d⟩ := c.ex
  exact pe_call F (hr.mono hk) hg hm kp b d pass0 ha hdb he hpl
end
/-! ### calls with keywords alone -/
structure CalN (P : Program) (w : World) (K : PySem.W.Frag) (mg : Str → Option Value) (base : Heap) (k : Nat) (x : Str) (n : Nat) (ks : List Str) (gV : List V → List V → List V) (sp : Sp) : Prop where
  ex : ∃ (f : Addr) (fd : FuncData) (ps : List Str) (g : List Value → List Value → List Value), FnOk P w K mg base CX0 k f fd ps sp ∧ mg x = some (.ref f) ∧ PySem.W.keepIn K (.ref f) = true ∧ KBn K fd ps n ks g gV
section
variable {X : Cx} {k j n : Nat} {x : Str} {p pos : Pos} {kws : List Keyword} {tk t : TA} {ks : List Str} {gV : List V → List V → List V} {sp : Sp} {e : Expr} {es : List Expr}
theorem pe_ck0 (c : CalN X.prog X.w X.K X.mg X.base k x 0 ks gV sp) (hr : Room j X.A) (hk : k ≤ j) (hg : Gl X x) (hkw : PK X kws tk)
    (hall : (backToKw pos (keywordEach kws X.env)).all (·.1.isSome) = true := by rfl) (hks : (backToKw pos (keywordEach kws X.env)).filterMap (·.1) = ks := by rfl) (hdb : (x == ("__debug__" : Str)) = false := by decide)
    (hpl : ((backTo pos (starEach [] X.env)).any (·.1) || (backToKw pos (keywordEach kws X.env)).any (·.1.isNone)) = false := by rfl) :
    PE X (.Call (.Name x p) [] kws pos) (tCallN 0 ks.length sp gV E0 tNil tk) := by
  obtain ⟨f, fd, ps, g, F, hm, kp, hb⟩ := c.ex
  refine ⟨fun pins s σ H Q I h => ?_⟩
  refine wpAny_Call_Name_kw (ld_glob I hg hm ?_ hdb)
  refine PySem.W.callWith_KW0 (h₀ := X.base) I.ok.mod.kin kp hall ?_ hpl
  refine thn (hkw.run pos pins s σ H _ I h) fun ws s2 ⟨zs, H2, I2, rz, l1, l2, q2⟩ => ⟨I2.kIn, ?_⟩
  rw [hks]
  exact run_fnN (us := []) (vs := []) F (hr.mono hk) hb pass0 I2 .nil rz l1 l2 q2
theorem pe_ck (c : CalN X.prog X.w X.K X.mg X.base k x n ks gV sp) (hr : Room j X.A) (hk : k ≤ j) (hg : Gl X x) (ha : PA X (e :: es) t) (hkw : PK X kws tk)
    (hall : (backToKw pos (keywordEach kws X.env)).all (·.1.isSome) = true := by rfl) (hks : (backToKw pos (keywordEach kws X.env)).filterMap (·.1) = ks := by rfl)
    (hdb : (x == ("__debug__" : Str)) = false := by decide) (he : starEach (e :: es) X.env = (false, eval e X.env) :: starEach es X.env := by rfl)
    (hpl : ((backTo pos (starEach (e :: es) X.env)).any (·.1) || (backToKw pos (keywordEach kws X.env)).any (·.1.isNone)) = false := by rfl) :
    PE X (.Call (.Name x p) (e :: es) kws pos) (tCallN n ks.length sp gV E0 t tk) := by
  obtain ⟨f, fd, ps, g, F, hm, kp, hb⟩ := c.ex
  exact pe_callN F (hr.mono hk) hg hm kp hb pass0 ha hkw hall hks hdb he hpl
end
/-! ### a def of the text -/
structure Df (K : PySem.W.Frag) (mg : Str → Option Value) (x : Str) (st : Stmt) : Prop where
  ex : ∃ (f : Addr) (fd : FuncData), Fun K x x st f fd ∧ mg x = some (.ref f)
theorem df_mk {K : PySem.W.Frag} {h : Heap} {mg : Str → Option Value} {x : Str} {st : Stmt} {f : Addr} {oc : Value} {od an : Option Addr} {osl : Array (Option Value)} {kV doc pm cdv ct : Value} (X : K.In h) (G : h.Ns mainGlobals mg)
    (a : PySem.W.nsIn K mainGlobals x = some (some (.ref f)))
    (l : K.lookup f = some ⟨oc, od, .func (PySem.W.fnOf x x (defArgs st) (defBody st) (defScope st) .none kV doc pm an cdv ct), osl⟩)
    (c : PySem.W.codeIn K cdv x = true) (k : PySem.W.keepIn K (.ref f) = true) : Df K mg x st := ⟨f, _, fun_mk l c k, PySem.W.mg_of X G a⟩
section
variable {P : Program} {w : World} {K : PySem.W.Frag} {mg : Str → Option Value} {base : Heap}
theorem cal_mk {x : Str} {st : Stmt} {N ps : List Str} {k : Nat} {sp : Sp} (D : Df K mg x st) (S : FnScope N ps (defScope st))
    (hb : ∀ (kV doc pm : Value) (an : Option Addr) (cdv ct : Value) (us : List Value), us.length = ps.length → bindArgs (PySem.W.fnOf x x (defArgs st) (defBody st) (defScope st) .none kV doc pm an cdv ct) ⟨us, []⟩ = pure (ps.zip us))
    (len : ∀ vs H Q E, sp vs H Q E → vs.length = ps.length)
    (hbody : ∀ (f : Addr) (cdv : Value) (A : Around) (outer : List Env) (s : Shared) (H : Hp) (vs : List V) (Q : VK) (E : XK), Room k (A.deeper (envOfC x (defScope st) s.heap.objs.size f cdv)) → sp vs H Q E →
      ∃ t, PSs (cxOf CX0 P w K mg base N x (defScope st) f cdv A outer s H E).nox (defBody st) t ∧ t { nx := fun _ H' => Q .non H', rt := Q } (start N vs) H) : Cl P w K mg base CX0 (k + 1) x sp [] := by
  obtain ⟨f, fd, F, hm⟩ := D.ex
  exact ⟨f, fd, ps, [], F.ok S len (hbody f), hm, F.kp, F.binds hb, .nil⟩
end
/-! ### heaps off some addresses -/
def off (H : Hp) (S : List Addr) : Hp := fun b => if b ∈ S then none else H b
theorem off_same (H : Hp) (S : List Addr) : Same (off H S) H := fun b o h => by
  unfold off at h
  split at h
  · cases h
  · exact h
theorem off_ne {H : Hp} {S : List Addr} {b : Addr} (h : b ∉ S) : off H S b = H b := by unfold off; rw [if_neg h]
theorem off_in {H : Hp} {S : List Addr} {b : Addr} (h : b ∈ S) : off H S b = none := by unfold off; rw [if_pos h]
/-- off more addresses: less -/
theorem off_sub {H : Hp} {S T : List Addr} (h : ∀ b ∈ S, b ∈ T) : Same (off H T) (off H S) := fun b o e => by
  by_cases hb : b ∈ T
  · rw [off_in hb] at e; cases e
  · rw [off_ne hb] at e; rw [off_ne fun q => hb (h b q)]; exact e
theorem Same.offT {H H' : Hp} (S : List Addr) (s : Same H H') : Same (off H S) (off H' S) := fun b o h => by
  by_cases e : b ∈ S
  · rw [off_in e] at h; cases h
  · rw [off_ne e] at h ⊢; exact s b o h
/-- the addresses of S are taken -/
def Tk (H : Hp) (S : List Addr) : Prop := ∀ b ∈ S, H b ≠ none
theorem Tk.nil {H : Hp} : Tk H [] := fun b h => by cases h
theorem Tk.cons {H : Hp} {a : Addr} {S : List Addr} (h : H a ≠ none) (t : Tk H S) : Tk H (a :: S) := fun b hb => by
  rcases List.mem_cons.mp hb with rfl | hb
  · exact h
  · exact t b hb
theorem Tk.notIn {H : Hp} {a : Addr} {S : List Addr} (t : Tk H S) (h : H a = none) : a ∉ S := fun q => t a q h
theorem Tk.same {H H' : Hp} {S : List Addr} (t : Tk H S) (e : Same H H') : Tk H' S := fun b hb => by
  cases q : H b with
  | none => exact absurd q (t b hb)
  | some o => rw [e b o q]; intro z; cases z
theorem off_nil {H : Hp} : off H [] = H := by
  funext b; exact off_ne (by simp)
/-- H off S stays when something of S is written anew -/
theorem off_upd {H : Hp} {S : List Addr} {p : Addr} {o : HO} (h : p ∈ S) : off (upd H p o) S = off H S := by
  funext b
  by_cases e : b ∈ S
  · rw [off_in e, off_in e]
  · rw [off_ne e, off_ne e, upd_ne fun q => e (by rw [q]; exact h)]
theorem SqL.offT {K : PySem.W.Frag} {H : Hp} {S : List Addr} {a : Addr} {xs : List V} (h : H a = some (.lst xs)) (n : a ∉ S) : SqL K (off H S) a xs := SqL.of (by rw [off_ne n]; exact h)
theorem SqT.offT {K : PySem.W.Frag} {H : Hp} {S : List Addr} {a : Addr} {xs : List V} (h : H a = some (.tup xs)) (n : a ∉ S) : SqT K (off H S) a xs := SqT.of (by rw [off_ne n]; exact h)
theorem Same.newT {H : Hp} {p : Addr} {o : HO} (h : H p = none) : Same H (upd H p o) := fun b u e => by
  rw [upd_ne (ne_of_none e h)]; exact e
theorem Same.mutT {H H' : Hp} {p : Addr} {o : HO} (e : Same H H') (h : H p = none) : Same H (upd H' p o) := fun a u ha => by
  rw [upd_ne (ne_of_none ha h)]; exact e a u ha
theorem Same.trans_new {H H' : Hp} {p : Addr} {o : HO} (s : Same H H') (h : H' p = none) : Same H (upd H' p o) := s.trans (Same.newT h)
theorem Same.seqTT {K : PySem.W.Frag} {H H' : Hp} {a : Addr} {xs : List V} (e : Same H H') (h : SqT K H a xs) : SqT K H' a xs := by
  rcases h with (h | ⟨o, h⟩) | h
  · exact .inl (.inl (e _ _ h))
  · exact .inl (.inr ⟨o, e _ _ h⟩)
  · exact .inr h
/-! ### data -/
mutual
theorem Dp.monoT {K : PySem.W.Frag} {H H' : Hp} (e : Same H H') : ∀ (d : PyData) {v : V}, Dp K H v d → Dp K H' v d
  | .none, _, h => by cases h; exact .non
  | .bool b, _, h => by cases h; exact .bl b
  | .int i, _, h => by cases h; exact .int i
  | .str x, _, h => by cases h; exact .str x
  | .list ds, _, h => by
    cases h with
    | lst hs ha => exact .lst (Same.seq e hs) (DpAll.monoT e ds ha)
  | .tuple ds, _, h => by
    cases h with
    | tup hs ha => exact .tup (Same.seqTT e hs) (DpAll.monoT e ds ha)
  | .dict _, _, h => by cases h
theorem DpAll.monoT {K : PySem.W.Frag} {H H' : Hp} (e : Same H H') : ∀ (ds : List PyData) {vs : List V}, DpAll K H vs ds → DpAll K H' vs ds
  | [], _, h => by cases h; exact .nil
  | d :: ds, _, h => by
    cases h with
    | cons h1 h2 => exact .cons (Dp.monoT e d h1) (DpAll.monoT e ds h2)
end
theorem DpAll.lengthT {K : PySem.W.Frag} {H : Hp} : ∀ {vs : List V} {ds : List PyData}, DpAll K H vs ds → vs.length = ds.length
  | _, _, .nil => rfl
  | _, _, .cons _ t => congrArg Nat.succ (DpAll.lengthT t)
theorem DpAll.getT {K : PySem.W.Frag} {H : Hp} : ∀ {vs : List V} {ds : List PyData} {i : Nat} {v : V}, DpAll K H vs ds → vs[i]? = some v → ∃ d, ds[i]? = some d ∧ Dp K H v d
  | _, _, _, _, .nil, e => by simp at e
  | _, _, 0, _, .cons h _, e => by simp at e; subst e; exact ⟨_, rfl, h⟩
  | _, _, i + 1, _, .cons _ t, e => by
    obtain ⟨d, h1, h2⟩ := DpAll.getT (i := i) t (by simpa using e)
    exact ⟨d, by simpa using h1, h2⟩
theorem DpAll.getDT {K : PySem.W.Frag} {H : Hp} : ∀ {vs : List V} {ds : List PyData} {i : Nat} {d : PyData}, DpAll K H vs ds → ds[i]? = some d → ∃ v, vs[i]? = some v ∧ Dp K H v d
  | _, _, _, _, .nil, e => by simp at e
  | _, _, 0, _, .cons h _, e => by simp at e; subst e; exact ⟨_, rfl, h⟩
  | _, _, i + 1, _, .cons _ t, e => by
    obtain ⟨v, h1, h2⟩ := DpAll.getDT (i := i) t (by simpa using e)
    exact ⟨v, by simpa using h1, h2⟩
theorem DpAll.memT {K : PySem.W.Frag} {H : Hp} {vs : List V} {ds : List PyData} {v : V} (h : DpAll K H vs ds) (hv : v ∈ vs) : ∃ d ∈ ds, Dp K H v d := by
  obtain ⟨i, hi⟩ := List.mem_iff_getElem?.mp hv
  obtain ⟨d, h1, h2⟩ := h.getT hi
  exact ⟨d, List.mem_of_getElem? h1, h2⟩
theorem DpAll.appendT {K : PySem.W.Frag} {H : Hp} : ∀ {vs us : List V} {ds es : List PyData}, DpAll K H vs ds → DpAll K H us es → DpAll K H (vs ++ us) (ds ++ es)
  | _, _, _, _, .nil, s => s
  | _, _, _, _, .cons h t, s => .cons h (DpAll.appendT t s)
theorem DpAll.strsT {K : PySem.W.Frag} {H : Hp} : ∀ (xs : List Str), DpAll K H (xs.map V.str) (xs.map PyData.str)
  | [] => .nil
  | x :: xs => .cons (.str x) (DpAll.strsT xs)
/-- a value's type's name -/
def tyN : PyData → String
  | .none => "NoneType" | .bool _ => "bool" | .int _ => "int" | .str _ => "str" | .list _ => "list" | .tuple _ => "tuple" | .dict _ => "dict"
theorem Dp.tyT {K : PySem.W.Frag} {H : Hp} {v : V} {d : PyData} (h : Dp K H v d) : TyX K H v (.type (tyN d)) := by
  cases h with
  | non => exact .base .non
  | bl b => exact .base (.bl b)
  | int i => exact .base (.int i)
  | str x => exact .base (.str x)
  | lst hs _ =>
    rcases hs with (h | ⟨o, h⟩) | ⟨o, its, n, h, hc, _⟩
    · exact .base (.lst h)
    · exact .base (.frz h)
    · exact .kList h hc
  | tup hs _ =>
    rcases hs with (h | ⟨o, h⟩) | ⟨o, its, n, h, hc, _⟩
    · exact .base (.tup h)
    · exact .fTuple h
    · exact .kTuple h hc
def isStr : PyData → Bool | .str _ => true | _ => false
def isInt : PyData → Bool | .int _ => true | .bool _ => true | _ => false
def isBool : PyData → Bool | .bool _ => true | _ => false
def isLst : PyData → Bool | .list _ => true | _ => false
def isTup : PyData → Bool | .tuple _ => true | _ => false
def isNon : PyData → Bool | .none => true | _ => false
theorem kit_str : ∀ d : PyData, kitB (tyN d) "str" = some (isStr d)
  | .none => (by decide +kernel : kitB "NoneType" "str" = some false)
  | .bool _ => (by decide +kernel : kitB "bool" "str" = some false)
  | .int _ => (by decide +kernel : kitB "int" "str" = some false)
  | .str _ => (by decide +kernel : kitB "str" "str" = some true)
  | .list _ => (by decide +kernel : kitB "list" "str" = some false)
  | .tuple _ => (by decide +kernel : kitB "tuple" "str" = some false)
  | .dict _ => (by decide +kernel : kitB "dict" "str" = some false)
theorem kit_int : ∀ d : PyData, kitB (tyN d) "int" = some (isInt d)
  | .none => (by decide +kernel : kitB "NoneType" "int" = some false)
  | .bool _ => (by decide +kernel : kitB "bool" "int" = some true)
  | .int _ => (by decide +kernel : kitB "int" "int" = some true)
  | .str _ => (by decide +kernel : kitB "str" "int" = some false)
  | .list _ => (by decide +kernel : kitB "list" "int" = some false)
  | .tuple _ => (by decide +kernel : kitB "tuple" "int" = some false)
  | .dict _ => (by decide +kernel : kitB "dict" "int" = some false)
theorem kit_bool : ∀ d : PyData, kitB (tyN d) "bool" = some (isBool d)
  | .none => (by decide +kernel : kitB "NoneType" "bool" = some false)
  | .bool _ => (by decide +kernel : kitB "bool" "bool" = some true)
  | .int _ => (by decide +kernel : kitB "int" "bool" = some false)
  | .str _ => (by decide +kernel : kitB "str" "bool" = some false)
  | .list _ => (by decide +kernel : kitB "list" "bool" = some false)
  | .tuple _ => (by decide +kernel : kitB "tuple" "bool" = some false)
  | .dict _ => (by decide +kernel : kitB "dict" "bool" = some false)
theorem kit_list : ∀ d : PyData, kitB (tyN d) "list" = some (isLst d)
  | .none => (by decide +kernel : kitB "NoneType" "list" = some false)
  | .bool _ => (by decide +kernel : kitB "bool" "list" = some false)
  | .int _ => (by decide +kernel : kitB "int" "list" = some false)
  | .str _ => (by decide +kernel : kitB "str" "list" = some false)
  | .list _ => (by decide +kernel : kitB "list" "list" = some true)
  | .tuple _ => (by decide +kernel : kitB "tuple" "list" = some false)
  | .dict _ => (by decide +kernel : kitB "dict" "list" = some false)
theorem kit_tuple : ∀ d : PyData, kitB (tyN d) "tuple" = some (isTup d)
  | .none => (by decide +kernel : kitB "NoneType" "tuple" = some false)
  | .bool _ => (by decide +kernel : kitB "bool" "tuple" = some false)
  | .int _ => (by decide +kernel : kitB "int" "tuple" = some false)
  | .str _ => (by decide +kernel : kitB "str" "tuple" = some false)
  | .list _ => (by decide +kernel : kitB "list" "tuple" = some false)
  | .tuple _ => (by decide +kernel : kitB "tuple" "tuple" = some true)
  | .dict _ => (by decide +kernel : kitB "dict" "tuple" = some false)
section
variable {K : PySem.W.Frag} {H : Hp} {v : V} {d : PyData} {Q : VK}
theorem isi_data {t : String} {b : Bool} (h : Dp K H v d) (e : kitB (tyN d) t = some b) (q : Q (.bl b) H) : rIsi K [v, .ty t] H Q :=
  ⟨v, .ty t, _, _, _, rfl, .ty t, h.tyT, kit_ty e, q⟩
theorem isi_str (h : Dp K H v d) (q : Q (.bl (isStr d)) H) : rIsi K [v, .ty "str"] H Q := isi_data h (kit_str d) q
theorem isi_int (h : Dp K H v d) (q : Q (.bl (isInt d)) H) : rIsi K [v, .ty "int"] H Q := isi_data h (kit_int d) q
theorem isi_bool (h : Dp K H v d) (q : Q (.bl (isBool d)) H) : rIsi K [v, .ty "bool"] H Q := isi_data h (kit_bool d) q
theorem isi_list (h : Dp K H v d) (q : Q (.bl (isLst d)) H) : rIsi K [v, .ty "list"] H Q := isi_data h (kit_list d) q
theorem isi_tuple (h : Dp K H v d) (q : Q (.bl (isTup d)) H) : rIsi K [v, .ty "tuple"] H Q := isi_data h (kit_tuple d) q
theorem clsLT : Paired ClsV [.ty "list", .ty "tuple"] [.type "list", .type "tuple"] := .cons (.ty _) (.cons (.ty _) .nil)
theorem kit_lt {K : PySem.W.Frag} (d : PyData) : PySem.W.kitAny K (.type (tyN d)) [.type "list", .type "tuple"] = some (isLst d || isTup d) := by
  refine kitAny_cons (kit_ty (kit_list d)) (fun e => ?_) (fun e => by rw [e]; rfl)
  rw [e]
  refine kitAny_cons (kit_ty (kit_tuple d)) (fun e2 => ?_) (fun e2 => by rw [e2]; rfl)
  rw [e2]; exact kitAny_nil
theorem Dp.isNonT (h : Dp K H v d) : decide (v = .non) = isNon d := by
  cases h <;> simp [isNon]
end
/-! ### a text's signs in a comprehension -/
theorem lc_str {z : Str} {g : TG} {tt : TT} {te : TE} {vs : List Nat} {σ : St} {H1 : Hp} {D : Addr} {Qd : Hp → Prop} (Pv : Nat → Hp → Prop) (h0 : Pv 0 (upd H1 D (.lst [])))
    (hs : ∀ i c H, z.cps.toList[i]? = some c → Pv i H → g (.str ⟨#[c]⟩) (wipe σ vs) H fun σ2 H2 => wipe σ2 vs = wipe σ vs ∧ tt σ2 H2 fun b H3 =>
      if b = true then te σ2 H3 fun y H4 => ∃ acc, H4 D = some (.lst acc) ∧ acc.length < sizeLine ∧ Pv (i + 1) (upd H4 D (.lst (acc ++ [y]))) else Pv (i + 1) H3) (hd : ∀ H, Pv z.cps.toList.length H → Qd H) :
    ∃ W : Nat → Nat → Hp → Prop, (∃ m, W 0 m (upd H1 D (.lst []))) ∧ ∀ i m H, W i m H →
      ((Its z).stop i H ∧ Qd H) ∨ ((Its z).go i H ∧ ∃ Nx : Hp → Prop, (∀ H', Nx H' → ∃ m', m' < m ∧ W (i + 1) m' H') ∧ ∀ x H', (Its z).yld i H x H' → g x (wipe σ vs) H' fun σ2 H2 => wipe σ2 vs = wipe σ vs ∧ tt σ2 H2 fun b H3 =>
        if b = true then te σ2 H3 fun y H4 => ∃ acc, H4 D = some (.lst acc) ∧ acc.length < sizeLine ∧ Nx (upd H4 D (.lst (acc ++ [y]))) else Nx H3) := by
  have hl : z.cps.toList.length = z.cps.size := by simp
  refine ⟨fun i m H => m = z.cps.size - i ∧ i ≤ z.cps.size ∧ Pv i H, ⟨z.cps.size, by simp, Nat.zero_le _, h0⟩, ?_⟩
  rintro i m H ⟨rfl, hi, p⟩
  by_cases hlt : i < z.cps.size
  · refine .inr ⟨hlt, Pv (i + 1), fun H' p' => ⟨z.cps.size - (i + 1), by omega, rfl, hlt, p'⟩, fun x H' y => ?_⟩
    obtain ⟨e, c, hc, rfl⟩ := y
    subst e
    exact hs i c _ (by simpa using hc) p
  · have e : i = z.cps.size := by omega
    subst e
    exact .inl ⟨Nat.le_refl _, hd H (by rw [hl]; exact p)⟩
/-- a comprehension over a text whose element is a value f c; what is made on the way stays -/
theorem lc_strV {z : Str} {g : TG} {tt : TT} {te : TE} {vs : List Nat} {σ : St} {H1 : Hp} {D : Addr} {Qd : Hp → Prop} (f : Nat → V) (hD : H1 D = none) (hz : z.length ≤ 100000)
    (hs : ∀ c H (Nx : V → Hp → Prop), c ∈ z.cps.toList → Same H1 H → (∀ H4, Same H H4 → Nx (f c) H4) → g (.str ⟨#[c]⟩) (wipe σ vs) H fun σ2 H2 => wipe σ2 vs = wipe σ vs ∧ tt σ2 H2 fun b H3 => b = true ∧ te σ2 H3 Nx)
    (hg : ∀ v σ H Q Q', (∀ σ H, Q σ H → Q' σ H) → g v σ H Q → g v σ H Q') (ht : ∀ σ H Q Q', (∀ b H, Q b H → Q' b H) → tt σ H Q → tt σ H Q')
    (hd : ∀ H, Same H1 H → H D = some (.lst (z.cps.toList.map f)) → Qd H) :
    ∃ W : Nat → Nat → Hp → Prop, (∃ m, W 0 m (upd H1 D (.lst []))) ∧ ∀ i m H, W i m H →
      ((Its z).stop i H ∧ Qd H) ∨ ((Its z).go i H ∧ ∃ Nx : Hp → Prop, (∀ H', Nx H' → ∃ m', m' < m ∧ W (i + 1) m' H') ∧ ∀ x H', (Its z).yld i H x H' → g x (wipe σ vs) H' fun σ2 H2 => wipe σ2 vs = wipe σ vs ∧ tt σ2 H2 fun b H3 =>
        if b = true then te σ2 H3 fun y H4 => ∃ acc, H4 D = some (.lst acc) ∧ acc.length < sizeLine ∧ Nx (upd H4 D (.lst (acc ++ [y]))) else Nx H3) := by
  refine lc_str (fun i H => Same H1 H ∧ H D = some (.lst ((z.cps.toList.take i).map f))) ⟨Same.newT hD, upd_same⟩ (fun i c H hc hP => ?_) (fun H hP => hd H hP.1 (by rw [hP.2, List.take_length]))
  obtain ⟨hP1, hP2⟩ := hP
  have hi := (List.getElem?_eq_some_iff.mp hc).1
  have hl : z.cps.toList.length = z.length := by simp [Str.length]
  refine hg _ _ _ _ _ ?_ (hs c H (fun y H4 => ∃ acc, H4 D = some (.lst acc) ∧ acc.length < sizeLine ∧ (Same H1 (upd H4 D (.lst (acc ++ [y]))) ∧ upd H4 D (.lst (acc ++ [y])) D = some (.lst ((z.cps.toList.take (i + 1)).map f)))) (List.mem_of_getElem? hc) hP1 fun H4 S4 => ?_)
  · rintro σ2 H2 ⟨e, h⟩
    refine ⟨e, ht _ _ _ _ ?_ h⟩
    rintro b H3 ⟨rfl, h⟩
    exact h
  · refine ⟨_, S4 _ _ hP2, ?_, Same.mutT (hP1.trans S4) hD, ?_⟩
    · rw [List.length_map, List.length_take]
      have : sizeLine = 16777216 := sizeLine_eq
      omega
    · rw [upd_same, List.take_succ, hc, List.map_append]; rfl
theorem gName_mono {i : Nat} : ∀ v σ H (Q Q' : St → Hp → Prop), (∀ σ H, Q σ H → Q' σ H) → gName i v σ H Q → gName i v σ H Q' := fun v σ H Q Q' h q => h _ _ q
theorem tYes_mono : ∀ σ H (Q Q' : Bool → Hp → Prop), (∀ b H, Q b H → Q' b H) → tYes σ H Q → tYes σ H Q' := fun σ H Q Q' h q => h _ _ q
structure Okd (P : Program) (w : World) (K : PySem.W.Frag) (mg : Str → Option Value) (base : Heap) (CX : CXT) (k : Nat) (x : Str) (st : Stmt) (ps : List Str) (sp : Sp) : Prop where
  ex : ∃ (f : Addr) (fd : FuncData), Fun K x x st f fd ∧ mg x = some (.ref f) ∧ FnOk P w K mg base CX k f fd ps sp
section
variable {P : Program} {w : World} {K : PySem.W.Frag} {mg : Str → Option Value} {base : Heap} {CX : CXT} {k : Nat} {x : Str} {st : Stmt} {ps : List Str} {sp : Sp}
theorem ok_mk {N : List Str} (D : Df K mg x st) (S : FnScope N ps (defScope st))
    (len : ∀ vs H Q E, sp vs H Q E → vs.length = ps.length)
    (hbody : ∀ (f : Addr) (cdv : Value) (A : Around) (outer : List Env) (s : Shared) (H : Hp) (vs : List V) (Q : VK) (E : XK), Room k (A.deeper (envOfC x (defScope st) s.heap.objs.size f cdv)) → sp vs H Q E →
      ∃ t, PSs (cxOf CX0 P w K mg base N x (defScope st) f cdv A outer s H E).nox (defBody st) t ∧ t { nx := fun _ H' => Q .non H', rt := Q } (start N vs) H) : Okd P w K mg base CX0 (k + 1) x st ps sp := by
  obtain ⟨f, fd, F, hm⟩ := D.ex
  exact ⟨f, fd, F, hm, F.ok S len (hbody f)⟩
theorem Okd.cl (o : Okd P w K mg base CX k x st ps sp) (hb : ∀ (kV doc pm : Value) (an : Option Addr) (cdv ct : Value) (us : List Value), us.length = ps.length → bindArgs (PySem.W.fnOf x x (defArgs st) (defBody st) (defScope st) .none kV doc pm an cdv ct) ⟨us, []⟩ = pure (ps.zip us)) :
    Cl P w K mg base CX k x sp [] := by
  obtain ⟨f, fd, F, hm, ok⟩ := o.ex
  exact ⟨f, fd, ps, [], ok, hm, F.kp, F.binds hb, .nil⟩
theorem Okd.cn (o : Okd P w K mg base CX0 k x st ps sp) (n : Nat) (ks : List Str) (g : {α : Type} → List α → List α → List α) (hr : ∀ {vs us zs ws}, Vals vs us → Vals zs ws → Vals (g vs zs) (g us ws))
    (hb : ∀ (kV doc pm : Value) (an : Option Addr) (cdv ct : Value) (us ws : List Value), us.length = n → ws.length = ks.length → bindArgs (PySem.W.fnOf x x (defArgs st) (defBody st) (defScope st) .none kV doc pm an cdv ct) ⟨us, ks.zip ws⟩ = pure (ps.zip (g us ws))) :
    CalN P w K mg base k x n ks (fun vs zs => g vs zs) sp := by
  obtain ⟨f, fd, F, hm, ok⟩ := o.ex
  obtain ⟨oc, od, kV, doc, pm, an, cdv, ct, osl, rfl, lk, hcd⟩ := F.ex
  exact ⟨f, _, ps, fun us ws => g us ws, ok, hm, F.kp, ⟨fun s us ws _ l1 l2 => .of_eq (hb kV doc pm an cdv ct us ws l1 l2), fun r1 r2 => hr r1 r2⟩⟩
end
end L2
namespace L2
open PySem PySem.Spec PyProof.Rows
/-! ### the built-ins' names are not the module's -/
structure Txt (mg : Str → Option Value) : Prop where
  b_len : mg "len" = none
  b_int : mg "int" = none
  b_str : mg "str" = none
  b_bool : mg "bool" = none
  b_list : mg "list" = none
  b_tuple : mg "tuple" = none
  b_range : mg "range" = none
  b_isinstance : mg "isinstance" = none
  b_all : mg "all" = none
  b_any : mg "any" = none
  b_sum : mg "sum" = none
  b_max : mg "max" = none
  b_min : mg "min" = none
  b_sorted : mg "sorted" = none
  b_enumerate : mg "enumerate" = none
  b_zip : mg "zip" = none
  b_dict : mg "dict" = none
  b_set : mg "set" = none
  b_repr : mg "repr" = none
  b_super : mg "super" = none
/-! ### the drawing of numbers -/
def Feed (H : Hp) (p l : Addr) : Prop := ∃ (ns : List Int) (i c s : Int), H p = some (.lst [.ref l, .int i, .int c, .int s]) ∧ H l = some (.lst (ns.map V.int)) ∧ l ≠ p ∧ 0 ≤ i ∧ 0 ≤ c ∧ 0 ≤ s ∧ s < 2147483647 ∧ ns.length < 64
/-- the feed has moved, nothing else -/
def Mv (p l : Addr) (H H' : Hp) : Prop := (∀ b o, b ≠ p → H b = some o → H' b = some o) ∧ Feed H' p l
theorem Feed.tk {p l : Addr} {H : Hp} (h : Feed H p l) : H p ≠ none := by
  obtain ⟨ns, i, c, s, h1, r⟩ := h
  rw [h1]; intro z; cases z
theorem Mv.off {p l : Addr} {H H' : Hp} {S : List Addr} (a : Mv p l H H') (h : p ∈ S) : Same (off H S) (off H' S) := fun b o e => by
  by_cases q : b ∈ S
  · rw [off_in q] at e; cases e
  · rw [off_ne q] at e ⊢; exact a.1 b o (fun z => q (by rw [z]; exact h)) e
theorem Mv.refl {p l : Addr} {H : Hp} (h : Feed H p l) : Mv p l H H := ⟨fun _ _ _ e => e, h⟩
theorem Mv.trans {p l : Addr} {H H1 H2 : Hp} (a : Mv p l H H1) (b : Mv p l H1 H2) : Mv p l H H2 := ⟨fun x o n e => b.1 x o n (a.1 x o n e), b.2⟩
theorem Feed.same {p l : Addr} {H H' : Hp} (h : Feed H p l) (e : Same H H') : Feed H' p l := by
  obtain ⟨ns, i, c, s, h1, h2, r⟩ := h
  exact ⟨ns, i, c, s, e _ _ h1, e _ _ h2, r⟩
theorem Mv.of_same {p l : Addr} {H H' : Hp} (h : Feed H p l) (e : Same H H') : Mv p l H H' := ⟨fun b o _ q => e b o q, h.same e⟩
theorem Mv.same {p l : Addr} {H H1 H2 : Hp} (a : Mv p l H H1) (e : Same H1 H2) : Mv p l H H2 := a.trans (Mv.of_same a.2 e)
theorem Mv.mut {p l D : Addr} {H H1 : Hp} {o : HO} (a : Mv p l H H1) (h : H D = none) (hp : D ≠ p) (hl : D ≠ l) : Mv p l H (upd H1 D o) := by
  refine ⟨fun b u n e => by rw [upd_ne (ne_of_none e h)]; exact a.1 b u n e, ?_⟩
  obtain ⟨ns, i, c, s, h1, h2, r⟩ := a.2
  exact ⟨ns, i, c, s, by rw [upd_ne hp.symm]; exact h1, by rw [upd_ne hl.symm]; exact h2, r⟩
theorem Feed.tkl {p l : Addr} {H : Hp} (h : Feed H p l) : H l ≠ none := by
  obtain ⟨ns, i, c, s, h1, h2, r⟩ := h
  rw [h2]; intro z; cases z
theorem Mv.new {p l q : Addr} {H H1 : Hp} {o : HO} (a : Mv p l H H1) (h : H1 q = none) : Mv p l H (upd H1 q o) := a.same (Same.newT h)
theorem Mv.tk {p l : Addr} {H H' : Hp} {S : List Addr} (a : Mv p l H H') (t : Tk H S) : Tk H' S := fun b hb => by
  by_cases e : b = p
  · subst e; exact a.2.tk
  · cases q : H b with
    | none => exact absurd q (t b hb)
    | some o => rw [a.1 b o e q]; intro z; cases z
/-- the feed's own list is written anew -/
theorem Feed.put {H : Hp} {p l : Addr} {ns : List Int} {i c s : Int} (h2 : H l = some (.lst (ns.map V.int))) (hl : l ≠ p) (h3 : 0 ≤ i) (h4 : 0 ≤ c) (h5 : 0 ≤ s) (h6 : s < 2147483647) (h7 : ns.length < 64) :
    Feed (upd H p (.lst [.ref l, .int i, .int c, .int s])) p l := ⟨ns, i, c, s, upd_same, by rw [upd_ne hl]; exact h2, hl, h3, h4, h5, h6, h7⟩
theorem Mv.put {H : Hp} {p l : Addr} {ns : List Int} {i c s : Int} (h2 : H l = some (.lst (ns.map V.int))) (hl : l ≠ p) (h3 : 0 ≤ i) (h4 : 0 ≤ c) (h5 : 0 ≤ s) (h6 : s < 2147483647) (h7 : ns.length < 64) :
    Mv p l H (upd H p (.lst [.ref l, .int i, .int c, .int s])) := ⟨fun b o n e => by rw [upd_ne n]; exact e, Feed.put h2 hl h3 h4 h5 h6 h7⟩
theorem Dp.on {K : PySem.W.Frag} {H : Hp} {S : List Addr} {v : V} {d : PyData} (h : Dp K (off H S) v d) : Dp K H v d := h.monoT (off_same H S) d
theorem DpAll.on {K : PySem.W.Frag} {H : Hp} {S : List Addr} {v : List V} {d : List PyData} (h : DpAll K (off H S) v d) : DpAll K H v d := h.monoT (off_same H S) d
theorem Dp.mv {K : PySem.W.Frag} {H H' : Hp} {p : Addr} {S : List Addr} {v : V} {d : PyData} (h : Dp K (off H S) v d) (m : Mv p l H H') (hp : p ∈ S) : Dp K (off H' S) v d := h.monoT (m.off hp) d
theorem DpAll.mv {K : PySem.W.Frag} {H H' : Hp} {p : Addr} {S : List Addr} {v : List V} {d : List PyData} (h : DpAll K (off H S) v d) (m : Mv p l H H') (hp : p ∈ S) : DpAll K (off H' S) v d := h.monoT (m.off hp) d
/-- take: a number below many -/
def spTake : Sp := fun vs H Q _ => ∃ (p l : Addr) (m : Int), vs = [.ref p, .int m] ∧ Feed H p l ∧ 0 < m ∧ m < 1000 ∧ ∀ (r : Int) (H' : Hp), 0 ≤ r → r < m → Mv p l H H' → Q (.int r) H'
/-- of: one of some -/
def spOf (K : PySem.W.Frag) : Sp := fun vs H Q _ => ∃ (p l : Addr) (v : V), vs = [.ref p, v] ∧ Feed H p l ∧
  ((∃ a xs, v = .ref a ∧ (SqL K (off H [p]) a xs ∨ SqT K (off H [p]) a xs) ∧ 0 < xs.length ∧ xs.length < 1000 ∧ ∀ x H', x ∈ xs → Mv p l H H' → Q x H') ∨
   (∃ z : Str, v = .str z ∧ 0 < z.length ∧ z.length < 1000 ∧ ∀ c H', c ∈ z.cps.toList → Mv p l H H' → Q (.str ⟨#[c]⟩) H'))
def spFeed (K : PySem.W.Frag) : Sp := fun vs H Q _ => ∃ (a : Addr) (ns : List Int), vs = [.ref a] ∧ SqL K H a (ns.map V.int) ∧ ns.length ≤ 63 ∧ ∀ p l H', Same H H' → Feed H' p l → H p = none → H l = none → Q (.ref p) H'
theorem mod_lt {a b : Int} (h : 0 < b) : 0 ≤ a.fmod b ∧ a.fmod b < b := ⟨Int.fmod_nonneg_of_pos _ h, Int.fmod_lt_of_pos _ h⟩
def dok : Nat → PyData → Bool
  | n + 1, .list ds => decide (ds.length ≤ 100000) && ds.all (dok n)
  | n + 1, .tuple ds => decide (ds.length ≤ 100000) && ds.all (dok n)
  | _, .none => true
  | _, .bool _ => true
  | _, .int _ => true
  | _, .str s => decide (s.length ≤ 100000)
  | _, _ => false
/-- same: two equal data -/
def spSame (K : PySem.W.Frag) : Nat → Sp
  | 0 => fun _ _ _ _ => False
  | n + 1 => fun vs H Q _ => ∃ (a b : V) (d : PyData), vs = [a, b] ∧ Dp K H a d ∧ Dp K H b d ∧ dok n d = true ∧ ∀ H', Same H H' → Q (.bl true) H'
theorem same_seqs {K : PySem.W.Frag} {H : Hp} {a b : V} {d : PyData} {n : Nat} (ha : Dp K H a d) (hb : Dp K H b d) (hd : dok n d = true) (hq : (isLst d || isTup d) = true) :
    ∃ (p q : Addr) (xs ys : List V) (ds : List PyData) (m : Nat), n = m + 1 ∧ a = .ref p ∧ b = .ref q ∧ (SqL K H p xs ∨ SqT K H p xs) ∧ (SqL K H q ys ∨ SqT K H q ys) ∧ DpAll K H xs ds ∧ DpAll K H ys ds ∧ ds.length ≤ 100000 ∧ ∀ d ∈ ds, dok m d = true := by
  cases d with
  | list ds =>
    cases n with
    | zero => cases hd
    | succ m =>
      have hd' : (decide (ds.length ≤ 100000) && ds.all (dok m)) = true := hd
      rw [Bool.and_eq_true, List.all_eq_true] at hd'
      cases ha with
      | lst hs hall =>
        cases hb with
        | lst hs2 hall2 => exact ⟨_, _, _, _, ds, m, rfl, rfl, rfl, .inl hs, .inl hs2, hall, hall2, of_decide_eq_true hd'.1, hd'.2⟩
  | tuple ds =>
    cases n with
    | zero => cases hd
    | succ m =>
      have hd' : (decide (ds.length ≤ 100000) && ds.all (dok m)) = true := hd
      rw [Bool.and_eq_true, List.all_eq_true] at hd'
      cases ha with
      | tup hs hall =>
        cases hb with
        | tup hs2 hall2 => exact ⟨_, _, _, _, ds, m, rfl, rfl, rfl, .inr hs, .inr hs2, hall, hall2, of_decide_eq_true hd'.1, hd'.2⟩
  | _ => cases hq
/-- a place of a list or a tuple -/
theorem ix_any {K : PySem.W.Frag} {H : Hp} {p : Addr} {xs : List V} {i : Nat} {x : V} {z : Int} {Q : VK} (h : SqL K H p xs ∨ SqT K H p xs) (hx : xs[i]? = some x) (hz : z = (i : Int)) (q : Q x H) : rIx K (.ref p) (.int z) H Q := by
  subst hz
  exact h.elim (fun h => .inl ⟨p, xs, _, x, rfl, rfl, h, atI_nat hx, q⟩) (fun h => .inr (.inl ⟨p, xs, _, x, rfl, rfl, h, atI_nat hx, q⟩))
theorem Same.seqs {K : PySem.W.Frag} {H H' : Hp} {p : Addr} {xs : List V} (e : Same H H') (h : SqL K H p xs ∨ SqT K H p xs) : SqL K H' p xs ∨ SqT K H' p xs :=
  h.elim (fun h => .inl (Same.seq e h)) (fun h => .inr (Same.seqTT e h))
theorem len_any {K : PySem.W.Frag} {H : Hp} {p : Addr} {xs : List V} (h : SqL K H p xs ∨ SqT K H p xs) : LenV K (.ref p) H xs.length := h.elim (fun h => .inl ⟨_, h, rfl⟩) (fun h => .inr ⟨_, h, rfl⟩)
end L2
namespace L2
open PySem PySem.Spec PyProof.Rows
/-! ### words -/
def abc_ : Str := "abcdefghijklmnopqrstuvwxyz"
def fig_ : Str := "0123456789"
def sgn_ : Str := "abcdefghijklmnopqrstuvwxyz0123456789-"
def allIn (z Z : Str) : Bool := z.cps.toList.all fun c => decide (c ∈ Z.cps.toList)
def wordS (z : Str) : Bool := (decide ((1 : Int) ≤ ((z.length : Nat) : Int)) && decide (((z.length : Nat) : Int) ≤ 8)) && allIn z sgn_
def wordD : PyData → Bool | .str z => wordS z | _ => false
def headS (z : Str) : Str := cutS z none (some 1)
def tailS (z : Str) : Str := cutS z (some 1) none
def plainS (z : Str) : Bool := wordS z && !decide (headS z = "-")
def plainD : PyData → Bool | .str z => plainS z | _ => false
def numS (z : Str) : Bool := wordS z && (allIn z fig_ && (decide (z = "0") || !decide (headS z = "0")))
def numD : PyData → Bool | .str z => numS z | _ => false
def nameS (z : Str) : Bool := (decide ((1 : Int) ≤ ((z.length : Nat) : Int)) && decide (((z.length : Nat) : Int) ≤ 6)) && allIn z abc_
def nameD : PyData → Bool | .str z => nameS z | _ => false
def optS (z : Str) : Bool := decide (headS z = "-") && nameS (tailS z)
def optD : PyData → Bool | .str z => optS z | _ => false
/-- a predicate of data -/
def spPred (K : PySem.W.Frag) (f : PyData → Bool) : Sp := fun vs H Q _ => ∃ (v : V) (d : PyData) (n : Nat), vs = [v] ∧ Dp K H v d ∧ dok n d = true ∧ ∀ H', Same H H' → Q (.bl (f d)) H'
theorem str_of {d : PyData} (h : isStr d = true) : ∃ z, d = .str z := by cases d <;> first | exact ⟨_, rfl⟩ | cases h
theorem dok_str {n : Nat} {z : Str} (h : dok n (.str z) = true) : z.length ≤ 100000 := by cases n <;> exact of_decide_eq_true h
theorem tl_len (z : Str) : z.cps.toList.length = z.length := by simp [Str.length]
theorem head_at {z : Str} (h : 1 ≤ z.length) : ∃ c, atI z.cps.toList 0 = some c ∧ headS z = ⟨#[c]⟩ := by
  have hl := tl_len z
  obtain ⟨c, r, e⟩ : ∃ c r, z.cps.toList = c :: r := by
    cases q : z.cps.toList with
    | nil => rw [q] at hl; simp at hl; omega
    | cons c r => exact ⟨c, r, rfl⟩
  refine ⟨c, ?_, ?_⟩
  · have h0 : atI z.cps.toList ((0 : Nat) : Int) = some c := atI_nat (by rw [e]; rfl)
    exact h0
  · unfold headS cutS
    have e1 : HT.sIx z.length 0 none = 0 := rfl
    have e2 : HT.sIx z.length z.length (some 1) = 1 := by
      show (if (1 : Int) < 0 then ((1 : Int) + (z.length : Int)).toNat else min (1 : Int).toNat z.length) = 1
      rw [if_neg (by decide)]
      show min 1 z.length = 1
      omega
    rw [e1, e2, e]
    rfl
theorem dstr {a b : Str} : decide (V.str a = V.str b) = decide (a = b) := by
  rw [decide_eq_decide]
  exact ⟨V.str.inj, fun e => by rw [e]⟩
theorem wordS_pos {z : Str} (h : wordS z = true) : 1 ≤ z.length := by
  unfold wordS at h
  rw [Bool.and_eq_true, Bool.and_eq_true] at h
  have q := of_decide_eq_true h.1.1
  omega
/-- all([sign in Z for sign in z]) -/
theorem lc_allIn {z : Str} (Z : Str) {i : Nat} {σ : St} {H : Hp} {te : TE} {D : Addr} {Qd : Hp → Prop} (hD : H D = none) (hz : z.length ≤ 100000) (hw : ∀ x : V, wipe ((wipe σ [i]).set i (some x)) [i] = wipe σ [i])
    (he : ∀ c H Q, Q (.bl (decide (c ∈ Z.cps.toList))) H → te ((wipe σ [i]).set i (some (.str ⟨#[c]⟩))) H Q)
    (k : ∀ H', Same H H' → H' D = some (.lst ((z.cps.toList.map fun c => decide (c ∈ Z.cps.toList)).map V.bl)) → Qd H') :
    ∃ W : Nat → Nat → Hp → Prop, (∃ m, W 0 m (upd H D (.lst []))) ∧ ∀ j m H, W j m H →
      ((Its z).stop j H ∧ Qd H) ∨ ((Its z).go j H ∧ ∃ Nx : Hp → Prop, (∀ H', Nx H' → ∃ m', m' < m ∧ W (j + 1) m' H') ∧ ∀ x H', (Its z).yld j H x H' → gName i x (wipe σ [i]) H' fun σ2 H2 => wipe σ2 [i] = wipe σ [i] ∧ tYes σ2 H2 fun b H3 =>
        if b = true then te σ2 H3 fun y H4 => ∃ acc, H4 D = some (.lst acc) ∧ acc.length < sizeLine ∧ Nx (upd H4 D (.lst (acc ++ [y]))) else Nx H3) := by
  refine lc_strV (fun c => .bl (decide (c ∈ Z.cps.toList))) hD hz (fun c H1 Nx hc S1 h => ?_) gName_mono tYes_mono (fun H1 S1 h1 => ?_)
  · exact ⟨hw _, rfl, he c H1 Nx (h _ (Same.refl _))⟩
  · exact k _ S1 (by rw [h1, List.map_map]; rfl)
theorem all_id {z Z : Str} : (z.cps.toList.map fun c => decide (c ∈ Z.cps.toList)).all id = allIn z Z := by
  rw [List.all_map]; rfl
end L2
namespace L2
open PySem PySem.Spec PyProof.Rows Evl
section
variable {K : PySem.W.Frag} {σ : St} {H H' : Hp} {ta tb tc te : TE} {t : TT} {x y z v : V} {r r' : R2}
theorem ev_chain {k1 k2 : Bool} (ha : Ev ta σ H x) (hb : Ev tb σ H y) (h1 : RV r x y H (.bl k1)) (hc : k1 = true → Ev tc σ H z) (h2 : k1 = true → RV r' y z H (.bl k2)) : Ev (tChain r r' ta tb tc) σ H (.bl (k1 && k2)) := fun H1 e Q q =>
  ha H1 e _ fun H2 e2 => hb H2 (e.trans e2) _ fun H3 e3 => h1 H3 ((e.trans e2).trans e3) _ fun H4 e4 => ⟨k1, rfl, by
    have e5 : Same H1 H4 := (e2.trans e3).trans e4
    cases k1 with
    | false => exact iteF (q H4 e5)
    | true =>
      refine iteT (hc rfl H4 (e.trans e5) _ fun H5 e6 => h2 rfl H5 ((e.trans e5).trans e6) Q fun H6 e7 => ?_)
      exact q H6 ((e5.trans e6).trans e7)⟩
theorem el_lcS {tl : TE} {z : Str} {j : Nat} {vs : List Nat} (f : Nat → V) (h : Ev tl σ H (.str z)) (hz : z.length ≤ 100000) (hv : vs = [j]) (hw : ∀ x, wipe ((wipe σ [j]).set j (some x)) [j] = wipe σ [j])
    (he : ∀ c H1, c ∈ z.cps.toList → Same H H1 → Ev te ((wipe σ [j]).set j (some (.str ⟨#[c]⟩))) H1 (f c)) : EvL (tLc (iStr tl) (gName j) tYes te vs) σ H (z.cps.toList.map f) := fun H0 e Q q => h H0 e _ fun H1 e1 => ⟨z, rfl, fun D hD => by
  subst hv
  refine lc_strV f hD hz (fun c H2 Nx hc S2 hk => ⟨hw _, rfl, ?_⟩) gName_mono tYes_mono (fun H2 S2 h2 => q D H2 ?_ (e1.trans S2) h2)
  · exact he c H2 hc ((e.trans e1).trans S2) H2 (Same.refl _) Nx hk
  · exact Same.free e1 hD⟩
theorem el_lcSB {tl : TE} {z : Str} {j : Nat} {vs : List Nat} (f : Nat → Bool) (h : Ev tl σ H (.str z)) (hz : z.length ≤ 100000) (hv : vs = [j]) (hw : ∀ x, wipe ((wipe σ [j]).set j (some x)) [j] = wipe σ [j])
    (he : ∀ c H1, c ∈ z.cps.toList → Same H H1 → Ev te ((wipe σ [j]).set j (some (.str ⟨#[c]⟩))) H1 (.bl (f c))) : EvL (tLc (iStr tl) (gName j) tYes te vs) σ H ((z.cps.toList.map f).map V.bl) := by
  have q := el_lcS (fun c => .bl (f c)) h hz hv hw he
  rw [List.map_map]; exact q
theorem ev_all {bs : List Bool} (h : EvL te σ H (bs.map V.bl)) : Ev (tCB (rAll K) (tCons te tNil)) σ H (.bl (bs.all id)) := fun H1 e Q q => h H1 e _ fun p H2 hp e2 h2 => ⟨p, bs, rfl, SqL.of h2, q H2 e2⟩
theorem ev_allInE {tl : TE} {z Z : Str} {j : Nat} {vs : List Nat} (h : Ev tl σ H (.str z)) (hz : z.length ≤ 100000) (hv : vs = [j]) (hw : ∀ x, wipe ((wipe σ [j]).set j (some x)) [j] = wipe σ [j])
    (he : ∀ c H1, c ∈ z.cps.toList → Same H H1 → Ev te ((wipe σ [j]).set j (some (.str ⟨#[c]⟩))) H1 (.bl (decide (c ∈ Z.cps.toList)))) : Ev (tCB (rAll K) (tCons (tLc (iStr tl) (gName j) tYes te vs) tNil)) σ H (.bl (allIn z Z)) :=
  ev_is (ev_all (el_lcSB (fun c => decide (c ∈ Z.cps.toList)) h hz hv hw he)) (by rw [all_id])
theorem ev_isi {ty : String} {b : Bool} {d : PyData} (h : Ev te σ H v) (hv : Dp K H v d) (hk : kitB (tyN d) ty = some b) : Ev (tCB (rIsi K) (tCons te (tCons (tC (.ty ty)) tNil))) σ H (.bl b) := fun H1 e Q q =>
  h H1 e _ fun H2 e2 => ⟨_, _, _, _, _, rfl, .ty _, (hv.monoT (e.trans e2) d).tyT, kit_ty hk, q H2 e2⟩
theorem ev_slS {tl th : TO} {z : Str} {lo hi : Option Int} (h : Ev te σ H (.str z)) (hz : z.length ≤ 100000) (h1 : EvO tl σ H lo) (h2 : EvO th σ H hi) : Ev (tSl rSlS te tl th) σ H (.str (cutS z lo hi)) := fun H1 e Q q =>
  h H1 e _ fun H2 e2 => h1 H2 (e.trans e2) _ fun H3 e3 => h2 H3 ((e.trans e2).trans e3) _ fun H4 e4 => ⟨z, rfl, sz_of hz, q H4 ((e2.trans e3).trans e4)⟩
theorem rv_eqS {a b : Str} : RV rEq (.str a) (.str b) H (.bl (decide (a = b))) := by
  have h := rv_eq (H := H) (x := .str a) (y := .str b) rfl
  rw [dstr] at h; exact h
theorem rv_neS {a b : Str} : RV rNe (.str a) (.str b) H (.bl (!decide (a = b))) := by
  have h := rv_ne (H := H) (x := .str a) (y := .str b) rfl
  rw [dstr] at h; exact h
theorem rv_addS {a b : Str} (h : a.length + b.length ≤ 100000) : RV (fun x y H Q => ∃ i j, x = .str i ∧ y = .str j ∧ i.length + j.length ≤ sizeLine ∧ Q (.str (i ++ j)) H) (.str a) (.str b) H (.str (a ++ b)) := fun H1 _ Q q => ⟨a, b, rfl, rfl, sz_of h, q H1 (Same.refl _)⟩
theorem rv_inSign {c : Nat} {z : Str} : RV (fun x y H Q => ∃ (c : Nat) (z : Str), x = .str ⟨#[c]⟩ ∧ y = .str z ∧ Q (.bl (decide (c ∈ z.cps.toList))) H) (.str ⟨#[c]⟩) (.str z) H (.bl (decide (c ∈ z.cps.toList))) := fun H1 _ Q q => ⟨c, z, rfl, rfl, q H1 (Same.refl _)⟩
theorem ev_lenS {z : Str} (h : Ev te σ H (.str z)) (hz : z.length ≤ 100000) : Ev (tCB (fun xs H Q => ∃ z, xs = [.str z] ∧ z.length ≤ sizeLine ∧ Q (.int (z.length : Nat)) H) (tCons te tNil)) σ H (.int (z.length : Nat)) := fun H1 e Q q => h H1 e _ fun H2 e2 => ⟨z, rfl, sz_of hz, q H2 e2⟩
theorem ev_lenV {n : Nat} (h : Ev te σ H v) (hz : ∀ H1, Same H H1 → LenV K v H1 n) : Ev (tCB (fun xs H Q => ∃ x n, xs = [x] ∧ LenV K x H n ∧ Q (.int (n : Nat)) H) (tCons te tNil)) σ H (.int (n : Nat)) := fun H1 e Q q => h H1 e _ fun H2 e2 => ⟨v, n, rfl, hz H2 (e.trans e2), q H2 e2⟩
theorem sp_pred {f : PyData → Bool} {d : PyData} {n : Nat} (hv : Dp K H v d) (hd : dok n d = true) : SpV (spPred K f) [v] H (.bl (f d)) := fun H1 e Q q E => ⟨v, d, n, rfl, hv.monoT e d, hd, q⟩
theorem ev_callN {n m : Nat} {sp : Sp} {gV : List V → List V → List V} {E : XK} {ta tk : TA} {us ws : List V} (h : EvA ta σ H us) (hk : EvA tk σ H ws) (h1 : us.length = n) (h2 : ws.length = m) (hs : SpV sp (gV us ws) H z) : Ev (tCallN n m sp gV E ta tk) σ H z := fun H1 e Q q =>
  h H1 e _ fun H2 e2 => hk H2 (e.trans e2) _ fun H3 e3 => ⟨h1, h2, hs H3 ((e.trans e2).trans e3) Q (fun H4 e4 => q H4 ((e2.trans e3).trans e4)) E⟩
/-- an argument that is a new list, then plain ones: (for _law_same) -/
theorem et_notB {b : Bool} (h : Ev te σ H (.bl b)) : EvT (tNot (tB te)) σ H (!b) := et_not (et_B h)
end
theorem join_one : ∀ cs : List Nat, TL.joinL [] (cs.map fun c => [c]) = cs
  | [] => rfl
  | [c] => rfl
  | c :: d :: r => by
    show [c] ++ ([] ++ TL.joinL [] ((d :: r).map fun c => [c])) = c :: d :: r
    rw [join_one (d :: r)]; rfl
theorem join_signs (cs : List Nat) : Txt.join ("" : Str) (cs.map fun c => (⟨#[c]⟩ : Str)) = SX.S cs := by
  have h := SX.join_S [] (cs.map fun c => [c])
  rw [List.map_map, join_one] at h
  exact h
end L2
namespace Toy
open PySem L2
def top (i : Nat) : Stmt := PySem.Challenge.pw_tabsure_k02_words_and_names.main.body.getD i (.Pass ⟨0, 0, 0, 0⟩)
abbrev s_is_word : Stmt := top 6
abbrev s_is_plain : Stmt := top 7
abbrev s_is_number_word : Stmt := top 8
abbrev s_is_option_name : Stmt := top 9
abbrev s_is_name : Stmt := top 10
abbrev s__law_feed : Stmt := top 12
abbrev s__law_take : Stmt := top 13
abbrev s__law_of : Stmt := top 14
abbrev s__law_same : Stmt := top 15
abbrev s_law : Stmt := top 16
structure Gct (mg : Str → Option Value) : Prop where
  g_LETTERS : ∃ u, mg "LETTERS" = some u ∧ RelV (.str "abcdefghijklmnopqrstuvwxyz") u
  g_FIGURES : ∃ u, mg "FIGURES" = some u ∧ RelV (.str "0123456789") u
  g_SIGNS : ∃ u, mg "SIGNS" = some u ∧ RelV (.str "abcdefghijklmnopqrstuvwxyz0123456789-") u
  g_MOST_SIGNS : ∃ u, mg "MOST_SIGNS" = some u ∧ RelV (.int (8)) u
  g_MOST_LETTERS : ∃ u, mg "MOST_LETTERS" = some u ∧ RelV (.int (6)) u

section
variable {P : Program} {w : World} {K : PySem.W.Frag} {mg : Str → Option Value} {base : Heap}
theorem sc_is_word : FnScope ["value", "sign"] ["value"] (defScope s_is_word) := ⟨rfl, rfl, rfl, by decide +kernel, rfl, by decide +kernel, by decide +kernel⟩
theorem o_is_word (D : Df K mg "is_word" s_is_word) (T : Txt mg) (GC : Gct mg) : Okd P w K mg base CX0 1 "is_word" s_is_word ["value"] (spPred K wordD) := by
  refine ok_mk D sc_is_word (fun vs H Q E h => ?_) (fun f cdv A outer s H vs Q E hr h => ?_)
  · obtain ⟨v, d, n, rfl, _⟩ := h; rfl
  · obtain ⟨v, d, n, rfl, hv, hd, k⟩ := h
    refine ⟨_, (pss_cons (ps_if (PW.pt (pw_or (pt_not (pt_val (pe_callB call_isi (by rfl) T.b_isinstance (by decide +kernel) (pa_cons (pv 0) (pa_cons (pe_bltn (v := .ty "str") (by rfl) T.b_str (by decide +kernel) rfl) pa_nil))))) (pw_or1 (pt_not (pt_chain op_le op_le pe_int (pe_callB call_len_str (by rfl) T.b_len (by decide +kernel) (pa_cons (pv 0) pa_nil)) (C8.pe_gc (by rfl) GC.g_MOST_SIGNS)))))) (pss_one (ps_ret pe_bl)) pss_nil)
  (pss_one (ps_ret (pe_callB (cr_all rfl) (by rfl) T.b_all (by decide +kernel) (pa_cons (pe_lc (own := [("sign", 1)]) (g := gName 1) (tt := tYes) (by rfl) sc_is_word.nd (pi_str (pv 0)) (blkOk_by (N := ["value", "sign"]) (sc := defScope s_is_word) (by decide +kernel)) (fun _ _ _ _ _ => (pg_name (i := 1) sc_is_word.nd rfl (Or.inl rfl))) (fun _ _ _ _ _ => pts_nil) (fun _ _ _ _ _ => (pe_cmpR op_in_sign (pv 1) (C8.pe_gc (by rfl) GC.g_SIGNS) (by rfl)))) pa_nil))))), ?_⟩
    refine ⟨_, rfl, ?_⟩
    refine ⟨_, _, _, _, _, rfl, .ty _, hv.tyT, kit_ty (kit_str d), ?_⟩
    refine ⟨_, rfl, ?_⟩
    cases hs : isStr d with
    | false =>
      have e : wordD d = false := by cases d <;> first | rfl | cases hs
      rw [e] at k
      exact iteT (iteT (k _ (Same.refl _)))
    | true =>
      obtain ⟨z, rfl⟩ := str_of hs
      cases hv
      have hz := dok_str hd
      have kk : ∀ b H', wordS z = b → Same H H' → Q (.bl b) H' := fun b H' e S => e ▸ k _ S
      refine iteF ?_
      refine ⟨_, rfl, _, rfl, Nat.le_trans hz (by decide), _, _, rfl, rfl, _, rfl, ?_⟩
      cases h1 : decide ((1 : Int) ≤ ((z.length : Nat) : Int)) with
      | false => exact iteF ⟨_, rfl, iteT (kk _ _ (by unfold wordS; rw [h1]; rfl) (Same.refl _))⟩
      | true =>
        refine iteT ⟨_, _, rfl, rfl, _, rfl, ?_⟩
        cases h2 : decide (((z.length : Nat) : Int) ≤ 8) with
        | false => exact iteT (kk _ _ (by unfold wordS; rw [h1, h2]; rfl) (Same.refl _))
        | true =>
          refine iteF ⟨_, rfl, _, rfl, ?_⟩
          intro D hD
          refine lc_allIn _ hD hz (fun _ => rfl) (fun c H Q q => ⟨_, rfl, _, _, rfl, rfl, q⟩) (fun H' S hl => ?_)
          refine ⟨D, _, rfl, SqL.of hl, ?_⟩
          rw [all_id]
          exact kk _ _ (by unfold wordS; rw [h1, h2]; rfl) S
theorem sc_is_plain : FnScope ["value"] ["value"] (defScope s_is_plain) := ⟨rfl, rfl, rfl, by decide +kernel, rfl, by decide +kernel, by decide +kernel⟩
theorem o_is_plain (D : Df K mg "is_plain" s_is_plain) (T : Txt mg) (c_is_word : Cl P w K mg base CX0 1 "is_word" (spPred K wordD) []) : Okd P w K mg base CX0 2 "is_plain" s_is_plain ["value"] (spPred K plainD) := by
  refine ok_mk D sc_is_plain (fun vs H Q E h => ?_) (fun f cdv A outer s H vs Q E hr h => ?_)
  · obtain ⟨v, d, n, rfl, _⟩ := h; rfl
  · obtain ⟨v, d, n, rfl, hv, hd, k⟩ := h
    refine ⟨_, (pss_one (ps_ret (pe_and (pe_c c_is_word hr (by decide) (by rfl) (pa_cons (pv 0) pa_nil)) (pe_one (pe_cmpR op_ne (pe_ix ix_str (pv 0) pe_int (fun _ _ => rfl)) pe_str (nomark _)))))), ?_⟩
    refine ⟨_, rfl, v, d, n, rfl, hv, hd, fun H1 S1 => ⟨_, rfl, ?_⟩⟩
    cases hw : wordD d with
    | false =>
      refine iteF ?_
      have e : plainD d = false := by
        cases d <;> first | rfl | exact (by show (wordS _ && _) = false; rw [show wordS _ = false from hw]; rfl)
      rw [e] at k
      exact k _ S1
    | true =>
      obtain ⟨z, rfl⟩ : ∃ z, d = .str z := by cases d <;> first | exact ⟨_, rfl⟩ | cases hw
      cases hv
      obtain ⟨c, hc1, hc2⟩ := head_at (wordS_pos hw)
      refine iteT ⟨_, rfl, _, _, _, rfl, rfl, Nat.le_trans (dok_str hd) (by decide), hc1, rfl, ?_⟩
      have kk : ∀ b, plainS z = b → Q (.bl b) H1 := fun b e => e ▸ k _ S1
      refine kk _ ?_
      unfold plainS
      rw [show wordS z = true from hw, hc2, dstr]
      rfl
theorem sc_is_name : FnScope ["value", "sign"] ["value"] (defScope s_is_name) := ⟨rfl, rfl, rfl, by decide +kernel, rfl, by decide +kernel, by decide +kernel⟩
theorem o_is_name (D : Df K mg "is_name" s_is_name) (T : Txt mg) (GC : Gct mg) : Okd P w K mg base CX0 1 "is_name" s_is_name ["value"] (spPred K nameD) := by
  refine ok_mk D sc_is_name (fun vs H Q E h => ?_) (fun f cdv A outer s H vs Q E hr h => ?_)
  · obtain ⟨v, d, n, rfl, _⟩ := h; rfl
  · obtain ⟨v, d, n, rfl, hv, hd, k⟩ := h
    refine ⟨_, (pss_cons (ps_if (PW.pt (pw_or (pt_not (pt_val (pe_callB call_isi (by rfl) T.b_isinstance (by decide +kernel) (pa_cons (pv 0) (pa_cons (pe_bltn (v := .ty "str") (by rfl) T.b_str (by decide +kernel) rfl) pa_nil))))) (pw_or1 (pt_not (pt_chain op_le op_le pe_int (pe_callB call_len_str (by rfl) T.b_len (by decide +kernel) (pa_cons (pv 0) pa_nil)) (C8.pe_gc (by rfl) GC.g_MOST_LETTERS)))))) (pss_one (ps_ret pe_bl)) pss_nil)
  (pss_one (ps_ret (pe_callB (cr_all rfl) (by rfl) T.b_all (by decide +kernel) (pa_cons (pe_lc (own := [("sign", 1)]) (g := gName 1) (tt := tYes) (by rfl) sc_is_name.nd (pi_str (pv 0)) (blkOk_by (N := ["value", "sign"]) (sc := defScope s_is_name) (by decide +kernel)) (fun _ _ _ _ _ => (pg_name (i := 1) sc_is_name.nd rfl (Or.inl rfl))) (fun _ _ _ _ _ => pts_nil) (fun _ _ _ _ _ => (pe_cmpR op_in_sign (pv 1) (C8.pe_gc (by rfl) GC.g_LETTERS) (by rfl)))) pa_nil))))), ?_⟩
    refine ⟨_, rfl, ?_⟩
    refine ⟨_, _, _, _, _, rfl, .ty _, hv.tyT, kit_ty (kit_str d), ?_⟩
    refine ⟨_, rfl, ?_⟩
    cases hs : isStr d with
    | false =>
      have e : nameD d = false := by cases d <;> first | rfl | cases hs
      rw [e] at k
      exact iteT (iteT (k _ (Same.refl _)))
    | true =>
      obtain ⟨z, rfl⟩ := str_of hs
      cases hv
      have hz := dok_str hd
      have kk : ∀ b H', nameS z = b → Same H H' → Q (.bl b) H' := fun b H' e S => e ▸ k _ S
      refine iteF ?_
      refine ⟨_, rfl, _, rfl, Nat.le_trans hz (by decide), _, _, rfl, rfl, _, rfl, ?_⟩
      cases h1 : decide ((1 : Int) ≤ ((z.length : Nat) : Int)) with
      | false => exact iteF ⟨_, rfl, iteT (kk _ _ (by unfold nameS; rw [h1]; rfl) (Same.refl _))⟩
      | true =>
        refine iteT ⟨_, _, rfl, rfl, _, rfl, ?_⟩
        cases h2 : decide (((z.length : Nat) : Int) ≤ 6) with
        | false => exact iteT (kk _ _ (by unfold nameS; rw [h1, h2]; rfl) (Same.refl _))
        | true =>
          refine iteF ⟨_, rfl, _, rfl, ?_⟩
          intro D hD
          refine lc_allIn _ hD hz (fun _ => rfl) (fun c H Q q => ⟨_, rfl, _, _, rfl, rfl, q⟩) (fun H' S hl => ?_)
          refine ⟨D, _, rfl, SqL.of hl, ?_⟩
          rw [all_id]
          exact kk _ _ (by unfold nameS; rw [h1, h2]; rfl) S
theorem sc_is_option_name : FnScope ["value"] ["value"] (defScope s_is_option_name) := ⟨rfl, rfl, rfl, by decide +kernel, rfl, by decide +kernel, by decide +kernel⟩
theorem o_is_option_name (D : Df K mg "is_option_name" s_is_option_name) (T : Txt mg) (c_is_name : Cl P w K mg base CX0 1 "is_name" (spPred K nameD) []) : Okd P w K mg base CX0 2 "is_option_name" s_is_option_name ["value"] (spPred K optD) := by
  refine ok_mk D sc_is_option_name (fun vs H Q E h => ?_) (fun f cdv A outer s H vs Q E hr h => ?_)
  · obtain ⟨v, d, n, rfl, _⟩ := h; rfl
  · obtain ⟨v, d, n, rfl, hv, hd, k⟩ := h
    refine ⟨_, (pss_one (ps_ret (pe_and (pe_callB call_isi (by rfl) T.b_isinstance (by decide +kernel) (pa_cons (pv 0) (pa_cons (pe_bltn (v := .ty "str") (by rfl) T.b_str (by decide +kernel) rfl) pa_nil))) (pe_and (pe_cmpR op_eq (pe_slice sl_str (pv 0) po_none (po_some pe_int)) pe_str (nomark _)) (pe_one (pe_c c_is_name hr (by decide) (by rfl) (pa_cons (pe_slice sl_str (pv 0) (po_some pe_int) po_none) pa_nil))))))), ?_⟩
    refine ⟨_, rfl, ?_⟩
    refine ⟨_, _, _, _, _, rfl, .ty _, hv.tyT, kit_ty (kit_str d), ?_⟩
    refine ⟨_, rfl, ?_⟩
    cases hs : isStr d with
    | false =>
      have e : optD d = false := by cases d <;> first | rfl | cases hs
      rw [e] at k
      exact iteF (k _ (Same.refl _))
    | true =>
      obtain ⟨z, rfl⟩ := str_of hs
      cases hv
      have hz := dok_str hd
      have kk : ∀ b H', optS z = b → Same H H' → Q (.bl b) H' := fun b H' e S => e ▸ k _ S
      refine iteT ⟨_, rfl, 1, rfl, z, rfl, Nat.le_trans hz (by decide), rfl, _, rfl, ?_⟩
      cases h1 : decide (V.str (cutS z none (some 1)) = V.str "-") with
      | false => exact iteF (kk _ _ (by unfold optS; rw [← dstr, show decide (V.str (headS z) = V.str "-") = false from h1]; rfl) (Same.refl _))
      | true =>
        refine iteT ⟨_, rfl, 1, rfl, z, rfl, Nat.le_trans hz (by decide), .str (tailS z), .str (tailS z), 1, rfl, .str _, decide_eq_true (Nat.le_trans (cutS_length z _ _) hz), fun H1 S1 => ?_⟩
        exact kk _ _ (by unfold optS; rw [← dstr, show decide (V.str (headS z) = V.str "-") = true from h1]; rfl) S1
theorem sc_is_number_word : FnScope ["value", "sign"] ["value"] (defScope s_is_number_word) := ⟨rfl, rfl, rfl, by decide +kernel, rfl, by decide +kernel, by decide +kernel⟩
theorem o_is_number_word (D : Df K mg "is_number_word" s_is_number_word) (T : Txt mg) (GC : Gct mg) (c_is_word : Cl P w K mg base CX0 1 "is_word" (spPred K wordD) []) : Okd P w K mg base CX0 2 "is_number_word" s_is_number_word ["value"] (spPred K numD) := by
  refine ok_mk D sc_is_number_word (fun vs H Q E h => ?_) (fun f cdv A outer s H vs Q E hr h => ?_)
  · obtain ⟨v, d, n, rfl, _⟩ := h; rfl
  · obtain ⟨v, d, n, rfl, hv, hd, k⟩ := h
    refine ⟨_, (pss_one (ps_ret (pe_and (pe_c c_is_word hr (by decide) (by rfl) (pa_cons (pv 0) pa_nil)) (pe_and (pe_callB (cr_all rfl) (by rfl) T.b_all (by decide +kernel) (pa_cons (pe_lc (own := [("sign", 1)]) (g := gName 1) (tt := tYes) (by rfl) sc_is_number_word.nd (pi_str (pv 0)) (blkOk_by (N := ["value", "sign"]) (sc := defScope s_is_number_word) (by decide +kernel)) (fun _ _ _ _ _ => (pg_name (i := 1) sc_is_number_word.nd rfl (Or.inl rfl))) (fun _ _ _ _ _ => pts_nil) (fun _ _ _ _ _ => (pe_cmpR op_in_sign (pv 1) (C8.pe_gc (by rfl) GC.g_FIGURES) (by rfl)))) pa_nil)) (pe_one (pe_or (pe_cmpR op_eq (pv 0) pe_str (nomark _)) (pe_one (pe_cmpR op_ne (pe_ix ix_str (pv 0) pe_int (fun _ _ => rfl)) pe_str (nomark _))))))))), ?_⟩
    refine ⟨_, rfl, v, d, n, rfl, hv, hd, fun H1 S1 => ⟨_, rfl, ?_⟩⟩
    cases hw : wordD d with
    | false =>
      refine iteF ?_
      have e : numD d = false := by
        cases d <;> first | rfl | exact (by show (wordS _ && _) = false; rw [show wordS _ = false from hw]; rfl)
      rw [e] at k
      exact k _ S1
    | true =>
      obtain ⟨z, rfl⟩ : ∃ z, d = .str z := by cases d <;> first | exact ⟨_, rfl⟩ | cases hw
      cases hv
      have hz := dok_str hd
      have hw' : wordS z = true := hw
      have kk : ∀ b H', numS z = b → Same H H' → Q (.bl b) H' := fun b H' e S => e ▸ k _ S
      refine iteT ⟨_, rfl, _, rfl, ?_⟩
      intro D hD
      refine lc_allIn _ hD hz (fun _ => rfl) (fun c H Q q => ⟨_, rfl, _, _, rfl, rfl, q⟩) (fun H2 S2 hl => ?_)
      refine ⟨D, _, rfl, SqL.of hl, ?_⟩
      rw [all_id]
      refine ⟨_, rfl, ?_⟩
      have S12 := S1.trans S2
      cases h1 : allIn z "0123456789" with
      | false => exact iteF (kk _ _ (by unfold numS; rw [hw', show allIn z fig_ = false from h1]; rfl) S12)
      | true =>
        refine iteT ⟨_, rfl, rfl, _, rfl, ?_⟩
        cases h2 : decide (V.str z = V.str "0") with
        | true => exact iteT (kk _ _ (by unfold numS; rw [hw', show allIn z fig_ = true from h1, ← dstr, h2]; rfl) S12)
        | false =>
          obtain ⟨c, hc1, hc2⟩ := head_at (wordS_pos hw)
          refine iteF ⟨_, rfl, _, _, _, rfl, rfl, Nat.le_trans hz (by decide), hc1, rfl, ?_⟩
          refine kk _ _ ?_ S12
          unfold numS
          rw [hw', show allIn z fig_ = true from h1, ← dstr, h2, hc2, dstr]
          rfl
end
/-! ### the law's drawing -/
section
variable {P : Program} {w : World} {K : PySem.W.Frag} {mg : Str → Option Value} {base : Heap}
theorem sc__law_feed : FnScope ["_law_script"] ["_law_script"] (defScope s__law_feed) := ⟨rfl, rfl, rfl, by decide +kernel, rfl, by decide +kernel, by decide +kernel⟩
theorem c__law_feed_ok (D : Df K mg "_law_feed" s__law_feed) (T : Txt mg) : Cl P w K mg base CX0 1 "_law_feed" (spFeed K) [] := by
  refine cal_mk D sc__law_feed (fun _ _ _ _ _ _ us hl => match us, hl with | [_], _ => rfl) (fun vs H Q E h => ?_) (fun f cdv A outer s H vs Q E hr h => ?_)
  · obtain ⟨a, ns, rfl, _⟩ := h; rfl
  · obtain ⟨a, ns, rfl, hS, hn, k⟩ := h
    refine ⟨_, (pss_one (ps_ret (pe_lst (pa_cons (pe_callTy call_list_of (by rfl) T.b_list (by decide +kernel) (pa_cons (pe_slice sl_list (pv 0) po_none (po_some pe_int)) pa_nil)) (pa_cons pe_int (pa_cons pe_int (pa_cons (pe_op op_add pe_int (pe_op op_mul pe_int (pe_callB call_len_seq (by rfl) T.b_len (by decide +kernel) (pa_cons (pv 0) pa_nil)))) pa_nil))))))), ?_⟩
    refine ⟨_, rfl, 60, rfl, a, _, rfl, hS, fun p1 h1 => ?_⟩
    refine ⟨p1, _, rfl, .inl (SqL.of upd_same), fun p2 h2 => ?_⟩
    have e1 : Same H (upd H p1 (.lst (cutV (ns.map V.int) none (some 60)))) := Same.newT h1
    have e2 := e1.trans (Same.newT (o := .lst (cutV (ns.map V.int) none (some 60))) h2)
    refine ⟨_, rfl, a, _, rfl, .inl (Same.seq e2 hS), _, _, rfl, rfl, .inl (by decide), ?_⟩
    refine ⟨_, _, rfl, rfl, ?_⟩
    refine ⟨by show 4 ≤ sizeLine; decide, fun p3 h3 => ?_⟩
    have hc : cutV (ns.map V.int) none (some 60) = (ns.take (HT.sIx ns.length ns.length (some 60))).map V.int := by
      unfold cutV
      rw [List.length_map]
      show List.take (_ - 0) (List.drop 0 _) = _
      rw [Nat.sub_zero, List.drop_zero, List.map_take]
    refine k _ p2 _ (e2.trans (Same.newT h3)) ⟨ns.take (HT.sIx ns.length ns.length (some 60)), 0, 0, _, upd_same, ?_, ?_, by omega, by omega, ?_, ?_, ?_⟩ ?_ ?_
    · rw [upd_ne (ne_of_none upd_same h3), upd_same, hc]
    · exact ne_of_none upd_same h3
    · rw [List.length_map]; omega
    · rw [List.length_map]; omega
    · rw [List.length_take]; omega
    · exact e2.free h3
    · exact e1.free h2
theorem sc__law_take : FnScope ["_law_feed_here", "_law_many", "_law_cell", "_law_got", "_law_seed"] ["_law_feed_here", "_law_many"] (defScope s__law_take) := ⟨rfl, rfl, rfl, by decide +kernel, rfl, by decide +kernel, by decide +kernel⟩
theorem c__law_take_ok (D : Df K mg "_law_take" s__law_take) (T : Txt mg) : Cl P w K mg base CX0 1 "_law_take" spTake [] := by
  refine cal_mk D sc__law_take (fun _ _ _ _ _ _ us hl => match us, hl with | [_, _], _ => rfl) (fun vs H Q E h => ?_) (fun f cdv A outer s H vs Q E hr h => ?_)
  · obtain ⟨a, l, m, rfl, _⟩ := h; rfl
  · obtain ⟨p, l, m, rfl, hF, m0, m1, k⟩ := h
    refine ⟨_, (Evl.pss_cut (ps_if (PW.pt (pw_and (pt_cmpR op_eq (pe_ix ix_list (pv 0) pe_int (fun _ _ => rfl)) pe_int (nomark _)) (pw_and1 (pt_cmpR op_lt (pe_ix ix_list (pv 0) pe_int (fun _ _ => rfl)) (pe_callB call_len (by rfl) T.b_len (by decide +kernel) (pa_cons (pe_ix ix_list (pv 0) pe_int (fun _ _ => rfl)) pa_nil)) (nomark _))))) (pss_cons (ps_set (i := 2) sc__law_take.nd rfl (by first | exact Or.inl rfl | exact Or.inr rfl) (pe_ix ix_seq (pe_ix ix_list (pv 0) pe_int (fun _ _ => rfl)) (pe_ix ix_list (pv 0) pe_int (fun _ _ => rfl)) (fun _ _ => rfl)))
  (pss_cons (ps_asg (pe_op op_add (pe_ix ix_list (pv 0) pe_int (fun _ _ => rfl)) pe_int) (pg_sub (pv 0) pe_int set_list))
  (pss_one (ps_if (pt_cmpR op_ge (pv 2) (pe_op op_pow pe_int pe_int) (nomark _)) (pss_one (ps_asg (pv 2) (pg_sub (pv 0) pe_int set_list))) (pss_one (ps_asg (pe_op op_modN (pe_callTy call_int1 (by rfl) T.b_int (by decide +kernel) (pa_cons (pe_op op_add (pe_op op_add (pe_op op_mul (pe_ix ix_list (pv 0) pe_int (fun _ _ => rfl)) pe_int) (pe_op op_mul (pe_op op_modN (pe_callTy call_int1 (by rfl) T.b_int (by decide +kernel) (pa_cons (pv 2) pa_nil)) pe_int) pe_int)) pe_int) pa_nil)) pe_int) (pg_sub (pv 0) pe_int set_list))))))) pss_nil)
  (pss_cons (ps_if (pt_cmpR op_gt (pe_ix ix_list (pv 0) pe_int (fun _ _ => rfl)) pe_int (nomark _)) (pss_cons (ps_set (i := 3) sc__law_take.nd rfl (by first | exact Or.inl rfl | exact Or.inr rfl) (pe_op op_modN (pe_callTy call_int1 (by rfl) T.b_int (by decide +kernel) (pa_cons (pe_ix ix_list (pv 0) pe_int (fun _ _ => rfl)) pa_nil)) (pv 1)))
  (pss_cons (ps_asg (pe_op op_fdivN (pe_ix ix_list (pv 0) pe_int (fun _ _ => rfl)) (pv 1)) (pg_sub (pv 0) pe_int set_list))
  (pss_one (ps_ret (pv 3))))) pss_nil)
  (pss_cons (ps_set (i := 4) sc__law_take.nd rfl (by first | exact Or.inl rfl | exact Or.inr rfl) (pe_ix ix_list (pv 0) pe_int (fun _ _ => rfl)))
  (pss_cons (ps_asg (pe_op op_modN (pe_callTy call_int1 (by rfl) T.b_int (by decide +kernel) (pa_cons (pe_op op_add (pe_op op_add (pe_op op_mul (pv 4) (pv 4)) (pe_op op_mul (pv 4) pe_int)) pe_int) pa_nil)) pe_int) (pg_sub (pv 0) pe_int set_list))
  (pss_one (ps_ret (pe_op op_modN (pe_callTy call_int1 (by rfl) T.b_int (by decide +kernel) (pa_cons (pe_op op_add (pe_op op_fdivN (pe_ix ix_list (pv 0) pe_int (fun _ _ => rfl)) pe_int) (pe_op op_mul (pe_op op_modN (pe_callTy call_int1 (by rfl) T.b_int (by decide +kernel) (pa_cons (pe_ix ix_list (pv 0) pe_int (fun _ _ => rfl)) pa_nil)) pe_int) pe_int)) pa_nil)) (pv 1)))))))), ?_⟩
    obtain ⟨ns, i, c, s, hp, hl, hlp, hi, hc, hs, hs2, hn⟩ := id hF
    refine ⟨fun σ' H' => (∃ x, σ' = [some (.ref p), some (.int m), x, none, none]) ∧ Mv p l H H', ?_, ?_⟩
    · have skip : ∀ x, (∃ y, [some (V.ref p), some (V.int m), x, none, none] = [some (V.ref p), some (V.int m), y, none, none]) ∧ Mv p l H H := fun x => ⟨⟨x, rfl⟩, Mv.refl hF⟩
      refine ⟨_, rfl, _, _, _, _, rfl, rfl, SqL.of hp, rfl, rfl, _, rfl, ?_⟩
      refine ite2 (fun hc0 => ?_) (fun _ => iteF (skip none))
      refine ⟨_, rfl, _, _, _, _, rfl, rfl, SqL.of hp, rfl, ⟨_, rfl, _, _, _, _, rfl, rfl, SqL.of hp, rfl, .ref l, _, rfl, .inl ⟨_, SqL.of hl, rfl⟩, ?_⟩⟩
      refine ⟨_, _, rfl, rfl, _, rfl, ?_⟩
      refine ite2 (fun hlt => ?_) (fun _ => skip none)
      have hlt2 : i < ((ns.map V.int).length : Int) := of_decide_eq_true hlt
      rw [List.length_map] at hlt2
      obtain ⟨z, hz⟩ : ∃ z, ns[i.toNat]? = some z := ⟨ns[i.toNat]'(by omega), List.getElem?_eq_getElem (by omega)⟩
      have hat : atI (ns.map V.int) i = some (.int z) := by
        have e : i = (i.toNat : Int) := by omega
        rw [e]
        exact atI_nat (by rw [List.getElem?_map, hz]; rfl)
      refine ⟨_, rfl, _, _, _, _, rfl, rfl, SqL.of hp, rfl, _, rfl, _, _, _, _, rfl, rfl, SqL.of hp, rfl, .inl ⟨l, _, _, _, rfl, rfl, SqL.of hl, hat, ?_⟩⟩
      -- feed[1] = feed[1] + 1
      refine ⟨_, rfl, _, _, _, _, rfl, rfl, SqL.of hp, rfl, _, _, rfl, rfl, _, rfl, p, _, 1, 1, rfl, rfl, hp, rfl, ?_⟩
      have hm1 : Mv p l H (upd H p (.lst [.ref l, .int (i + 1), .int c, .int s])) := Mv.put hl hlp (by omega) hc hs hs2 hn
      refine ⟨_, rfl, _, _, rfl, rfl, ⟨by decide, by decide, by decide⟩, _, _, rfl, rfl, _, rfl, ?_⟩
      refine ite2 (fun hz1 => ?_) (fun _ => ?_)
      · have hz2 : (10 : Int) ^ 18 ≤ z := of_decide_eq_true hz1
        refine ⟨_, rfl, _, rfl, p, _, 2, 2, rfl, rfl, upd_same, rfl, ⟨_, rfl⟩, ?_⟩
        have hz3 : (0 : Int) ≤ z := Int.le_trans (by decide) hz2
        rw [upd_upd]
        exact Mv.put hl hlp (by omega) hz3 hs hs2 hn
      · refine ⟨_, rfl, _, _, _, _, rfl, rfl, SqL.of upd_same, rfl, _, _, rfl, rfl, .inl ⟨by omega, by omega⟩, ?_⟩
        refine ⟨_, rfl, .inl ⟨_, rfl, ?_⟩⟩
        refine ⟨_, _, rfl, rfl, (show (2147483399 : Int) ≠ 0 by decide), _, _, rfl, rfl, .inr ⟨by decide, by decide⟩, _, _, rfl, rfl, _, _, rfl, rfl, .inl ⟨_, rfl, ?_⟩⟩
        refine ⟨_, _, rfl, rfl, (show (2147483647 : Int) ≠ 0 by decide), _, rfl, p, _, 3, 3, rfl, rfl, upd_same, rfl, ⟨_, rfl⟩, ?_⟩
        rw [upd_upd]
        exact Mv.put hl hlp (by omega) hc (mod_lt (by decide)).1 (mod_lt (by decide)).2 hn
    · rintro σ' H' ⟨⟨x, rfl⟩, hm⟩
      obtain ⟨ns, i, c, s, hp, hl, hlp, hi, hc, hs, hs2, hn⟩ := id hm.2
      refine ⟨_, rfl, _, _, _, _, rfl, rfl, SqL.of hp, rfl, _, _, rfl, rfl, _, rfl, ?_⟩
      refine ite2 (fun hc1 => ?_) (fun _ => ?_)
      · have hc2 : (0 : Int) < c := of_decide_eq_true hc1
        refine ⟨_, rfl, _, _, _, _, rfl, rfl, SqL.of hp, rfl, .inl ⟨_, rfl, _, rfl, _, _, rfl, rfl, by omega, ?_⟩⟩
        refine ⟨_, rfl, _, _, _, _, rfl, rfl, SqL.of hp, rfl, _, rfl, _, _, rfl, rfl, ⟨by omega, by omega⟩, _, rfl, p, _, 2, 2, rfl, rfl, hp, rfl, ?_⟩
        refine ⟨_, rfl, ?_⟩
        refine k _ _ (mod_lt m0).1 (mod_lt m0).2 (hm.trans (Mv.put hl hlp hi ?_ hs hs2 hn))
        exact Int.fdiv_nonneg hc (by omega)
      · refine ⟨_, rfl, _, _, _, _, rfl, rfl, SqL.of hp, rfl, ?_⟩
        refine ⟨_, rfl, _, rfl, _, _, rfl, rfl, .inl ⟨by omega, by omega⟩, _, rfl, _, _, rfl, rfl, .inl ⟨by omega, by omega⟩, _, _, rfl, rfl, _, _, rfl, rfl, .inl ⟨_, rfl, ?_⟩⟩
        refine ⟨_, _, rfl, rfl, (show (2147483647 : Int) ≠ 0 by decide), _, rfl, p, _, 3, 3, rfl, rfl, hp, rfl, ?_⟩
        have hm2 := hm.trans (Mv.put hl hlp hi hc (mod_lt (a := s * s + s * 16807 + 1299709) (b := 2147483647) (by decide)).1 (mod_lt (by decide)).2 hn)
        refine ⟨_, rfl, _, _, _, _, rfl, rfl, SqL.of upd_same, rfl, _, _, rfl, rfl, ⟨by decide, by decide⟩, ?_⟩
        refine ⟨_, rfl, _, _, _, _, rfl, rfl, SqL.of upd_same, rfl, .inl ⟨_, rfl, _, _, rfl, rfl, (show (6469 : Int) ≠ 0 by decide), _, _, rfl, rfl, .inr ⟨by decide, by decide⟩, _, _, rfl, rfl, .inl ⟨_, rfl, _, rfl, _, _, rfl, rfl, by omega, ?_⟩⟩⟩
        exact k _ _ (mod_lt m0).1 (mod_lt m0).2 hm2
theorem sc__law_of : FnScope ["_law_feed_here", "_law_some"] ["_law_feed_here", "_law_some"] (defScope s__law_of) := ⟨rfl, rfl, rfl, by decide +kernel, rfl, by decide +kernel, by decide +kernel⟩
theorem c__law_of_ok (D : Df K mg "_law_of" s__law_of) (T : Txt mg) (c__law_take : Cl P w K mg base CX0 1 "_law_take" spTake []) : Cl P w K mg base CX0 2 "_law_of" (spOf K) [] := by
  refine cal_mk D sc__law_of (fun _ _ _ _ _ _ us hl => match us, hl with | [_, _], _ => rfl) (fun vs H Q E h => ?_) (fun f cdv A outer s H vs Q E hr h => ?_)
  · obtain ⟨a, l, m, rfl, _⟩ := h; rfl
  · obtain ⟨p, l, v, rfl, hF, h⟩ := h
    refine ⟨_, (pss_one (ps_ret (pe_ix ix_seq (pv 1) (pe_c c__law_take hr (by decide) (by rfl) (pa_cons (pv 0) (pa_cons (pe_callB call_len (by rfl) T.b_len (by decide +kernel) (pa_cons (pv 1) pa_nil)) pa_nil))) (fun _ _ => rfl)))), ?_⟩
    rcases h with ⟨a, xs, rfl, hS, h0, h1, k⟩ | ⟨z, rfl, h0, h1, k⟩
    · have hl : xs.length ≤ sizeLine := Nat.le_trans (Nat.le_of_lt h1) (by decide)
      have hS' : SqL K H a xs ∨ SqT K H a xs := hS.elim (fun h => .inl (Same.seq (off_same H [p]) h)) (fun h => .inr (Same.seqTT (off_same H [p]) h))
      refine ⟨_, rfl, _, rfl, _, rfl, .ref a, xs.length, rfl, ?_, ?_⟩
      · exact hS'.elim (fun h => .inl ⟨_, h, rfl⟩) (fun h => .inr ⟨_, h, rfl⟩)
      · refine ⟨p, l, _, rfl, hF, by omega, by omega, fun r H' r0 r1 hm => ?_⟩
        obtain ⟨x, hx⟩ : ∃ x, xs[r.toNat]? = some x := ⟨xs[r.toNat]'(by omega), List.getElem?_eq_getElem (by omega)⟩
        have hat : atI xs r = some x := by
          have e : r = (r.toNat : Int) := by omega
          rw [e]
          exact atI_nat hx
        have kk := k x H' (List.mem_of_getElem? hx) hm
        rcases hS with h | h
        · exact .inl ⟨a, xs, r, x, rfl, rfl, Same.seq (off_same H' [p]) (Same.seq (hm.off (List.mem_singleton.mpr rfl)) h), hat, kk⟩
        · exact .inr (.inl ⟨a, xs, r, x, rfl, rfl, Same.seqTT (off_same H' [p]) (Same.seqTT (hm.off (List.mem_singleton.mpr rfl)) h), hat, kk⟩)
    · have hl : z.length ≤ sizeLine := Nat.le_trans (Nat.le_of_lt h1) (by decide)
      refine ⟨_, rfl, _, rfl, _, rfl, .str z, z.length, rfl, ⟨hl, rfl⟩, ?_⟩
      refine ⟨p, l, _, rfl, hF, by omega, by omega, fun r H' r0 r1 hm => ?_⟩
      have hz : z.cps.toList.length = z.length := by simp [Str.length]
      obtain ⟨x, hx⟩ : ∃ x, z.cps.toList[r.toNat]? = some x := ⟨z.cps.toList[r.toNat]'(by omega), List.getElem?_eq_getElem (by omega)⟩
      have hat : atI z.cps.toList r = some x := by
        have e : r = (r.toNat : Int) := by omega
        rw [e]
        exact atI_nat hx
      exact .inr (.inr ⟨z, r, x, rfl, rfl, hl, hat, k x H' (List.mem_of_getElem? hx) hm⟩)
theorem cal_false {x : Str} {st : Stmt} {ps : List Str} (D : Df K mg x st)
    (hb : ∀ (kV doc pm : Value) (an : Option Addr) (cdv ct : Value) (us : List Value), us.length = ps.length → bindArgs (PySem.W.fnOf x x (defArgs st) (defBody st) (defScope st) .none kV doc pm an cdv ct) ⟨us, []⟩ = pure (ps.zip us)) :
    Cl P w K mg base CX0 0 x (fun _ _ _ _ => False) [] := by
  obtain ⟨f, fd, F, hm⟩ := D.ex
  exact ⟨f, fd, ps, [], ⟨fun _ _ _ _ h => h.elim, fun _ _ _ _ _ _ _ _ _ _ _ _ _ h => h.elim⟩, hm, F.kp, F.binds hb, .nil⟩
theorem sc__law_same : FnScope ["_law_found", "_law_due", "_law_k"] ["_law_found", "_law_due"] (defScope s__law_same) := ⟨rfl, rfl, rfl, by decide +kernel, rfl, by decide +kernel, by decide +kernel⟩
theorem c__law_same_ok (D : Df K mg "_law_same" s__law_same) (T : Txt mg) : ∀ n, Cl P w K mg base CX0 n "_law_same" (spSame K n) [] := by
  intro n
  induction n with
  | zero => exact cal_false (ps := ["_law_found", "_law_due"]) D fun _ _ _ _ _ _ us hl => match us, hl with | [_, _], _ => rfl
  | succ n c__law_same =>
  refine cal_mk D sc__law_same (fun _ _ _ _ _ _ us hl => match us, hl with | [_, _], _ => rfl) (fun vs H Q E h => ?_) (fun f cdv A outer s H vs Q E hr h => ?_)
  · obtain ⟨a, b, d, rfl, _⟩ := h; rfl
  · obtain ⟨a, b, d, rfl, ha, hb, hd, k⟩ := h
    refine ⟨_, (pss_cons (ps_if (PW.pt (pw_or (pt_cmpR op_isN (pv 1) pe_non (nomark _)) (pw_or1 (pt_cmpR op_isN (pv 0) pe_non (nomark _))))) (pss_one (ps_ret (pe_and (pe_cmpR op_isN (pv 0) pe_non (nomark _)) (pe_one (pe_cmpR op_isN (pv 1) pe_non (nomark _)))))) pss_nil)
  (pss_cons (ps_if (pt_val (pe_callB call_isiT (by rfl) T.b_isinstance (by decide +kernel) (pa_cons (pv 1) (pa_cons (pe_tup (pa_cons (pe_bltn (v := .ty "list") (by rfl) T.b_list (by decide +kernel) rfl) (pa_cons (pe_bltn (v := .ty "tuple") (by rfl) T.b_tuple (by decide +kernel) rfl) pa_nil))) pa_nil)))) (pss_cons (ps_if (pt_cmpR op_ne (pe_callB call_isi (by rfl) T.b_isinstance (by decide +kernel) (pa_cons (pv 1) (pa_cons (pe_bltn (v := .ty "list") (by rfl) T.b_list (by decide +kernel) rfl) pa_nil))) (pe_callB call_isi (by rfl) T.b_isinstance (by decide +kernel) (pa_cons (pv 0) (pa_cons (pe_bltn (v := .ty "list") (by rfl) T.b_list (by decide +kernel) rfl) pa_nil))) (nomark _)) (pss_one (ps_ret pe_bl)) pss_nil)
  (pss_cons (ps_if (pt_cmpR op_ne (pe_callB call_isi (by rfl) T.b_isinstance (by decide +kernel) (pa_cons (pv 1) (pa_cons (pe_bltn (v := .ty "tuple") (by rfl) T.b_tuple (by decide +kernel) rfl) pa_nil))) (pe_callB call_isi (by rfl) T.b_isinstance (by decide +kernel) (pa_cons (pv 0) (pa_cons (pe_bltn (v := .ty "tuple") (by rfl) T.b_tuple (by decide +kernel) rfl) pa_nil))) (nomark _)) (pss_one (ps_ret pe_bl)) pss_nil)
  (pss_cons (ps_if (pt_cmpR op_ne (pe_callB call_len (by rfl) T.b_len (by decide +kernel) (pa_cons (pv 0) pa_nil)) (pe_callB call_len (by rfl) T.b_len (by decide +kernel) (pa_cons (pv 1) pa_nil)) (nomark _)) (pss_one (ps_ret pe_bl)) pss_nil)
  (pss_one (ps_ret (pe_callB (cr_all rfl) (by rfl) T.b_all (by decide +kernel) (pa_cons (pe_lc (own := [("_law_k", 2)]) (g := gName 2) (tt := tYes) (by rfl) sc__law_same.nd (pi_range1 (by rfl) T.b_range (pa_cons (pe_callB call_len (by rfl) T.b_len (by decide +kernel) (pa_cons (pv 1) pa_nil)) pa_nil)) (blkOk_by (N := ["_law_found", "_law_due", "_law_k"]) (sc := defScope s__law_same) (by decide +kernel)) (fun _ _ _ _ _ => (pg_name (i := 2) sc__law_same.nd rfl (Or.inl rfl))) (fun _ _ _ _ _ => pts_nil) (fun _ _ _ _ _ => (pe_c c__law_same hr (Nat.le_refl _) (by rfl) (pa_cons (pe_ix (r := rIx K) ix_seq (pv 0) (pv 2) (fun _ _ => rfl)) (pa_cons (pe_ix (r := rIx K) ix_seq (pv 1) (pv 2) (fun _ _ => rfl)) pa_nil))))) pa_nil))))))) pss_nil)
  (pss_cons (ps_if (pt_val (pe_callB call_isiT (by rfl) T.b_isinstance (by decide +kernel) (pa_cons (pv 0) (pa_cons (pe_tup (pa_cons (pe_bltn (v := .ty "list") (by rfl) T.b_list (by decide +kernel) rfl) (pa_cons (pe_bltn (v := .ty "tuple") (by rfl) T.b_tuple (by decide +kernel) rfl) pa_nil))) pa_nil)))) (pss_one (ps_ret pe_bl)) pss_nil)
  (pss_cons (ps_if (pt_cmpR op_ne (pe_callB call_isi (by rfl) T.b_isinstance (by decide +kernel) (pa_cons (pv 0) (pa_cons (pe_bltn (v := .ty "bool") (by rfl) T.b_bool (by decide +kernel) rfl) pa_nil))) (pe_callB call_isi (by rfl) T.b_isinstance (by decide +kernel) (pa_cons (pv 1) (pa_cons (pe_bltn (v := .ty "bool") (by rfl) T.b_bool (by decide +kernel) rfl) pa_nil))) (nomark _)) (pss_one (ps_ret pe_bl)) pss_nil)
  (pss_one (ps_ret (pe_and (pe_cmpR op_eq (pe_callB call_isi (by rfl) T.b_isinstance (by decide +kernel) (pa_cons (pv 0) (pa_cons (pe_bltn (v := .ty "str") (by rfl) T.b_str (by decide +kernel) rfl) pa_nil))) (pe_callB call_isi (by rfl) T.b_isinstance (by decide +kernel) (pa_cons (pv 1) (pa_cons (pe_bltn (v := .ty "str") (by rfl) T.b_str (by decide +kernel) rfl) pa_nil))) (nomark _)) (pe_one (pe_cmpR op_eq (pv 0) (pv 1) (nomark _)))))))))), ?_⟩
    have na := ha.isNonT
    have nb := hb.isNonT
    cases hz : isNon d with
    | true =>
      have ea : a = .non := of_decide_eq_true (na.trans hz)
      have eb : b = .non := of_decide_eq_true (nb.trans hz)
      subst ea eb
      exact ⟨_, rfl, rfl, _, rfl, iteT (iteT ⟨_, rfl, rfl, _, rfl, iteT ⟨_, rfl, rfl, k _ (Same.refl _)⟩⟩)⟩
    | false =>
      rw [hz] at na nb
      refine ⟨_, rfl, rfl, _, rfl, ?_⟩
      rw [nb]
      refine iteF ⟨_, rfl, rfl, _, rfl, ?_⟩
      rw [na]
      refine iteF ?_
      refine ⟨_, rfl, (by show 2 ≤ sizeLine; decide), fun t1 h1 => ?_⟩
      refine ⟨_, _, _, _, _, _, rfl, upd_same, clsLT, (hb.monoT (Same.newT h1) d).tyT, kit_lt d, ?_⟩
      refine ⟨_, rfl, ?_⟩
      have S1 : Same H (upd H t1 (.tup [.ty "list", .ty "tuple"])) := Same.newT h1
      have ha1 := ha.monoT S1 d
      have hb1 := hb.monoT S1 d
      cases hq : (isLst d || isTup d) with
      | true =>
        refine iteT ?_
        refine ⟨_, rfl, ?_⟩
        refine ⟨_, _, _, _, _, rfl, .ty _, hb1.tyT, kit_ty (kit_list d), ?_⟩
        refine ⟨_, rfl, ?_⟩
        refine ⟨_, _, _, _, _, rfl, .ty _, ha1.tyT, kit_ty (kit_list d), ?_⟩
        refine ⟨rfl, _, rfl, ?_⟩
        refine ite2 (fun h => absurd h (by simp)) (fun _ => ?_)
        refine ⟨_, rfl, ?_⟩
        refine ⟨_, _, _, _, _, rfl, .ty _, hb1.tyT, kit_ty (kit_tuple d), ?_⟩
        refine ⟨_, rfl, ?_⟩
        refine ⟨_, _, _, _, _, rfl, .ty _, ha1.tyT, kit_ty (kit_tuple d), ?_⟩
        refine ⟨rfl, _, rfl, ?_⟩
        refine ite2 (fun h => absurd h (by simp)) (fun _ => ?_)
        obtain ⟨p, q, xs, ys, ds, m, rfl, rfl, rfl, hp, hq2, hx, hy, hl, hdm⟩ := same_seqs ha1 hb1 hd hq
        have lx := hx.lengthT
        have ly := hy.lengthT
        refine ⟨_, rfl, .ref p, xs.length, rfl, len_any hp, _, rfl, .ref q, ys.length, rfl, len_any hq2, rfl, _, rfl, ?_⟩
        rw [lx, ly]
        refine ite2 (fun h => absurd h (by simp)) (fun _ => ?_)
        refine ⟨_, rfl, .ref q, ys.length, rfl, len_any hq2, _, rfl, by omega, by omega, ?_⟩
        rw [ly]
        intro D hD
        refine lc_range (lo := 0) (n := ds.length) (fun i H' => Same (upd H t1 (.tup [.ty "list", .ty "tuple"])) H' ∧ H' D = some (.lst (List.replicate i (.bl true)))) ⟨Same.newT hD, upd_same⟩ (fun i H' hi hP => ?_) (fun H' hP => ?_)
        · obtain ⟨hP1, hP2⟩ := hP
          obtain ⟨d1, hd1⟩ : ∃ d1, ds[i]? = some d1 := ⟨ds[i]'hi, List.getElem?_eq_getElem hi⟩
          obtain ⟨x, hx1, hx2⟩ := hx.getDT hd1
          obtain ⟨y, hy1, hy2⟩ := hy.getDT hd1
          refine ⟨rfl, ?_⟩
          refine ⟨_, rfl, _, rfl, ?_⟩
          refine ix_any (Same.seqs hP1 hp) hx1 (Int.zero_add _) ?_
          refine ⟨_, rfl, _, rfl, ?_⟩
          refine ix_any (Same.seqs hP1 hq2) hy1 (Int.zero_add _) ?_
          refine ⟨x, y, d1, rfl, hx2.monoT hP1 d1, hy2.monoT hP1 d1, hdm _ (List.mem_of_getElem? hd1), fun H2 S2 => ?_⟩
          refine ⟨_, S2 _ _ hP2, ?_, ?_⟩
          · rw [List.length_replicate]; exact Nat.lt_of_lt_of_le (Nat.lt_of_lt_of_le hi hl) (by decide)
          · exact ⟨Same.mutT (hP1.trans S2) hD, by rw [upd_same, List.replicate_succ']⟩
        · obtain ⟨hP1, hP2⟩ := hP
          refine ⟨D, List.replicate ds.length true, rfl, SqL.of (by rw [hP2, List.map_replicate]), ?_⟩
          have e : (List.replicate ds.length true).all id = true := by simp
          rw [e]
          exact k _ (S1.trans hP1)
      | false =>
        refine iteF ?_
        refine ⟨_, rfl, (by show 2 ≤ sizeLine; decide), fun t2 h2 => ?_⟩
        refine ⟨_, _, _, _, _, _, rfl, upd_same, clsLT, (ha1.monoT (Same.newT h2) d).tyT, kit_lt d, ?_⟩
        refine ⟨_, rfl, ?_⟩
        have S2 := S1.trans (Same.newT (o := .tup [.ty "list", .ty "tuple"]) h2)
        have ha2 := ha.monoT S2 d
        have hb2 := hb.monoT S2 d
        rw [hq]
        refine iteF ?_
        refine ⟨_, rfl, ?_⟩
        refine ⟨_, _, _, _, _, rfl, .ty _, ha2.tyT, kit_ty (kit_bool d), ?_⟩
        refine ⟨_, rfl, ?_⟩
        refine ⟨_, _, _, _, _, rfl, .ty _, hb2.tyT, kit_ty (kit_bool d), ?_⟩
        refine ⟨rfl, _, rfl, ?_⟩
        refine ite2 (fun h => absurd h (by simp)) (fun _ => ?_)
        refine ⟨_, rfl, ?_⟩
        refine ⟨_, _, _, _, _, rfl, .ty _, ha2.tyT, kit_ty (kit_str d), ?_⟩
        refine ⟨_, rfl, ?_⟩
        refine ⟨_, _, _, _, _, rfl, .ty _, hb2.tyT, kit_ty (kit_str d), ?_⟩
        refine ⟨rfl, _, rfl, ?_⟩
        refine ite2 (fun _ => ?_) (fun h => absurd (decide_eq_true rfl) h)
        have e : a = b ∧ scal a b = true := by
          cases d with
          | none => cases ha; cases hb; exact ⟨rfl, rfl⟩
          | bool _ => cases ha; cases hb; exact ⟨rfl, rfl⟩
          | int _ => cases ha; cases hb; exact ⟨rfl, rfl⟩
          | str _ => cases ha; cases hb; exact ⟨rfl, rfl⟩
          | list _ => cases hq
          | tuple _ => cases hq
          | dict _ => cases ha
        refine ⟨_, rfl, _, rfl, e.2, ?_⟩
        rw [decide_eq_true e.1]
        exact k _ S2
end
end Toy
namespace Toy
open PySem L2 Evl
/-! ### the law -/
def spLaw (K : PySem.W.Frag) : Sp := fun vs H Q _ => ∃ (a : Addr) (ns : List Int), vs = [.ref a] ∧ SqL K H a (ns.map V.int) ∧ ns.length ≤ 63 ∧ ∀ H', Q (.bl true) H'
def oddS : List Str := ["", " ", "A", "a b", "a=b", "<any>", "-", "--", "---", "007", "0", "00", "-a1", "-aaaaaaa", "-abcdef", "aaaaaaaaa", "a\n"]
def oddV (t1 t2 : Addr) : List V := [.non, .bl true, .int 7, .ref t1, .ref t2] ++ oddS.map V.str
def oddD : List PyData := [.none, .bool true, .int 7, .tuple [.str "a"], .list [.str "a"]] ++ oddS.map PyData.str
theorem sgn_eq : abc_ ++ fig_ ++ "-" = sgn_ := by decide +kernel
def tailD : PyData → Str | .str z => tailS z | _ => ""
def dash1 : PyData → Bool | .str z => decide (headS z = "-") && (decide ((1 : Int) ≤ (((tailS z).length : Nat) : Int)) && decide ((((tailS z).length : Nat) : Int) ≤ 6)) | _ => false
def dig1 : PyData → Bool | .str z => plainS z && allIn z fig_ | _ => false
theorem num_eq (z : Str) : ((plainS z && allIn z fig_) && (decide (z = "0") || !decide (headS z = "0"))) = numS z := by
  unfold numS plainS
  cases hw : wordS z with
  | false => rfl
  | true =>
    cases ha : allIn z fig_ with
    | false => rw [Bool.and_false, Bool.false_and]; rfl
    | true =>
      obtain ⟨c, hc1, hc2⟩ := head_at (wordS_pos hw)
      have hc : c ∈ z.cps.toList := by
        obtain ⟨j, _, h2, _⟩ := atI_get hc1
        exact List.mem_of_getElem? h2
      have hf := of_decide_eq_true (List.all_eq_true.mp ha c hc)
      have hne : decide (headS z = "-") = false := by
        rw [hc2]
        refine decide_eq_false fun e => ?_
        have e2 : c = 45 := by
          have e3 := congrArg (fun x : Str => x.cps.toList) e
          exact (List.cons.inj (show [c] = [45] from e3)).1
        rw [e2] at hf
        exact absurd hf (by decide +kernel)
      rw [hne]; rfl
theorem oddOk : oddD.all (dok 3) = true := by decide +kernel
theorem signsL : ([.str abc_, .str fig_, .str (abc_ ++ fig_ ++ "-"), .str "-a", .str "0-1", .str "ab.A"] : List V).all (fun x => match x with | .str gs => decide (0 < gs.length) && decide (gs.length < 1000) | _ => false) = true := by decide +kernel
theorem dashL : ([.str "", .str "", .str "-"] : List V).all (fun x => match x with | .str gs => decide (gs.length ≤ 1) | _ => false) = true := by decide +kernel
theorem sum_ones : ∀ cs : List Nat, (cs.map ((fun x => Str.length x) ∘ fun c => (⟨#[c]⟩ : Str))).sum = cs.length
  | [] => rfl
  | c :: r => by rw [List.map_cons, List.sum_cons, sum_ones r, List.length_cons]; show 1 + r.length = r.length + 1; omega
theorem str_app_len (a b : Str) : (a ++ b).length = a.length + b.length := by
  show (a.cps ++ b.cps).size = a.cps.size + b.cps.size
  simp
section
variable {P : Program} {w : World} {K : PySem.W.Frag} {mg : Str → Option Value} {base : Heap}
-- ["_law_script", "_law_feed_here", "_law_abc", "_law_figures", "_law_odd", "_law_turn", "_law_signs", "_law_text", "_law_k", "_law_thing", "_law_is_text", "_law_fine", "_law_sign", "_law_flat", "_law_digits", "_law_letters", "_law_tail", "_law_dashed", "_law_found"]
theorem sc_law : FnScope ["_law_script", "_law_feed_here", "_law_abc", "_law_figures", "_law_odd", "_law_turn", "_law_signs", "_law_text", "_law_k", "_law_thing", "_law_is_text", "_law_fine", "_law_sign", "_law_flat", "_law_digits", "_law_letters", "_law_tail", "_law_dashed", "_law_found"] ["_law_script"] (defScope s_law) := ⟨rfl, rfl, rfl, by decide +kernel, rfl, by decide +kernel, by decide +kernel⟩
theorem o_law (D : Df K mg "law" s_law) (T : Txt mg) (c__law_feed : Cl P w K mg base CX0 1 "_law_feed" (spFeed K) []) (c__law_take : Cl P w K mg base CX0 1 "_law_take" spTake []) (c__law_of : Cl P w K mg base CX0 2 "_law_of" (spOf K) []) (c__law_same : Cl P w K mg base CX0 5 "_law_same" (spSame K 5) [])
    (c_is_word : Cl P w K mg base CX0 1 "is_word" (spPred K wordD) []) (c_is_plain : Cl P w K mg base CX0 2 "is_plain" (spPred K plainD) []) (c_is_number_word : Cl P w K mg base CX0 2 "is_number_word" (spPred K numD) []) (c_is_option_name : Cl P w K mg base CX0 2 "is_option_name" (spPred K optD) [])
    (k_is_name_value : CalN P w K mg base 1 "is_name" 0 ["value"] (fun vs zs => vs ++ zs) (spPred K nameD)) : Okd P w K mg base CX0 6 "law" s_law ["_law_script"] (spLaw K) := by
  refine ok_mk D sc_law (fun vs H Q E h => ?_) (fun f cdv A outer s H vs Q E hr h => ?_)
  · obtain ⟨a, ns, rfl, _⟩ := h; rfl
  · obtain ⟨a, ns, rfl, hS, hn, k⟩ := h
    refine ⟨_, (pss_cons (ps_set (i := 1) sc_law.nd rfl (by first | exact Or.inl rfl | exact Or.inr rfl) (pe_c c__law_feed hr (by decide) (by rfl) (pa_cons (pv 0) pa_nil)))
  (pss_cons (ps_asg (pe_tup (pa_cons pe_str (pa_cons pe_str pa_nil))) (pg_tup rfl (pgs_cons (pg_name (i := 2) sc_law.nd rfl (by first | exact Or.inl rfl | exact Or.inr rfl)) (pgs_cons (pg_name (i := 3) sc_law.nd rfl (by first | exact Or.inl rfl | exact Or.inr rfl)) pgs_nil))))
  (pss_cons (ps_set (i := 4) sc_law.nd rfl (by first | exact Or.inl rfl | exact Or.inr rfl) (pe_lst (pa_cons pe_non (pa_cons pe_bl (pa_cons pe_int (pa_cons (pe_tup (pa_cons pe_str pa_nil)) (pa_cons (pe_lst (pa_cons pe_str pa_nil)) (pa_cons pe_str (pa_cons pe_str (pa_cons pe_str (pa_cons pe_str (pa_cons pe_str (pa_cons pe_str (pa_cons pe_str (pa_cons pe_str (pa_cons pe_str (pa_cons pe_str (pa_cons pe_str (pa_cons pe_str (pa_cons pe_str (pa_cons pe_str (pa_cons pe_str (pa_cons pe_str (pa_cons pe_str pa_nil))))))))))))))))))))))))
  (pss_cons (ps_for PassesOwn.never rfl (pi_range1 (by rfl) T.b_range (pa_cons pe_int pa_nil)) (pg_name (i := 5) sc_law.nd rfl (by first | exact Or.inl rfl | exact Or.inr rfl))
  (pss_cons (ps_set (i := 6) sc_law.nd rfl (by first | exact Or.inl rfl | exact Or.inr rfl) (pe_c c__law_of hr (by decide) (by rfl) (pa_cons (pv 1) (pa_cons (pe_lst (pa_cons (pv 2) (pa_cons (pv 3) (pa_cons (pe_op op_add_str (pe_op op_add_str (pv 2) (pv 3)) pe_str) (pa_cons pe_str (pa_cons pe_str (pa_cons pe_str pa_nil))))))) pa_nil))))
  (pss_cons (ps_set (i := 7) sc_law.nd rfl (by first | exact Or.inl rfl | exact Or.inr rfl) (pe_join pe_str (pe_lc (own := [("_law_k", 8)]) (g := gName 8) (tt := tYes) (by rfl) sc_law.nd (pi_range1 (by rfl) T.b_range (pa_cons (pe_c c__law_take hr (by decide) (by rfl) (pa_cons (pv 1) (pa_cons pe_int pa_nil))) pa_nil)) (blkOk_by (N := ["_law_script", "_law_feed_here", "_law_abc", "_law_figures", "_law_odd", "_law_turn", "_law_signs", "_law_text", "_law_k", "_law_thing", "_law_is_text", "_law_fine", "_law_sign", "_law_flat", "_law_digits", "_law_letters", "_law_tail", "_law_dashed", "_law_found"]) (sc := defScope s_law) (by decide +kernel)) (fun _ _ _ _ _ => (pg_name (i := 8) sc_law.nd rfl (Or.inl rfl))) (fun _ _ _ _ _ => pts_nil) (fun _ _ _ _ _ => (pe_c c__law_of hr (by decide) (by rfl) (pa_cons (pv 1) (pa_cons (pv 6) pa_nil)))))))
  (pss_cons (ps_set (i := 7) sc_law.nd rfl (by first | exact Or.inl rfl | exact Or.inr rfl) (pe_op op_add_str (pe_c c__law_of hr (by decide) (by rfl) (pa_cons (pv 1) (pa_cons (pe_lst (pa_cons pe_str (pa_cons pe_str (pa_cons pe_str pa_nil)))) pa_nil))) (pv 7)))
  (Evl.pss_cut (ps_set (i := 9) sc_law.nd rfl (by first | exact Or.inl rfl | exact Or.inr rfl) (pe_c c__law_of hr (by decide) (by rfl) (pa_cons (pv 1) (pa_cons (pe_lst (pa_cons (pv 7) (pa_cons (pv 7) (pa_cons (pv 7) (pa_cons (pe_c c__law_of hr (by decide) (by rfl) (pa_cons (pv 1) (pa_cons (pv 4) pa_nil))) pa_nil))))) pa_nil))))
  (pss_cons (ps_set (i := 10) sc_law.nd rfl (by first | exact Or.inl rfl | exact Or.inr rfl) (pe_callB call_isi (by rfl) T.b_isinstance (by decide +kernel) (pa_cons (pv 9) (pa_cons (pe_bltn (v := .ty "str") (by rfl) T.b_str (by decide +kernel) rfl) pa_nil))))
  (pss_cons (ps_set (i := 11) sc_law.nd rfl (by first | exact Or.inl rfl | exact Or.inr rfl) (pe_and (pv 10) (pe_and (pe_chain op_le op_le pe_int (pe_callB call_len_str (by rfl) T.b_len (by decide +kernel) (pa_cons (pv 9) pa_nil)) pe_int) (pe_one (pe_callB (cr_all rfl) (by rfl) T.b_all (by decide +kernel) (pa_cons (pe_lc (own := [("_law_sign", 12)]) (g := gName 12) (tt := tYes) (by rfl) sc_law.nd (pi_str (pv 9)) (blkOk_by (N := ["_law_script", "_law_feed_here", "_law_abc", "_law_figures", "_law_odd", "_law_turn", "_law_signs", "_law_text", "_law_k", "_law_thing", "_law_is_text", "_law_fine", "_law_sign", "_law_flat", "_law_digits", "_law_letters", "_law_tail", "_law_dashed", "_law_found"]) (sc := defScope s_law) (by decide +kernel)) (fun _ _ _ _ _ => (pg_name (i := 12) sc_law.nd rfl (Or.inl rfl))) (fun _ _ _ _ _ => pts_nil) (fun _ _ _ _ _ => (pe_cmpR op_in_sign (pv 12) (pe_op op_add_str (pe_op op_add_str (pv 2) (pv 3)) pe_str) (by rfl)))) pa_nil))))))
  (pss_cons (ps_set (i := 13) sc_law.nd rfl (by first | exact Or.inl rfl | exact Or.inr rfl) (pe_and (pv 11) (pe_one (pe_cmpR op_ne (pe_slice sl_str (pv 9) po_none (po_some pe_int)) pe_str (nomark _)))))
  (pss_cons (ps_set (i := 14) sc_law.nd rfl (by first | exact Or.inl rfl | exact Or.inr rfl) (pe_and (pv 13) (pe_one (pe_callB (cr_all rfl) (by rfl) T.b_all (by decide +kernel) (pa_cons (pe_lc (own := [("_law_sign", 12)]) (g := gName 12) (tt := tYes) (by rfl) sc_law.nd (pi_str (pv 9)) (blkOk_by (N := ["_law_script", "_law_feed_here", "_law_abc", "_law_figures", "_law_odd", "_law_turn", "_law_signs", "_law_text", "_law_k", "_law_thing", "_law_is_text", "_law_fine", "_law_sign", "_law_flat", "_law_digits", "_law_letters", "_law_tail", "_law_dashed", "_law_found"]) (sc := defScope s_law) (by decide +kernel)) (fun _ _ _ _ _ => (pg_name (i := 12) sc_law.nd rfl (Or.inl rfl))) (fun _ _ _ _ _ => pts_nil) (fun _ _ _ _ _ => (pe_cmpR op_in_sign (pv 12) (pv 3) (by rfl)))) pa_nil)))))
  (pss_cons (ps_set (i := 14) sc_law.nd rfl (by first | exact Or.inl rfl | exact Or.inr rfl) (pe_and (pv 14) (pe_one (pe_or (pe_cmpR op_eq (pv 9) pe_str (nomark _)) (pe_one (pe_cmpR op_ne (pe_slice sl_str (pv 9) po_none (po_some pe_int)) pe_str (nomark _)))))))
  (pss_cons (ps_set (i := 15) sc_law.nd rfl (by first | exact Or.inl rfl | exact Or.inr rfl) (pe_and (pv 10) (pe_and (pe_chain op_le op_le pe_int (pe_callB call_len_str (by rfl) T.b_len (by decide +kernel) (pa_cons (pv 9) pa_nil)) pe_int) (pe_one (pe_callB (cr_all rfl) (by rfl) T.b_all (by decide +kernel) (pa_cons (pe_lc (own := [("_law_sign", 12)]) (g := gName 12) (tt := tYes) (by rfl) sc_law.nd (pi_str (pv 9)) (blkOk_by (N := ["_law_script", "_law_feed_here", "_law_abc", "_law_figures", "_law_odd", "_law_turn", "_law_signs", "_law_text", "_law_k", "_law_thing", "_law_is_text", "_law_fine", "_law_sign", "_law_flat", "_law_digits", "_law_letters", "_law_tail", "_law_dashed", "_law_found"]) (sc := defScope s_law) (by decide +kernel)) (fun _ _ _ _ _ => (pg_name (i := 12) sc_law.nd rfl (Or.inl rfl))) (fun _ _ _ _ _ => pts_nil) (fun _ _ _ _ _ => (pe_cmpR op_in_sign (pv 12) (pv 2) (by rfl)))) pa_nil))))))
  (pss_cons (ps_set (i := 16) sc_law.nd rfl (by first | exact Or.inl rfl | exact Or.inr rfl) (pe_ifExp (pt_val (pv 10)) (pe_slice sl_str (pv 9) (po_some pe_int) po_none) pe_str))
  (pss_cons (ps_set (i := 17) sc_law.nd rfl (by first | exact Or.inl rfl | exact Or.inr rfl) (pe_and (pv 10) (pe_and (pe_cmpR op_eq (pe_slice sl_str (pv 9) po_none (po_some pe_int)) pe_str (nomark _)) (pe_one (pe_chain op_le op_le pe_int (pe_callB call_len_str (by rfl) T.b_len (by decide +kernel) (pa_cons (pv 16) pa_nil)) pe_int)))))
  (pss_cons (ps_set (i := 17) sc_law.nd rfl (by first | exact Or.inl rfl | exact Or.inr rfl) (pe_and (pv 17) (pe_one (pe_callB (cr_all rfl) (by rfl) T.b_all (by decide +kernel) (pa_cons (pe_lc (own := [("_law_sign", 12)]) (g := gName 12) (tt := tYes) (by rfl) sc_law.nd (pi_str (pv 16)) (blkOk_by (N := ["_law_script", "_law_feed_here", "_law_abc", "_law_figures", "_law_odd", "_law_turn", "_law_signs", "_law_text", "_law_k", "_law_thing", "_law_is_text", "_law_fine", "_law_sign", "_law_flat", "_law_digits", "_law_letters", "_law_tail", "_law_dashed", "_law_found"]) (sc := defScope s_law) (by decide +kernel)) (fun _ _ _ _ _ => (pg_name (i := 12) sc_law.nd rfl (Or.inl rfl))) (fun _ _ _ _ _ => pts_nil) (fun _ _ _ _ _ => (pe_cmpR op_in_sign (pv 12) (pv 2) (by rfl)))) pa_nil)))))
  (pss_cons (ps_set (i := 18) sc_law.nd rfl (by first | exact Or.inl rfl | exact Or.inr rfl) (pe_lst (pa_cons (pe_c c_is_word hr (by decide) (by rfl) (pa_cons (pv 9) pa_nil)) (pa_cons (pe_c c_is_plain hr (by decide) (by rfl) (pa_cons (pv 9) pa_nil)) (pa_cons (pe_c c_is_number_word hr (by decide) (by rfl) (pa_cons (pv 9) pa_nil)) (pa_cons (pe_c c_is_option_name hr (by decide) (by rfl) (pa_cons (pv 9) pa_nil)) (pa_cons (pe_ck0 k_is_name_value hr (by decide) (by rfl) (pk_cons (pv 9) pk_nil)) pa_nil)))))))
  (pss_one (ps_if (pt_not (pt_val (pe_c c__law_same hr (by decide) (by rfl) (pa_cons (pv 18) (pa_cons (pe_lst (pa_cons (pv 11) (pa_cons (pv 13) (pa_cons (pv 14) (pa_cons (pv 17) (pa_cons (pv 15) pa_nil)))))) pa_nil))))) (pss_one (ps_ret pe_bl)) pss_nil)))))))))))))))))
  (pss_one (ps_ret (pe_and (pe_c c_is_word hr (by decide) (by rfl) (pa_cons pe_str pa_nil)) (pe_and (pe_not (pe_c c_is_plain hr (by decide) (by rfl) (pa_cons pe_str pa_nil))) (pe_one (pe_c c_is_number_word hr (by decide) (by rfl) (pa_cons pe_str pa_nil))))))))))), ?_⟩
    refine ⟨_, rfl, a, ns, rfl, hS, hn, fun p l H1 S1 F1 hp hl => ?_⟩
    refine ⟨by show 2 ≤ sizeLine; decide, fun t0 h0 => ?_⟩
    refine ⟨t0, _, rfl, SqT.of upd_same, rfl, _, _, rfl, _, _, rfl, rfl, ?_⟩
    generalize e0 : upd H1 t0 (.tup [.str "abcdefghijklmnopqrstuvwxyz", .str "0123456789"]) = H0 at *
    have S0 : Same H1 H0 := by rw [← e0]; exact Same.newT h0
    have F0 := F1.same S0
    refine ⟨by show 1 ≤ sizeLine; decide, fun t1 h1 => ?_⟩
    refine ⟨by show 1 ≤ sizeLine; decide, fun t2 h2 => ?_⟩
    refine ⟨by show 22 ≤ sizeLine; decide, fun m hm => ?_⟩
    generalize e2 : upd H0 t1 (.tup [.str "a"]) = H2 at *
    have S2 : Same H0 H2 := by rw [← e2]; exact Same.newT h1
    have q1 : H2 t1 = some (.tup [.str "a"]) := by rw [← e2]; exact upd_same
    generalize e3 : upd H2 t2 (.lst [.str "a"]) = H3 at *
    have S3 : Same H2 H3 := by rw [← e3]; exact Same.newT h2
    have q2 : H3 t2 = some (.lst [.str "a"]) := by rw [← e3]; exact upd_same
    generalize e4 : upd H3 m (.lst _) = H4 at *
    have S4 : Same H3 H4 := by rw [← e4]; exact Same.newT hm
    have F4 : Feed H4 p l := ((F0.same S2).same S3).same S4
    have n1 : t1 ∉ [p] := fun z => by
      rw [List.mem_singleton.mp z] at h1; exact F0.tk h1
    have n2 : t2 ∉ [p] := fun z => by
      rw [List.mem_singleton.mp z] at h2; exact (F0.same S2).tk h2
    have n3 : m ∉ [p] := fun z => by
      rw [List.mem_singleton.mp z] at hm; exact ((F0.same S2).same S3).tk hm
    have qm : SqL K (off H4 [p]) m (oddV t1 t2) := SqL.offT (by rw [← e4]; exact upd_same) n3
    have D1 : Dp K (off H4 [p]) (.ref t1) (.tuple [.str "a"]) := .tup (xs := [.str "a"]) (SqT.offT (S4 _ _ (S3 _ _ q1)) n1) (.cons (.str _) .nil)
    have D2 : Dp K (off H4 [p]) (.ref t2) (.list [.str "a"]) := .lst (xs := [.str "a"]) (SqL.offT (S4 _ _ q2) n2) (.cons (.str _) .nil)
    have Dm : DpAll K (off H4 [p]) (oddV t1 t2) oddD := .cons .non (.cons (.bl true) (.cons (.int 7) (.cons D1 (.cons D2 (DpAll.strsT oddS)))))
    have pin : p ∈ [p] := List.mem_singleton.mpr rfl
    refine ⟨20, rfl, by decide, by decide, for_range (lo := 0) (n := 20) (fun i σ' H' => (∃ x5 x6 x7 x8 x9 x10 x11 x12 x13 x14 x15 x16 x17 x18, σ' = [some (.ref a), some (.ref p), some (.str abc_), some (.str fig_), some (.ref m), x5, x6, x7, x8, x9, x10, x11, x12, x13, x14, x15, x16, x17, x18]) ∧ Mv p l H4 H')
      ⟨⟨none, none, none, none, none, none, none, none, none, none, none, none, none, none, rfl⟩, Mv.refl F4⟩ ?_ ?_⟩
    · rintro i σ' H' hi ⟨⟨x5, x6, x7, x8, x9, x10, x11, x12, x13, x14, x15, x16, x17, x18, rfl⟩, M0⟩
      -- the signs
      refine ⟨_, rfl, _, rfl, _, rfl, _, rfl, _, rfl, _, _, rfl, rfl, by decide +kernel, _, _, rfl, rfl, by decide +kernel, by show 6 ≤ sizeLine; decide, fun g hg => ?_⟩
      have ng : g ∉ [p] := fun z => by
        rw [List.mem_singleton.mp z] at hg; exact M0.2.tk hg
      refine ⟨p, l, .ref g, rfl, (M0.new hg).2, .inl ⟨g, _, rfl, .inl (SqL.offT upd_same ng), by show 0 < 6; decide, by show 6 < 1000; decide, fun x H5 hx M5 => ?_⟩⟩
      have M5' := (M0.new hg).trans M5
      obtain ⟨gs, rfl, hg1, hg2⟩ : ∃ gs, x = .str gs ∧ 0 < gs.length ∧ gs.length < 1000 := by
        have e := List.all_eq_true.mp signsL _ hx
        cases x with
        | str gs =>
          have e' : (decide (0 < gs.length) && decide (gs.length < 1000)) = true := e
          rw [Bool.and_eq_true] at e'
          exact ⟨gs, rfl, of_decide_eq_true e'.1, of_decide_eq_true e'.2⟩
        | _ => cases e
      -- the text
      refine ⟨⟨_, rfl⟩, _, rfl, p, l, 11, rfl, M5'.2, by decide, by decide, fun r H6 r0 r1 M6 => ?_⟩
      have M6' := M5'.trans M6
      refine ⟨r, rfl, by omega, by omega, fun Dl hDl => ?_⟩
      have nD1 : Dl ≠ p := fun z => by rw [z] at hDl; exact M6'.2.tk hDl
      have nD2 : Dl ≠ l := fun z => by rw [z] at hDl; exact M6'.2.tkl hDl
      refine lc_range (lo := 0) (n := r.toNat) (fun i H' => Mv p l H6 H' ∧ ∃ cs : List Nat, cs.length = i ∧ H' Dl = some (.lst ((cs.map fun c => (⟨#[c]⟩ : Str)).map V.str))) ⟨(Mv.refl M6'.2).new hDl, [], rfl, upd_same⟩ (fun i H' hi hP => ?_) (fun H' hP => ?_)
      · obtain ⟨hP1, cs, hP2, hP3⟩ := hP
        refine ⟨rfl, ?_⟩
        refine ⟨_, rfl, _, rfl, p, l, .str gs, rfl, hP1.2, .inr ⟨gs, rfl, hg1, hg2, fun c H8 hc M8 => ?_⟩⟩
        refine ⟨_, M8.1 _ _ nD1 hP3, ?_, Mv.mut (hP1.trans M8) hDl nD1 nD2, cs ++ [c], by rw [List.length_append, hP2]; rfl, by rw [upd_same, List.map_append, List.map_append]; rfl⟩
        rw [List.length_map, List.length_map, hP2]
        have : sizeLine = 16777216 := sizeLine_eq
        omega
      · obtain ⟨hP1, cs, hP2, hP3⟩ := hP
        have M7 := M6'.trans hP1
        refine ⟨"", Dl, cs.map fun c => (⟨#[c]⟩ : Str), rfl, rfl, .inl (SqL.of hP3), ?_, ?_⟩
        · rw [List.map_map, List.length_map]
          have e : (cs.map ((fun x => Str.length x) ∘ fun c => (⟨#[c]⟩ : Str))).sum = cs.length := sum_ones cs
          rw [e]
          have e2 : cs.length * ("" : Str).length = 0 := by show cs.length * 0 = 0; omega
          omega
        · rw [join_signs]
          -- the sign ahead
          refine ⟨_, rfl, by show 3 ≤ sizeLine; decide, fun g2 hg2' => ?_⟩
          have ng2 : g2 ∉ [p] := fun z => by
            rw [List.mem_singleton.mp z] at hg2'; exact M7.2.tk hg2'
          refine ⟨p, l, .ref g2, rfl, (M7.new hg2').2, .inl ⟨g2, _, rfl, .inl (SqL.offT upd_same ng2), by show 0 < 3; decide, by show 3 < 1000; decide, fun x H9 hx M9 => ?_⟩⟩
          have M9' := (M7.new hg2').trans M9
          obtain ⟨pr, rfl, hpr⟩ : ∃ pr, x = .str pr ∧ pr.length ≤ 1 := by
            have e := List.all_eq_true.mp dashL _ hx
            cases x with
            | str gs => exact ⟨gs, rfl, of_decide_eq_true e⟩
            | _ => cases e
          have hcs : (SX.S cs).length = cs.length := SX.S_len cs
          have htl : (pr ++ SX.S cs).length ≤ 100000 := by
            rw [str_app_len, hcs]; omega
          refine ⟨_, rfl, pr, SX.S cs, rfl, rfl, sz_of (by omega), ?_⟩
          generalize pr ++ SX.S cs = tx at *
          -- the thing
          refine ⟨fun σ' H' => ∃ v d, (∃ x5 x6 x7 x8 x10 x11 x12 x13 x14 x15 x16 x17 x18, σ' = [some (.ref a), some (.ref p), some (.str abc_), some (.str fig_), some (.ref m), x5, x6, x7, x8, some v, x10, x11, x12, x13, x14, x15, x16, x17, x18]) ∧ Mv p l H4 H' ∧ Dp K H' v d ∧ dok 3 d = true, ?_, ?_⟩
          refine ⟨_, rfl, _, rfl, _, rfl, _, rfl, _, rfl, _, rfl, p, l, .ref m, rfl, M9'.2, .inl ⟨m, _, rfl, .inl (Same.seq (M9'.off pin) qm), by show 0 < 22; decide, by show 22 < 1000; decide, fun y H10 hy M10 => ?_⟩⟩
          have M10' := M9'.trans M10
          obtain ⟨dy, hdy, hdp⟩ := Dm.memT hy
          have hok : dok 3 dy = true := List.all_eq_true.mp oddOk _ hdy
          have Dy : Dp K (off H10 [p]) y dy := hdp.mv M10' pin
          refine ⟨by show 4 ≤ sizeLine; decide, fun g3 hg3 => ?_⟩
          have ng3 : g3 ∉ [p] := fun z => by
            rw [List.mem_singleton.mp z] at hg3; exact M10'.2.tk hg3
          refine ⟨p, l, .ref g3, rfl, (M10'.new hg3).2, .inl ⟨g3, _, rfl, .inl (SqL.offT upd_same ng3), by show 0 < 4; decide, by show 4 < 1000; decide, fun x H11 hx M11 => ?_⟩⟩
          have M11' := (M10'.new hg3).trans M11
          have hth : ∃ d, Dp K H11 x d ∧ dok 3 d = true := by
            have ht : Dp K H11 (.str tx) (.str tx) := .str tx
            rcases List.mem_cons.mp hx with rfl | hx
            · exact ⟨_, ht, decide_eq_true htl⟩
            rcases List.mem_cons.mp hx with rfl | hx
            · exact ⟨_, ht, decide_eq_true htl⟩
            rcases List.mem_cons.mp hx with rfl | hx
            · exact ⟨_, ht, decide_eq_true htl⟩
            rcases List.mem_cons.mp hx with rfl | hx
            · exact ⟨dy, ((Dy.monoT (Same.offT [p] (Same.newT hg3)) dy).mv M11 pin).on, hok⟩
            · cases hx
          obtain ⟨d, hd1, hd2⟩ := hth
          exact ⟨x, d, ⟨_, _, _, _, _, _, _, _, _, _, _, _, _, rfl⟩, M11', hd1, hd2⟩
          rintro σ' H' ⟨v, d, ⟨x5, x6, x7, x8, x10, x11, x12, x13, x14, x15, x16, x17, x18, rfl⟩, M12, hv, hd⟩
          refine q_asg (ev_isi (ev_var rfl) hv (kit_str d)) (fun HA SA => ?_)
          have hvA := hv.monoT SA d
          have strOf : ∀ {b : Bool} {g : Str → Bool} (_ : (match d with | .str z => g z | _ => false) = true), ∃ z, d = .str z := by
            intro b g hg
            cases d <;> first | exact ⟨_, rfl⟩ | cases hg
          refine q_asg (v := .bl (wordD d)) ?_ (fun HB SB => ?_)
          · refine ev_is (ev_andV (a := isStr d) (b := wordD d) (ev_var rfl) fun hs => ?_) (by cases d <;> rfl)
            obtain ⟨z, rfl⟩ := str_of hs
            cases hv
            have hz := dok_str hd
            refine ev_andV (ev_chain ev_c (ev_lenS (ev_var rfl) hz) rv_I0 (fun _ => ev_c) (fun _ => rv_I0)) fun _ => ?_
            rw [← sgn_eq]
            exact ev_allInE (ev_var rfl) hz rfl (fun _ => rfl) fun c H1 hc S => ev_op (ev_var rfl) (ev_op (ev_op (ev_var rfl) (ev_var rfl) (rv_addS (by decide +kernel))) ev_c (rv_addS (by decide +kernel))) rv_inSign
          refine q_asg (v := .bl (plainD d)) ?_ (fun HC SC => ?_)
          · refine ev_is (ev_andV (a := wordD d) (b := plainD d) (ev_var rfl) fun hs => ?_) (by cases d <;> first | rfl | (show (V.bl (wordS _ && (wordS _ && _))) = V.bl (wordS _ && _); rw [← Bool.and_assoc, Bool.and_self]))
            obtain ⟨z, rfl⟩ : ∃ z, d = .str z := by cases d <;> first | exact ⟨_, rfl⟩ | cases hs
            cases hv
            have hz := dok_str hd
            refine ev_is (ev_op (ev_slS (ev_var rfl) hz eo_none (eo_some ev_c)) ev_c rv_neS) ?_
            show V.bl (!decide (headS z = "-")) = V.bl (wordS z && !decide (headS z = "-"))
            rw [show wordS z = true from hs]; rfl
          refine q_asg (v := .bl (dig1 d)) ?_ (fun HE SE => ?_)
          · refine ev_is (ev_andV (a := plainD d) (b := dig1 d) (ev_var rfl) fun hs => ?_) (by cases d <;> first | rfl | (show (V.bl (plainS _ && (plainS _ && _))) = V.bl (plainS _ && _); rw [← Bool.and_assoc, Bool.and_self]))
            obtain ⟨z, rfl⟩ : ∃ z, d = .str z := by cases d <;> first | exact ⟨_, rfl⟩ | cases hs
            cases hv
            have hz := dok_str hd
            refine ev_is (ev_allInE (Z := fig_) (ev_var rfl) hz rfl (fun _ => rfl) fun c H1 hc S => ev_op (ev_var rfl) (ev_var rfl) rv_inSign) ?_
            show V.bl (allIn z fig_) = V.bl (plainS z && allIn z fig_)
            rw [show plainS z = true from hs]; rfl
          refine q_asg (v := .bl (numD d)) ?_ (fun HF SF => ?_)
          · refine ev_is (ev_andV (a := dig1 d) (b := numD d) (ev_var rfl) fun hs => ?_) (by cases d <;> first | rfl | (show (V.bl ((plainS _ && allIn _ fig_) && numS _)) = V.bl (numS _); rw [← num_eq, ← Bool.and_assoc, Bool.and_self]))
            obtain ⟨z, rfl⟩ : ∃ z, d = .str z := by cases d <;> first | exact ⟨_, rfl⟩ | cases hs
            cases hv
            have hz := dok_str hd
            refine ev_is (ev_orV (ev_op (ev_var rfl) ev_c rv_eqS) (fun _ => ev_op (ev_slS (ev_var rfl) hz eo_none (eo_some ev_c)) ev_c rv_neS)) ?_
            show V.bl (decide (z = "0") || !decide (headS z = "0")) = V.bl (numS z)
            rw [← num_eq, show (plainS z && allIn z fig_) = true from hs]; rfl
          refine q_asg (v := .bl (nameD d)) ?_ (fun HG SG => ?_)
          · refine ev_is (ev_andV (a := isStr d) (b := nameD d) (ev_var rfl) fun hs => ?_) (by cases d <;> rfl)
            obtain ⟨z, rfl⟩ := str_of hs
            cases hv
            have hz := dok_str hd
            refine ev_andV (ev_chain ev_c (ev_lenS (ev_var rfl) hz) rv_I0 (fun _ => ev_c) (fun _ => rv_I0)) fun _ => ?_
            exact ev_allInE (Z := abc_) (ev_var rfl) hz rfl (fun _ => rfl) fun c H1 hc S => ev_op (ev_var rfl) (ev_var rfl) rv_inSign
          refine q_asg (v := .str (tailD d)) ?_ (fun HI SI => ?_)
          · refine ev_if (b := isStr d) (et_B (ev_var rfl)) (fun hs => ?_) (fun hs => ?_)
            · obtain ⟨z, rfl⟩ := str_of hs
              cases hv
              exact ev_slS (ev_var rfl) (dok_str hd) (eo_some ev_c) eo_none
            · refine ev_is ev_c ?_
              cases d <;> first | rfl | cases hs
          refine q_asg (v := .bl (dash1 d)) ?_ (fun HJ SJ => ?_)
          · refine ev_is (ev_andV (a := isStr d) (b := dash1 d) (ev_var rfl) fun hs => ?_) (by cases d <;> rfl)
            obtain ⟨z, rfl⟩ := str_of hs
            cases hv
            have hz := dok_str hd
            have hz2 : (tailS z).length ≤ 100000 := Nat.le_trans (cutS_length z _ _) hz
            exact ev_andV (ev_op (ev_slS (ev_var rfl) hz eo_none (eo_some ev_c)) ev_c rv_eqS) fun _ => ev_chain ev_c (ev_lenS (z := tailS z) (ev_var rfl) hz2) rv_I0 (fun _ => ev_c) (fun _ => rv_I0)
          refine q_asg (v := .bl (optD d)) ?_ (fun HK SK => ?_)
          · refine ev_is (ev_andV (a := dash1 d) (b := optD d) (ev_var rfl) fun hs => ?_) ?_
            · obtain ⟨z, rfl⟩ : ∃ z, d = .str z := by cases d <;> first | exact ⟨_, rfl⟩ | cases hs
              cases hv
              have hz2 : (tailS z).length ≤ 100000 := Nat.le_trans (cutS_length z _ _) (dok_str hd)
              refine ev_is (ev_allInE (z := tailS z) (Z := abc_) (ev_var rfl) hz2 rfl (fun _ => rfl) fun c H1 hc S => ev_op (ev_var rfl) (ev_var rfl) rv_inSign) ?_
              have hs' : (decide (headS z = "-") && (decide ((1 : Int) ≤ (((tailS z).length : Nat) : Int)) && decide ((((tailS z).length : Nat) : Int) ≤ 6))) = true := hs
              show V.bl _ = V.bl (decide (headS z = "-") && ((decide ((1 : Int) ≤ (((tailS z).length : Nat) : Int)) && decide ((((tailS z).length : Nat) : Int) ≤ 6)) && allIn (tailS z) abc_))
              rw [← Bool.and_assoc, hs']; rfl
            · cases d <;> first | rfl | skip
              rename_i z
              show V.bl ((decide (headS z = "-") && (decide ((1 : Int) ≤ (((tailS z).length : Nat) : Int)) && decide ((((tailS z).length : Nat) : Int) ≤ 6))) && (decide (headS z = "-") && ((decide ((1 : Int) ≤ (((tailS z).length : Nat) : Int)) && decide ((((tailS z).length : Nat) : Int) ≤ 6)) && allIn (tailS z) abc_))) = V.bl (decide (headS z = "-") && ((decide ((1 : Int) ≤ (((tailS z).length : Nat) : Int)) && decide ((((tailS z).length : Nat) : Int) ≤ 6)) && allIn (tailS z) abc_))
              generalize decide (headS z = "-") = b1
              generalize (decide ((1 : Int) ≤ (((tailS z).length : Nat) : Int)) && decide ((((tailS z).length : Nat) : Int) ≤ 6)) = b2
              generalize allIn (tailS z) abc_ = b3
              cases b1 <;> cases b2 <;> cases b3 <;> rfl
          have hvK := ((((((((hvA.monoT SB d).monoT SC d).monoT SE d).monoT SF d).monoT SG d).monoT SI d).monoT SJ d).monoT SK d)
          refine q_asgL (el_lst (ea_cons (ev_call (ea_cons (ev_var rfl) ea_nil) (sp_pred hvK hd)) (ea_cons (ev_call (ea_cons (ev_var rfl) ea_nil) (sp_pred hvK hd)) (ea_cons (ev_call (ea_cons (ev_var rfl) ea_nil) (sp_pred hvK hd))
            (ea_cons (ev_call (ea_cons (ev_var rfl) ea_nil) (sp_pred hvK hd)) (ea_cons (ev_callN ea_nil (ea_cons (ev_var rfl) ea_nil) rfl rfl (sp_pred hvK hd)) ea_nil))))) (by show 5 ≤ 100000; decide)) (fun q HL hq SL hL => ?_)
          refine ⟨_, rfl, _, rfl, _, rfl, _, rfl, _, rfl, _, rfl, by show 5 ≤ sizeLine; decide, fun q5 hq5 => ?_⟩
          have n5 : q ≠ q5 := ne_of_none hL hq5
          refine ⟨.ref q, .ref q5, .list [.bool (wordD d), .bool (plainD d), .bool (numD d), .bool (optD d), .bool (nameD d)], rfl,
            .lst (SqL.of (by rw [upd_ne n5]; exact hL)) (.cons (.bl _) (.cons (.bl _) (.cons (.bl _) (.cons (.bl _) (.cons (.bl _) .nil))))),
            .lst (SqL.of upd_same) (.cons (.bl _) (.cons (.bl _) (.cons (.bl _) (.cons (.bl _) (.cons (.bl _) .nil))))), rfl, fun H14 S14 => ?_⟩
          refine ⟨_, rfl, ?_⟩
          refine iteF ?_
          refine ⟨⟨_, _, _, _, _, _, _, _, _, _, _, _, _, _, rfl⟩, ?_⟩
          exact (((((((((((M12.same SA).same SB).same SC).same SE).same SF).same SG).same SI).same SJ).same SK).same SL).new hq5).same S14
    · rintro σ' H' ⟨⟨x5, x6, x7, x8, x9, x10, x11, x12, x13, x14, x15, x16, x17, x18, rfl⟩, M0⟩
      refine ⟨.str "-", .str "-", 1, rfl, .str _, rfl, fun H2' S2' => ?_⟩
      refine ⟨_, rfl, ?_⟩
      refine iteT ?_
      refine ⟨.str "--", .str "--", 1, rfl, .str _, rfl, fun H3' S3' => ?_⟩
      refine ⟨_, rfl, _, rfl, ?_⟩
      refine iteT ?_
      refine ⟨.str "99999999", .str "99999999", 1, rfl, .str _, rfl, fun H4' S4' => ?_⟩
      have e : numD (.str "99999999") = true := by decide +kernel
      rw [e]
      exact k _
end
theorem fun_uniq {K : PySem.W.Frag} {x q : Str} {st : Stmt} {f : Addr} {fd fd' : FuncData} (a : Fun K x q st f fd) (b : Fun K x q st f fd') : fd = fd' := by
  obtain ⟨_, _, _, _, _, _, _, _, _, _, l1, _⟩ := a.ex
  obtain ⟨_, _, _, _, _, _, _, _, _, _, l2, _⟩ := b.ex
  rw [l1] at l2
  injection l2 with l2
  injection l2 with _ _ l2
  injection l2
theorem law_end {P : Program} {w : World} {K : PySem.W.Frag} {mg : Str → Option Value} {x y : Str} {st : Stmt} {fa : Addr} {k : Nat} {sp : Sp} (D : Df K mg x st)
    (hb : ∀ (kV doc pm : Value) (an : Option Addr) (cdv ct : Value) (v : Value), bindArgs (PySem.W.fnOf x x (defArgs st) (defBody st) (defScope st) .none kV doc pm an cdv ct) ⟨[v], []⟩ = pure [(y, v)])
    (o : ∀ base : Heap, K.In base → base.Ns mainGlobals mg → Okd P w K mg base CX0 k x st [y] sp) (hfa : mg x = some (.ref fa)) :
    ∃ fd : FuncData, (∀ (s : Shared) (v : Value), BindsTo s fd ⟨[v], []⟩ [(y, v)]) ∧ ∀ base : Heap, K.In base → base.Ns mainGlobals mg → FnOk P w K mg base CX0 k fa fd [y] sp := by
  obtain ⟨f, fd, F, hm⟩ := D.ex
  have e := hm.symm.trans hfa
  injection e with e
  injection e with e
  subst e
  refine ⟨fd, fun s v => ?_, fun base h1 h2 => ?_⟩
  · obtain ⟨oc, od, kV, doc, pm, an, cdv, ct, osl, rfl, lk, hcd⟩ := F.ex
    exact .of_eq (hb kV doc pm an cdv ct v)
  · obtain ⟨f', fd', F', hm', ok⟩ := (o base h1 h2).ex
    have e := hm'.symm.trans hm
    injection e with e
    injection e with e
    subst e
    rw [fun_uniq F F']
    exact ok
structure Alls (K : PySem.W.Frag) (mg : Str → Option Value) : Prop where
  d_is_word : Df K mg "is_word" s_is_word
  d_is_plain : Df K mg "is_plain" s_is_plain
  d_is_number_word : Df K mg "is_number_word" s_is_number_word
  d_is_option_name : Df K mg "is_option_name" s_is_option_name
  d_is_name : Df K mg "is_name" s_is_name
  d__law_feed : Df K mg "_law_feed" s__law_feed
  d__law_take : Df K mg "_law_take" s__law_take
  d__law_of : Df K mg "_law_of" s__law_of
  d__law_same : Df K mg "_law_same" s__law_same
  d_law : Df K mg "law" s_law
  T : Txt mg
  GC : Gct mg
theorem all_mk {K : PySem.W.Frag} {h : Heap} {mg : Str → Option Value} (X : K.In h) (G : h.Ns mainGlobals mg)
    {f0 : Addr} {od0 an0 : Option Addr} {sl0 : Array (Option Value)} {oc0 kV0 dc0 pm0 cd0 ct0 : Value} (a0 : PySem.W.nsIn K mainGlobals "is_word" = some (some (.ref f0))) (l0 : K.lookup f0 = some ⟨oc0, od0, .func (PySem.W.fnOf "is_word" "is_word" (defArgs s_is_word) (defBody s_is_word) (defScope s_is_word) .none kV0 dc0 pm0 an0 cd0 ct0), sl0⟩) (c0 : PySem.W.codeIn K cd0 "is_word" = true) (k0 : PySem.W.keepIn K (.ref f0) = true)
    {f1 : Addr} {od1 an1 : Option Addr} {sl1 : Array (Option Value)} {oc1 kV1 dc1 pm1 cd1 ct1 : Value} (a1 : PySem.W.nsIn K mainGlobals "is_plain" = some (some (.ref f1))) (l1 : K.lookup f1 = some ⟨oc1, od1, .func (PySem.W.fnOf "is_plain" "is_plain" (defArgs s_is_plain) (defBody s_is_plain) (defScope s_is_plain) .none kV1 dc1 pm1 an1 cd1 ct1), sl1⟩) (c1 : PySem.W.codeIn K cd1 "is_plain" = true) (k1 : PySem.W.keepIn K (.ref f1) = true)
    {f2 : Addr} {od2 an2 : Option Addr} {sl2 : Array (Option Value)} {oc2 kV2 dc2 pm2 cd2 ct2 : Value} (a2 : PySem.W.nsIn K mainGlobals "is_number_word" = some (some (.ref f2))) (l2 : K.lookup f2 = some ⟨oc2, od2, .func (PySem.W.fnOf "is_number_word" "is_number_word" (defArgs s_is_number_word) (defBody s_is_number_word) (defScope s_is_number_word) .none kV2 dc2 pm2 an2 cd2 ct2), sl2⟩) (c2 : PySem.W.codeIn K cd2 "is_number_word" = true) (k2 : PySem.W.keepIn K (.ref f2) = true)
    {f3 : Addr} {od3 an3 : Option Addr} {sl3 : Array (Option Value)} {oc3 kV3 dc3 pm3 cd3 ct3 : Value} (a3 : PySem.W.nsIn K mainGlobals "is_option_name" = some (some (.ref f3))) (l3 : K.lookup f3 = some ⟨oc3, od3, .func (PySem.W.fnOf "is_option_name" "is_option_name" (defArgs s_is_option_name) (defBody s_is_option_name) (defScope s_is_option_name) .none kV3 dc3 pm3 an3 cd3 ct3), sl3⟩) (c3 : PySem.W.codeIn K cd3 "is_option_name" = true) (k3 : PySem.W.keepIn K (.ref f3) = true)
    {f4 : Addr} {od4 an4 : Option Addr} {sl4 : Array (Option Value)} {oc4 kV4 dc4 pm4 cd4 ct4 : Value} (a4 : PySem.W.nsIn K mainGlobals "is_name" = some (some (.ref f4))) (l4 : K.lookup f4 = some ⟨oc4, od4, .func (PySem.W.fnOf "is_name" "is_name" (defArgs s_is_name) (defBody s_is_name) (defScope s_is_name) .none kV4 dc4 pm4 an4 cd4 ct4), sl4⟩) (c4 : PySem.W.codeIn K cd4 "is_name" = true) (k4 : PySem.W.keepIn K (.ref f4) = true)
    {f5 : Addr} {od5 an5 : Option Addr} {sl5 : Array (Option Value)} {oc5 kV5 dc5 pm5 cd5 ct5 : Value} (a5 : PySem.W.nsIn K mainGlobals "_law_feed" = some (some (.ref f5))) (l5 : K.lookup f5 = some ⟨oc5, od5, .func (PySem.W.fnOf "_law_feed" "_law_feed" (defArgs s__law_feed) (defBody s__law_feed) (defScope s__law_feed) .none kV5 dc5 pm5 an5 cd5 ct5), sl5⟩) (c5 : PySem.W.codeIn K cd5 "_law_feed" = true) (k5 : PySem.W.keepIn K (.ref f5) = true)
    {f6 : Addr} {od6 an6 : Option Addr} {sl6 : Array (Option Value)} {oc6 kV6 dc6 pm6 cd6 ct6 : Value} (a6 : PySem.W.nsIn K mainGlobals "_law_take" = some (some (.ref f6))) (l6 : K.lookup f6 = some ⟨oc6, od6, .func (PySem.W.fnOf "_law_take" "_law_take" (defArgs s__law_take) (defBody s__law_take) (defScope s__law_take) .none kV6 dc6 pm6 an6 cd6 ct6), sl6⟩) (c6 : PySem.W.codeIn K cd6 "_law_take" = true) (k6 : PySem.W.keepIn K (.ref f6) = true)
    {f7 : Addr} {od7 an7 : Option Addr} {sl7 : Array (Option Value)} {oc7 kV7 dc7 pm7 cd7 ct7 : Value} (a7 : PySem.W.nsIn K mainGlobals "_law_of" = some (some (.ref f7))) (l7 : K.lookup f7 = some ⟨oc7, od7, .func (PySem.W.fnOf "_law_of" "_law_of" (defArgs s__law_of) (defBody s__law_of) (defScope s__law_of) .none kV7 dc7 pm7 an7 cd7 ct7), sl7⟩) (c7 : PySem.W.codeIn K cd7 "_law_of" = true) (k7 : PySem.W.keepIn K (.ref f7) = true)
    {f8 : Addr} {od8 an8 : Option Addr} {sl8 : Array (Option Value)} {oc8 kV8 dc8 pm8 cd8 ct8 : Value} (a8 : PySem.W.nsIn K mainGlobals "_law_same" = some (some (.ref f8))) (l8 : K.lookup f8 = some ⟨oc8, od8, .func (PySem.W.fnOf "_law_same" "_law_same" (defArgs s__law_same) (defBody s__law_same) (defScope s__law_same) .none kV8 dc8 pm8 an8 cd8 ct8), sl8⟩) (c8 : PySem.W.codeIn K cd8 "_law_same" = true) (k8 : PySem.W.keepIn K (.ref f8) = true)
    {f9 : Addr} {od9 an9 : Option Addr} {sl9 : Array (Option Value)} {oc9 kV9 dc9 pm9 cd9 ct9 : Value} (a9 : PySem.W.nsIn K mainGlobals "law" = some (some (.ref f9))) (l9 : K.lookup f9 = some ⟨oc9, od9, .func (PySem.W.fnOf "law" "law" (defArgs s_law) (defBody s_law) (defScope s_law) .none kV9 dc9 pm9 an9 cd9 ct9), sl9⟩) (c9 : PySem.W.codeIn K cd9 "law" = true) (k9 : PySem.W.keepIn K (.ref f9) = true)
    (z0 : PySem.W.nsIn K mainGlobals "len" = some none)
    (z1 : PySem.W.nsIn K mainGlobals "int" = some none)
    (z2 : PySem.W.nsIn K mainGlobals "str" = some none)
    (z3 : PySem.W.nsIn K mainGlobals "bool" = some none)
    (z4 : PySem.W.nsIn K mainGlobals "list" = some none)
    (z5 : PySem.W.nsIn K mainGlobals "tuple" = some none)
    (z6 : PySem.W.nsIn K mainGlobals "range" = some none)
    (z7 : PySem.W.nsIn K mainGlobals "isinstance" = some none)
    (z8 : PySem.W.nsIn K mainGlobals "all" = some none)
    (z9 : PySem.W.nsIn K mainGlobals "any" = some none)
    (z10 : PySem.W.nsIn K mainGlobals "sum" = some none)
    (z11 : PySem.W.nsIn K mainGlobals "max" = some none)
    (z12 : PySem.W.nsIn K mainGlobals "min" = some none)
    (z13 : PySem.W.nsIn K mainGlobals "sorted" = some none)
    (z14 : PySem.W.nsIn K mainGlobals "enumerate" = some none)
    (z15 : PySem.W.nsIn K mainGlobals "zip" = some none)
    (z16 : PySem.W.nsIn K mainGlobals "dict" = some none)
    (z17 : PySem.W.nsIn K mainGlobals "set" = some none)
    (z18 : PySem.W.nsIn K mainGlobals "repr" = some none)
    (z19 : PySem.W.nsIn K mainGlobals "super" = some none)
    {t0 : Tok} (cst0 : PySem.W.nsIn K mainGlobals "LETTERS" = some (some (.str "abcdefghijklmnopqrstuvwxyz" t0)))
    {t1 : Tok} (cst1 : PySem.W.nsIn K mainGlobals "FIGURES" = some (some (.str "0123456789" t1)))
    {t2 : Tok} (cst2 : PySem.W.nsIn K mainGlobals "SIGNS" = some (some (.str "abcdefghijklmnopqrstuvwxyz0123456789-" t2)))
    {t3 : Tok} (cst3 : PySem.W.nsIn K mainGlobals "MOST_SIGNS" = some (some (.int (8) t3)))
    {t4 : Tok} (cst4 : PySem.W.nsIn K mainGlobals "MOST_LETTERS" = some (some (.int (6) t4)))
    : Alls K mg := ⟨df_mk X G a0 l0 c0 k0, df_mk X G a1 l1 c1 k1, df_mk X G a2 l2 c2 k2, df_mk X G a3 l3 c3 k3, df_mk X G a4 l4 c4 k4, df_mk X G a5 l5 c5 k5, df_mk X G a6 l6 c6 k6, df_mk X G a7 l7 c7 k7, df_mk X G a8 l8 c8 k8, df_mk X G a9 l9 c9 k9, ⟨PySem.W.mg_none_of X G z0, PySem.W.mg_none_of X G z1, PySem.W.mg_none_of X G z2, PySem.W.mg_none_of X G z3, PySem.W.mg_none_of X G z4, PySem.W.mg_none_of X G z5, PySem.W.mg_none_of X G z6, PySem.W.mg_none_of X G z7, PySem.W.mg_none_of X G z8, PySem.W.mg_none_of X G z9, PySem.W.mg_none_of X G z10, PySem.W.mg_none_of X G z11, PySem.W.mg_none_of X G z12, PySem.W.mg_none_of X G z13, PySem.W.mg_none_of X G z14, PySem.W.mg_none_of X G z15, PySem.W.mg_none_of X G z16, PySem.W.mg_none_of X G z17, PySem.W.mg_none_of X G z18, PySem.W.mg_none_of X G z19⟩, ⟨⟨_, PySem.W.mg_of X G cst0, ⟨_, rfl⟩⟩, ⟨_, PySem.W.mg_of X G cst1, ⟨_, rfl⟩⟩, ⟨_, PySem.W.mg_of X G cst2, ⟨_, rfl⟩⟩, ⟨_, PySem.W.mg_of X G cst3, ⟨_, rfl⟩⟩, ⟨_, PySem.W.mg_of X G cst4, ⟨_, rfl⟩⟩⟩⟩
abbrev lawLevel : Nat := 6
theorem law_all {P : Program} {w : World} {K : PySem.W.Frag} {mg : Str → Option Value} {base : Heap} (A : Alls K mg) : Okd P w K mg base CX0 lawLevel "law" s_law ["_law_script"] (spLaw K) := by
  have T := A.T
  have c1 := c__law_feed_ok (P := P) (w := w) (base := base) A.d__law_feed T
  have c2 := c__law_take_ok (P := P) (w := w) (K := K) (base := base) A.d__law_take T
  have c3 := c__law_of_ok (P := P) (w := w) (base := base) A.d__law_of T c2
  have c4 := c__law_same_ok (P := P) (w := w) (base := base) A.d__law_same T 5
  have w1 := (o_is_word (P := P) (w := w) (base := base) A.d_is_word T A.GC).cl fun _ _ _ _ _ _ us hl => match us, hl with | [_], _ => rfl
  have w2 := (o_is_plain (P := P) (w := w) (base := base) A.d_is_plain T w1).cl fun _ _ _ _ _ _ us hl => match us, hl with | [_], _ => rfl
  have w3 := (o_is_number_word (P := P) (w := w) (base := base) A.d_is_number_word T A.GC w1).cl fun _ _ _ _ _ _ us hl => match us, hl with | [_], _ => rfl
  have w4 := o_is_name (P := P) (w := w) (base := base) A.d_is_name T A.GC
  have w5 := (o_is_option_name (P := P) (w := w) (base := base) A.d_is_option_name T (w4.cl fun _ _ _ _ _ _ us hl => match us, hl with | [_], _ => rfl)).cl fun _ _ _ _ _ _ us hl => match us, hl with | [_], _ => rfl
  exact o_law A.d_law T c1 c2 c3 c4 w1 w2 w3 w5 (w4.cn 0 ["value"] (fun vs zs => vs ++ zs) (fun a b => a.append b) fun _ _ _ _ _ _ us ws h1 h2 => match us, ws, h1, h2 with | [], [_], _, _ => rfl)
theorem walk {l : PySem.W.OpenLaw} {q : Program} {loose : List Str} {XP : (Str → Option Value) → Heap → Prop} {YP : World → Heap → Prop} {d : DefRec} {K : Params → PySem.W.Frag} (hn : l.most = some 63) (hdf : d.params.defaults = [])
    (hY : ∀ (w : World) (h : Heap), YP w h → (K w.params).In h) (hd : d.name = "law")
    (F : ∀ (w : World) (mg : Str → Option Value) (h : Heap), (K w.params).In h → h.Ns mainGlobals mg → Alls (K w.params) mg) :
    PySem.W.WalkO q loose XP YP l.row.toRowW d [] (fun f vs => PySem.call f vs) :=
  L2.walk_of (n := 63) (k := lawLevel) (x := "_law_script") (CX := fun _ => CX0) (sp := fun w => spLaw (K w.params)) hn (by decide) hdf ⟨rfl, by decide, by decide⟩ hY
    (fun w mg fa h KX G hmg => by
      have A := F w mg h KX G
      rw [hd] at hmg
      exact law_end A.d_law (fun _ _ _ _ _ _ _ => rfl) (fun base _ _ => law_all (P := l.prog) (w := w) (base := base) A) hmg)
    (fun _ _ a ns hl _ hS => ⟨a, ns, rfl, hS, hl, fun _ => rfl⟩) fun _ _ _ _ _ z => z
end Toy

open PySem PySem.W PyProof.Rows in
set_option maxRecDepth 100000 in
set_option maxHeartbeats 0 in
theorem PySem.Challenge.cw_tabsure_k02_words_and_names_holds : PySem.Challenge.rw_tabsure_k02_words_and_names.Holds := by
  w_on; o_law; k_head; (case hw => w_witness2)
  k_fill
  refine Toy.walk (l := PySem.Challenge.rw_tabsure_k02_words_and_names) rfl rfl (fun w h Y => PySem.W.kIn_of Y) rfl ?F
  case F =>
    intro w mg h KX G
    refine' Toy.all_mk KX G ?a0 ?l0 ?c0 ?k0 ?a1 ?l1 ?c1 ?k1 ?a2 ?l2 ?c2 ?k2 ?a3 ?l3 ?c3 ?k3 ?a4 ?l4 ?c4 ?k4 ?a5 ?l5 ?c5 ?k5 ?a6 ?l6 ?c6 ?k6 ?a7 ?l7 ?c7 ?k7 ?a8 ?l8 ?c8 ?k8 ?a9 ?l9 ?c9 ?k9 ?z0 ?z1 ?z2 ?z3 ?z4 ?z5 ?z6 ?z7 ?z8 ?z9 ?z10 ?z11 ?z12 ?z13 ?z14 ?z15 ?z16 ?z17 ?z18 ?z19 ?cst0 ?cst1 ?cst2 ?cst3 ?cst4
    (case a0 => k_is)
    (case l0 => k_is)
    (case c0 => k_is)
    (case k0 => k_is)
    (case a1 => k_is)
    (case l1 => k_is)
    (case c1 => k_is)
    (case k1 => k_is)
    (case a2 => k_is)
    (case l2 => k_is)
    (case c2 => k_is)
    (case k2 => k_is)
    (case a3 => k_is)
    (case l3 => k_is)
    (case c3 => k_is)
    (case k3 => k_is)
    (case a4 => k_is)
    (case l4 => k_is)
    (case c4 => k_is)
    (case k4 => k_is)
    (case a5 => k_is)
    (case l5 => k_is)
    (case c5 => k_is)
    (case k5 => k_is)
    (case a6 => k_is)
    (case l6 => k_is)
    (case c6 => k_is)
    (case k6 => k_is)
    (case a7 => k_is)
    (case l7 => k_is)
    (case c7 => k_is)
    (case k7 => k_is)
    (case a8 => k_is)
    (case l8 => k_is)
    (case c8 => k_is)
    (case k8 => k_is)
    (case a9 => k_is)
    (case l9 => k_is)
    (case c9 => k_is)
    (case k9 => k_is)
    (case z0 => k_is)
    (case z1 => k_is)
    (case z2 => k_is)
    (case z3 => k_is)
    (case z4 => k_is)
    (case z5 => k_is)
    (case z6 => k_is)
    (case z7 => k_is)
    (case z8 => k_is)
    (case z9 => k_is)
    (case z10 => k_is)
    (case z11 => k_is)
    (case z12 => k_is)
    (case z13 => k_is)
    (case z14 => k_is)
    (case z15 => k_is)
    (case z16 => k_is)
    (case z17 => k_is)
    (case z18 => k_is)
    (case z19 => k_is)
    (case cst0 => k_is)
    (case cst1 => k_is)
    (case cst2 => k_is)
    (case cst3 => k_is)
    (case cst4 => k_is)
#print axioms PySem.Challenge.cw_tabsure_k02_words_and_names_holds
