import PyProof.Rows.All
import Wide.All
import OpenK.AllK
import Wide.FinOn
import HandS.ForMost
import HandS.IsInst
import HandS.Defaults
import HandS.Codes
import HandS.Flow
import HandS.Evl
import HandS.Star
import HandS.MakeKw
import HandS.ClsMeth
import HandS.FStr
import HandS.Style
import HandS.RaiseMore
import KE.GoesEnum
import HandS.TupAny
import HandS.Lambda
import HandS.Deep
import HandS.ExcInit
import HandS.Nested
import KE.KExcSuper
import KE.KTryMore
import HandS.ExcField
import HandS.EndTab
import KE.RegKSuper
import KE.KNestM
import KE.KDflt
import HandS.TupMul
import KE.KDictKeyed
import HandS.DictComp
import HandS.SetKeys
import HandS.Property
import HandS.Style
import HandS.Dict
import HandS.Conv
import HandS.SetFor
import PyProof.Rows.SortShellAny
import KE.KCallOwn
import HandS.SetBool
import PyProof.TableCode
import HandS.Head0
import HandS.Head1
import HandS.Head2
import HandS.HeadHook1
import HandS.HeadHook2
import HandS.HeadHook4
import HandS.ExcIs
import PySem.Challenge.RW_tabsure_k01_errors_by_themselves
set_option Elab.async false
set_option linter.all false
set_option maxRecDepth 100000
set_option maxHeartbeats 4000000
namespace Hd
open PySem PySem.Spec PyProof.Rows L2
def keepO (o : Obj) : Bool := match o.cls, o.data with
  | .none, .fields _ => false
  | _, _ => true
def frL {α β : Type} : List α → (List α → β) → β
  | [], k => k []
  | x :: r, k => frL r fun r' => k (x :: r')
theorem zdf_ {α β : Type} : ∀ (l : List α) (k : List α → β), frL l k = k l
  | [], _ => rfl
  | x :: r, k => zdf_ r fun r' => k (x :: r')
def KY (as : List Addr) (g : Addr → Option Obj) : PySem.W.Frag := (He.frG g as).filter fun q => keepO q.2
theorem KY_in {as : List Addr} {h : Heap} : (KY as h.get?).In h := fun _ _ e => He.frG_mem (List.mem_filter.mp (He.lookup_mem e)).1
theorem KY_noTabs {as : List Addr} {g : Addr → Option Obj} : PySem.W.noTabs (KY as g) = true := List.all_eq_true.mpr fun _ hp => (List.mem_filter.mp hp).2
inductive Cv where
  | non | bl (b : Bool) | int (i : Int) | str (x : Str) | tup (cs : List Cv)
def wrAt (kind : String) (K : PySem.W.Frag) (p : Addr) : Addr := match PySem.W.recIn K p kind with
  | some (.ref f :: _) => f
  | _ => 0
structure DefY where
  d : He.DefD
  wr : String
def DefY.ad (K : PySem.W.Frag) (y : DefY) : Addr := if y.wr = "" then He.fAd K y.d.at_ else wrAt y.wr K (He.fAd K y.d.at_)
def fnAt (K : PySem.W.Frag) (a : Addr) : He.FnW := match K.lookup a with
  | some ⟨_, _, .func z, _⟩ => some (z.name, z.qualname, z.params, z.body, z.scope, z.globals, z.closure, z.builtins)
  | _ => none
def okAt (K : PySem.W.Frag) (d : He.DefD) (a : Addr) : Bool := PySem.W.keepIn K (.ref a) && (match K.lookup a with
  | some ⟨_, _, .func z, _⟩ => PySem.W.codeIn K z.code d.qual && (He.dflB K z.defaults (d.dvs K) && He.kwdB K z.kwdefaults (d.kws K))
  | _ => false)
theorem funAt {K : PySem.W.Frag} {d : He.DefD} {a : Addr} (e : fnAt K a = d.val) (c : okAt K d a = true) : ∃ fd, FunD K d.name d.qual d.params d.body d.scope (d.dvs K) (d.kws K) a fd := by
  obtain ⟨kp, c⟩ := He.ba c
  unfold fnAt at e
  split at e
  · rename_i oc od z osl q
    rw [q] at c
    obtain ⟨y1, y2, y3, y4, y5, y6, y7, y8, y9, y10, y11, y12, y13, y14, y15⟩ := z
    have e' : (some (y1, y2, y3, y4, y5, y6, y7, y15) : He.FnW) = some (d.name, d.qual, d.params, .stmts d.body, d.scope, mainGlobals, [], builtinsNs) := e
    simp only [Option.some.injEq, Prod.mk.injEq] at e'
    obtain ⟨g1, g2, g3, g4, g5, g6, g7, g8⟩ := e'
    subst g1 g2 g3 g4 g5 g6 g7 g8
    obtain ⟨c1, c⟩ := He.ba (show (PySem.W.codeIn K y13 d.qual && (He.dflB K y8 (d.dvs K) && He.kwdB K y9 (d.kws K))) = true from c)
    obtain ⟨c2, c3⟩ := He.ba c
    exact ⟨_, ⟨oc, od, y8, y9, y10, y11, y12, y13, y14, osl, rfl, q, c1, He.dflB_ok c2, He.kwdB_ok c3⟩, kp⟩
  · cases e
abbrev FxV : Type := Option (Str × Str × Arguments × FuncBody × Scope × Addr × List Str × Addr)
def fAt (K : PySem.W.Frag) (C : Str) : Addr := He.ma K (He.ga K C) "__init__"
def fnC (K : PySem.W.Frag) (C : Str) : FxV := match K.lookup (fAt K C) with
  | some ⟨_, _, .func fd, _⟩ => some (fd.name, fd.qualname, fd.params, fd.body, fd.scope, fd.globals, fd.closure.map (·.1), fd.builtins)
  | _ => none
structure Fx where
  C : Str
  qual : Str
  params : Arguments
  body : List Stmt
  scope : Scope
def Fx.val (d : Fx) : FxV := some ("__init__", d.qual, d.params, .stmts d.body, d.scope, mainGlobals, ["__class__"], builtinsNs)
abbrev SdY : Type := List (Option (List (Int × Option Key) × Bool))
abbrev AlY : Type := List He.FnW × List FxV × Bool × SdY
def keyOf : Value → Option Key
  | .int i _ => some (.inl i)
  | .str x _ => some (.inr x)
  | _ => none
def sdObs (K : PySem.W.Frag) (q : Str × List (Key × V)) : Option (List (Int × Option Key) × Bool) := match K.lookup (He.ga K q.1) with
  | some ⟨.type t, none, .dict es _, sl⟩ => some (es.toList.map fun e => (e.hash, keyOf e.key), decide (t = "dict") && (decide (sl = #[]) && (He.relAll (q.2.map (·.2)) (es.toList.map (·.val)) && !(He.ga K q.1 == sysModules))))
  | _ => none
def sdVal (w : World) (q : Str × List (Key × V)) : Option (List (Int × Option Key) × Bool) := some (q.2.map fun p => (keyH w p.1, some p.1), true)
abbrev SdL : Type := List (Str × List (Key × V))
def obsK (fn : List DefY) (fx : List Fx) (ex : PySem.W.Frag → Bool) (sd : SdL) (K : PySem.W.Frag) : AlY := (fn.map fun d => fnAt K (d.ad K), fx.map fun d => fnC K d.C, (fn.all fun d => okAt K d.d (d.ad K)) && ex K, sd.map (sdObs K))
def vRefs : Value → List Addr
  | .ref a => [a]
  | _ => []
def refsY (o : Obj) : List Addr := match o.data with
  | .dict es _ => es.toList.flatMap fun e => vRefs e.val
  | .cls cd => [cd.ns]
  | .seq its _ => its.toList.flatMap vRefs
  | .func fd => vRefs fd.code ++ (vRefs fd.defaults ++ (vRefs fd.kwdefaults ++ fd.closure.map (·.2)))
  | .fields vs => (match o.cls with
    | .type t => if t = "property" || t = "staticmethod" || t = "classmethod" then vs.toList.flatMap vRefs else []
    | _ => [])
  | _ => []
def nxY (g : Addr → Option Obj) (as : List Addr) : List Addr := as.flatMap fun a => match g a with
  | some o => refsY o
  | none => []
def frA {β : Type} : List Addr → (List Addr → β) → β
  | [], k => k []
  | a :: r, k => HandSHeadRun.frNat a fun a => frA r fun r => k (a :: r)
def asY (g : Addr → Option Obj) : List Addr := frA (nxY g [mainGlobals]) fun l1 => frA (nxY g l1) fun l2 => frA (nxY g l2) fun l3 => frA (nxY g l3) fun l4 => frA (nxY g l4) fun l5 => mainGlobals :: cStatics :: (l1 ++ (l2 ++ (l3 ++ (l4 ++ l5))))
def obsY (as : (Addr → Option Obj) → List Addr) (fn : List DefY) (fx : List Fx) (ex : PySem.W.Frag → Bool) (sd : SdL) (g : Addr → Option Obj) : AlY := frL (KY (as g) g) (obsK fn fx ex sd)
def valY (fn : List DefY) (fx : List Fx) (sd : SdL) (w : World) : AlY := (fn.map fun d => d.d.val, fx.map Fx.val, true, sd.map (sdVal w))
def SaysY (fn : List DefY) (fx : List Fx) (ex : PySem.W.Frag → Bool) (sd : SdL) (w : World) (K : PySem.W.Frag) : Prop := obsK fn fx ex sd K = valY fn fx sd w
def hookY (as : (Addr → Option Obj) → List Addr) (fn : List DefY) (fx : List Fx) (ex : PySem.W.Frag → Bool) (sd : SdL) : PySem.W.Hook where
  α := AlY
  obs := fun s => obsY as fn fx ex sd s.heap.get?
  val := fun w => valY fn fx sd w
  says := fun w h => ∃ K : PySem.W.Frag, K.In h ∧ PySem.W.noTabs K = true ∧ SaysY fn fx ex sd w K
  of := fun _ _ e => ⟨_, KY_in, KY_noTabs, (zdf_ _ _).symm.trans e⟩
  keeps := fun _ _ _ ⟨K, hK, n, c⟩ k => ⟨K, PySem.W.Frag.In.keeps hK k, n, c⟩
theorem obsY_eq {as : (Addr → Option Obj) → List Addr} {fn : List DefY} {fx : List Fx} {ex : PySem.W.Frag → Bool} {sd : SdL} {g : Addr → Option Obj} {s : Shared} (h : ∀ a, g a = s.heap.get? a) : obsY as fn fx ex sd g = (hookY as fn fx ex sd).obs s := by
  have e : g = s.heap.get? := funext h
  rw [e] <;> rfl
def ccOf (K : PySem.W.Frag) (C : Str) : Addr := match K.lookup (fAt K C) with
  | some ⟨_, _, .func fd, _⟩ => (match fd.closure with
    | [(_, a)] => a
    | _ => 0)
  | _ => 0
def cdOf (K : PySem.W.Frag) (C : Str) : Addr := match K.lookup (fAt K C) with
  | some ⟨_, _, .func fd, _⟩ => (match fd.code with
    | .ref a => a
    | _ => 0)
  | _ => 0
def refsQ (tl : List Value) : List Value → Bool
  | .ref _ :: r => refsQ tl r
  | l => l == tl
def clsChk (nw : String) (tl : List Value) (a : Addr) : Option Obj → Bool
  | some ⟨.type t, _, .cls ⟨_, _, m0 :: bm, _, _, true, _, _, _, _, false⟩, sl⟩ => decide (t = "type") && (decide (m0 = .ref a) && (refsQ tl bm && (match sl.toList with
    | [_, _, _, _, some (.builtin b), _] => decide (b = nw)
    | _ => false)))
  | _ => false
def fnChk : Option Obj → Bool
  | some ⟨_, _, .func fd, _⟩ => (match fd.defaults, fd.closure, fd.code with
    | .none, [(_, _)], .ref _ => true
    | _, _, _ => false)
  | _ => false
def cellChk (a : Addr) : Option Obj → Bool
  | some ⟨_, _, .cell (some (.ref c)), _⟩ => decide (c = a)
  | _ => false
def codeChk (qual file : Str) : Option Obj → Bool
  | some ⟨_, _, .fields vs, _⟩ => (match (vs[1]? : Option Value), (vs[2]? : Option Value) with
    | some (.str q _), some (.str fl _) => decide (q = qual) && (file == fl)
    | _, _ => false)
  | _ => false
def excChk (nw : String) (tl : List Value) (K : PySem.W.Frag) (file C qual : Str) : Bool := clsChk nw tl (He.ga K C) (K.lookup (He.ga K C)) && (fnChk (K.lookup (fAt K C)) && (cellChk (He.ga K C) (K.lookup (ccOf K C)) && (codeChk qual file (K.lookup (cdOf K C)) && (PySem.W.clsIn K (He.ga K C)).isSome)))
section
open PySem.W PySem.Calls HandSHeadRun
def LookEq (R : PySem.W.OpenRow) (M : Nat) (w : World) : Prop := ∀ os : OsState, (endF (stepQ (denQ tabQ) R.prog w) M R.prog w os).map (fun s => looksF R.prog (boot_heap w.params) s.abs) = some true
def SeenEq (R : PySem.W.OpenRow) (q : Program) (M : Nat) (nm : List PySem.Str) (w : World) : Prop := ∀ os : OsState, (endF (stepQ (denQ tabQ) R.prog w) M R.prog w os).map (fun s => seenQ q nm (importedModules R.prog.main.body) (fun s => xlAt q [] s && recOk R.toRowW.records s) s.abs) = some (openGood q nm)
def ObsEq (R : PySem.W.OpenRow) (as : (Addr → Option Obj) → List Addr) (fn : List DefY) (fx : List Fx) (ex : PySem.W.Frag → Bool) (sd : SdL) (M : Nat) (w : World) : Prop := ∀ os : OsState, (endF (stepQ (denQ tabQ) R.prog w) M R.prog w os).map (fun s => obsY as fn fx ex sd (getT s)) = some (valY fn fx sd w)
def LSEq (R : PySem.W.OpenRow) (q : Program) (M : Nat) (nm : List PySem.Str) (w : World) : Prop := ∀ os : OsState, (endF (stepQ (denQ tabQ) R.prog w) M R.prog w os).map (fun s => (looksF R.prog (boot_heap w.params) s.abs, seenQ q nm (importedModules R.prog.main.body) (fun s => xlAt q [] s && recOk R.toRowW.records s) s.abs)) = some (true, openGood q nm)
theorem ls_look {R : PySem.W.OpenRow} {q : Program} {M : Nat} {nm : List PySem.Str} {w : World} (h : LSEq R q M nm w) : LookEq R M w := fun os => by
  have z := h os
  rw [Option.map_eq_some_iff] at z
  obtain ⟨s, hs, z⟩ := z
  rw [hs, Option.map_some]
  exact congrArg some (congrArg Prod.fst z)
theorem ls_seen {R : PySem.W.OpenRow} {q : Program} {M : Nat} {nm : List PySem.Str} {w : World} (h : LSEq R q M nm w) : SeenEq R q M nm w := fun os => by
  have z := h os
  rw [Option.map_eq_some_iff] at z
  obtain ⟨s, hs, z⟩ := z
  rw [hs, Option.map_some]
  exact congrArg some (congrArg Prod.snd z)
theorem run_of {R : PySem.W.OpenRow} {q : Program} {as : (Addr → Option Obj) → List Addr} {fn : List DefY} {fx : List Fx} {ex : PySem.W.Frag → Bool} {sd : SdL} {M : Nat} {nm : List PySem.Str} {w : World}
    (l : LookEq R M w) (e : SeenEq R q M nm w) (o : ObsEq R as fn fx ex sd M w) : HandSHeadRun.RunEq R q (hookY as fn fx ex sd) (fun s => obsY as fn fx ex sd (HandSHeadRun.getT s)) M nm w := by
  intro os
  have z1 := l os
  have z2 := e os
  have z3 := o os
  rw [Option.map_eq_some_iff] at z1 z2 z3
  obtain ⟨s, hs, z1⟩ := z1
  obtain ⟨s', hs', z2⟩ := z2
  obtain ⟨s'', hs'', z3⟩ := z3
  have es : s' = s := Option.some.inj (hs'.symm.trans hs)
  have es2 : s'' = s := Option.some.inj (hs''.symm.trans hs)
  subst es es2
  rw [hs, Option.map_some]
  exact congrArg some (Prod.ext z1 (Prod.ext z2 z3))
theorem obs_join {R : PySem.W.OpenRow} {as : (Addr → Option Obj) → List Addr} {fn fn2 : List DefY} {fx fx2 : List Fx} {e1 e2 : PySem.W.Frag → Bool} {sd sd2 : SdL} {M : Nat} {w : World}
    (h1 : ObsEq R as fn fx e1 sd M w) (h2 : ObsEq R as fn2 fx2 e2 sd2 M w) : ObsEq R as (fn ++ fn2) (fx ++ fx2) (fun K => e1 K && e2 K) (sd ++ sd2) M w := by
  intro os
  have z1 := h1 os
  have z2 := h2 os
  rw [Option.map_eq_some_iff] at z1 z2
  obtain ⟨s, hs, z1⟩ := z1
  obtain ⟨s', hs', z2⟩ := z2
  have es : s' = s := Option.some.inj (hs'.symm.trans hs)
  subst es
  rw [hs, Option.map_some]
  have c1 : obsK fn fx e1 sd (KY (as (getT s')) (getT s')) = valY fn fx sd w := (zdf_ _ _).symm.trans z1
  have c2 : obsK fn2 fx2 e2 sd2 (KY (as (getT s')) (getT s')) = valY fn2 fx2 sd2 w := (zdf_ _ _).symm.trans z2
  have c3 : obsK (fn ++ fn2) (fx ++ fx2) (fun K => e1 K && e2 K) (sd ++ sd2) (KY (as (getT s')) (getT s')) = valY (fn ++ fn2) (fx ++ fx2) (sd ++ sd2) w := by
    simp only [obsK, valY, Prod.mk.injEq, Bool.and_eq_true, List.map_append, List.all_append] at c1 c2 ⊢
    exact ⟨by rw [c1.1, c2.1], by rw [c1.2.1, c2.2.1], ⟨⟨c1.2.2.1.1, c2.2.2.1.1⟩, c1.2.2.1.2, c2.2.2.1.2⟩, by rw [c1.2.2.2, c2.2.2.2]⟩
  exact congrArg some ((zdf_ _ _).trans c3)
end
end Hd
namespace Toy
open PySem PySem.Spec L2
def top (i : Nat) : Stmt := PySem.Challenge.pw_tabsure_k01_errors_by_themselves.main.body.getD i (.Pass ⟨0, 0, 0, 0⟩)
abbrev zam_ : Stmt := inClass (top 2) 0
abbrev zag_ : Stmt := inClass (top 3) 0
abbrev zad_ : Stmt := inClass (top 4) 0
abbrev zai_ : Stmt := inClass (top 5) 0
abbrev zao_ : Stmt := inClass (top 6) 0
abbrev zac_ : Stmt := inClass (top 7) 0
abbrev zan_ : Stmt := inClass (top 8) 0
abbrev zaj_ : Stmt := inClass (top 9) 0
abbrev zal_ : Stmt := inClass (top 10) 0
abbrev zaf_ : Stmt := inClass (top 11) 0
abbrev zab_ : Stmt := inClass (top 12) 0
abbrev zae_ : Stmt := inClass (top 13) 0
abbrev zap_ : Stmt := inClass (top 14) 0
abbrev zat_ : Stmt := inClass (top 15) 0
abbrev zar_ : Stmt := inClass (top 16) 0
abbrev zay_ : Stmt := inClass (top 17) 0
abbrev zaq_ : Stmt := inClass (top 18) 0
abbrev zaw_ : Stmt := inClass (top 19) 0
abbrev zas_ : Stmt := inClass (top 20) 0
abbrev zau_ : Stmt := inClass (top 21) 0
abbrev zav_ : Stmt := inClass (top 22) 0
abbrev zah_ : Stmt := inClass (top 24) 0
abbrev zak_ : Stmt := inClass (top 25) 0
abbrev za3_ : Stmt := top 27
abbrev za2_ : Stmt := top 28
abbrev zbr_ : Stmt := top 29
abbrev zaV_ : Stmt := top 30
abbrev zaO_ : Stmt := top 31
abbrev zb8_ : Stmt := top 32
@[irreducible] def P : Program := PySem.Challenge.pw_tabsure_k01_errors_by_themselves
def zbU_ : Hd.DefY := ⟨⟨("_law_feed", none), "_law_feed", "_law_feed", defArgs za3_, defBody za3_, defScope za3_, [], []⟩, ""⟩
def zbW_ : Hd.DefY := ⟨⟨("_law_take", none), "_law_take", "_law_take", defArgs za2_, defBody za2_, defScope za2_, [], []⟩, ""⟩
def zcy_ : Hd.DefY := ⟨⟨("_law_of", none), "_law_of", "_law_of", defArgs zbr_, defBody zbr_, defScope zbr_, [], []⟩, ""⟩
def zbX_ : Hd.DefY := ⟨⟨("_law_same", none), "_law_same", "_law_same", defArgs zaV_, defBody zaV_, defScope zaV_, [], []⟩, ""⟩
def zbN_ : Hd.DefY := ⟨⟨("_law_bases", none), "_law_bases", "_law_bases", defArgs zaO_, defBody zaO_, defScope zaO_, [], []⟩, ""⟩
def dD_law : Hd.DefY := ⟨⟨("law", none), "law", "law", defArgs zb8_, defBody zb8_, defScope zb8_, [], []⟩, ""⟩
def fnL0 : List Hd.DefY := [zbU_, zbW_, zcy_]
def fnL1 : List Hd.DefY := [zbX_, zbN_, dD_law]
def fnL : List Hd.DefY := (fnL0 ++ fnL1)
def zbx_ : Hd.Fx := ⟨"InvalidWord", "InvalidWord.__init__", defArgs zam_, defBody zam_, defScope zam_⟩
def zbJ_ : Hd.Fx := ⟨"InvalidName", "InvalidName.__init__", defArgs zag_, defBody zag_, defScope zag_⟩
def zbj_ : Hd.Fx := ⟨"InvalidNumber", "InvalidNumber.__init__", defArgs zad_, defBody zad_, defScope zad_⟩
def zbF_ : Hd.Fx := ⟨"InvalidRule", "InvalidRule.__init__", defArgs zai_, defBody zai_, defScope zai_⟩
def zbK_ : Hd.Fx := ⟨"InvalidRow", "InvalidRow.__init__", defArgs zao_, defBody zao_, defScope zao_⟩
def zbo_ : Hd.Fx := ⟨"InvalidChange", "InvalidChange.__init__", defArgs zac_, defBody zac_, defScope zac_⟩
def zbM_ : Hd.Fx := ⟨"InvalidKey", "InvalidKey.__init__", defArgs zan_, defBody zan_, defScope zan_⟩
def zbH_ : Hd.Fx := ⟨"InvalidText", "InvalidText.__init__", defArgs zaj_, defBody zaj_, defScope zaj_⟩
def zbw_ : Hd.Fx := ⟨"InvalidWish", "InvalidWish.__init__", defArgs zal_, defBody zal_, defScope zal_⟩
def zbt_ : Hd.Fx := ⟨"InvalidLimit", "InvalidLimit.__init__", defArgs zaf_, defBody zaf_, defScope zaf_⟩
def zbf_ : Hd.Fx := ⟨"InvalidCommand", "InvalidCommand.__init__", defArgs zab_, defBody zab_, defScope zab_⟩
def zbm_ : Hd.Fx := ⟨"DuplicateName", "DuplicateName.__init__", defArgs zae_, defBody zae_, defScope zae_⟩
def zbY_ : Hd.Fx := ⟨"WrongKind", "WrongKind.__init__", defArgs zap_, defBody zap_, defScope zap_⟩
def zcr_ : Hd.Fx := ⟨"TooMany", "TooMany.__init__", defArgs zat_, defBody zat_, defScope zat_⟩
def zcE_ : Hd.Fx := ⟨"TooLong", "TooLong.__init__", defArgs zar_, defBody zar_, defScope zar_⟩
def dX_Full : Hd.Fx := ⟨"Full", "Full.__init__", defArgs zay_, defBody zay_, defScope zay_⟩
def zbT_ : Hd.Fx := ⟨"WrongWord", "WrongWord.__init__", defArgs zaq_, defBody zaq_, defScope zaq_⟩
def zcW_ : Hd.Fx := ⟨"Mixed", "Mixed.__init__", defArgs zaw_, defBody zaw_, defScope zaw_⟩
def zct_ : Hd.Fx := ⟨"NotLive", "NotLive.__init__", defArgs zas_, defBody zas_, defScope zas_⟩
def zcQ_ : Hd.Fx := ⟨"NoWord", "NoWord.__init__", defArgs zau_, defBody zau_, defScope zau_⟩
def zcP_ : Hd.Fx := ⟨"Unlike", "Unlike.__init__", defArgs zav_, defBody zav_, defScope zav_⟩
def zbA_ : Hd.Fx := ⟨"UnknownName", "UnknownName.__init__", defArgs zah_, defBody zah_, defScope zah_⟩
def zbC_ : Hd.Fx := ⟨"NothingLeft", "NothingLeft.__init__", defArgs zak_, defBody zak_, defScope zak_⟩
def fxL : List Hd.Fx := [zbx_, zbJ_, zbj_, zbF_, zbK_, zbo_, zbM_, zbH_, zbw_, zbt_, zbf_, zbm_, zbY_, zcr_, zcE_, dX_Full, zbT_, zcW_, zct_, zcQ_, zcP_, zbA_, zbC_]
abbrev gA0 (K : PySem.W.Frag) := He.ga K "DuplicateName"
abbrev gA1 (K : PySem.W.Frag) := He.ga K "Full"
abbrev gA2 (K : PySem.W.Frag) := He.ga K "InvalidChange"
abbrev gA3 (K : PySem.W.Frag) := He.ga K "InvalidCommand"
abbrev gA4 (K : PySem.W.Frag) := He.ga K "InvalidKey"
abbrev gA5 (K : PySem.W.Frag) := He.ga K "InvalidLimit"
abbrev gA6 (K : PySem.W.Frag) := He.ga K "InvalidName"
abbrev gA7 (K : PySem.W.Frag) := He.ga K "InvalidNumber"
abbrev gA8 (K : PySem.W.Frag) := He.ga K "InvalidRow"
abbrev gA9 (K : PySem.W.Frag) := He.ga K "InvalidRule"
abbrev gA10 (K : PySem.W.Frag) := He.ga K "InvalidText"
abbrev gA11 (K : PySem.W.Frag) := He.ga K "InvalidWish"
abbrev gA12 (K : PySem.W.Frag) := He.ga K "InvalidWord"
abbrev gA13 (K : PySem.W.Frag) := He.ga K "LineError"
abbrev gA14 (K : PySem.W.Frag) := He.ga K "Missing"
abbrev gA15 (K : PySem.W.Frag) := He.ga K "Mixed"
abbrev gA16 (K : PySem.W.Frag) := He.ga K "NoWord"
abbrev gA17 (K : PySem.W.Frag) := He.ga K "NotLive"
abbrev gA18 (K : PySem.W.Frag) := He.ga K "NothingLeft"
abbrev gA19 (K : PySem.W.Frag) := He.ga K "TooLong"
abbrev gA20 (K : PySem.W.Frag) := He.ga K "TooMany"
abbrev gA21 (K : PySem.W.Frag) := He.ga K "UnknownName"
abbrev gA22 (K : PySem.W.Frag) := He.ga K "Unlike"
abbrev gA23 (K : PySem.W.Frag) := He.ga K "WrongKind"
abbrev gA24 (K : PySem.W.Frag) := He.ga K "WrongWord"
abbrev gA25 (K : PySem.W.Frag) := He.ga K "_law_bases"
abbrev gA26 (K : PySem.W.Frag) := He.ga K "_law_feed"
abbrev gA27 (K : PySem.W.Frag) := He.ga K "_law_of"
abbrev gA28 (K : PySem.W.Frag) := He.ga K "_law_same"
abbrev gA29 (K : PySem.W.Frag) := He.ga K "_law_take"
abbrev gA30 (K : PySem.W.Frag) := He.ga K "law"
def exL0 (K : PySem.W.Frag) : List Bool := [decide (PySem.W.nsIn K mainGlobals "_law_feed" = some (some (.ref (gA26 K)))),
  decide (PySem.W.nsIn K mainGlobals "_law_take" = some (some (.ref (gA29 K)))),
  decide (PySem.W.nsIn K mainGlobals "_law_of" = some (some (.ref (gA27 K)))),
  decide (PySem.W.nsIn K mainGlobals "_law_same" = some (some (.ref (gA28 K)))),
  decide (PySem.W.nsIn K mainGlobals "_law_bases" = some (some (.ref (gA25 K)))),
  decide (PySem.W.nsIn K mainGlobals "law" = some (some (.ref (gA30 K)))),
  decide (PySem.W.nsIn K mainGlobals "InvalidWord" = some (some (.ref (gA12 K)))),
  decide (PySem.W.nsIn K mainGlobals "InvalidName" = some (some (.ref (gA6 K)))),
  decide (PySem.W.nsIn K mainGlobals "InvalidNumber" = some (some (.ref (gA7 K)))),
  decide (PySem.W.nsIn K mainGlobals "InvalidRule" = some (some (.ref (gA9 K)))),
  decide (PySem.W.nsIn K mainGlobals "InvalidRow" = some (some (.ref (gA8 K)))),
  decide (PySem.W.nsIn K mainGlobals "InvalidChange" = some (some (.ref (gA2 K)))),
  decide (PySem.W.nsIn K mainGlobals "InvalidKey" = some (some (.ref (gA4 K)))),
  decide (PySem.W.nsIn K mainGlobals "InvalidText" = some (some (.ref (gA10 K)))),
  decide (PySem.W.nsIn K mainGlobals "InvalidWish" = some (some (.ref (gA11 K)))),
  decide (PySem.W.nsIn K mainGlobals "InvalidLimit" = some (some (.ref (gA5 K)))),
  decide (PySem.W.nsIn K mainGlobals "InvalidCommand" = some (some (.ref (gA3 K)))),
  decide (PySem.W.nsIn K mainGlobals "DuplicateName" = some (some (.ref (gA0 K)))),
  decide (PySem.W.nsIn K mainGlobals "WrongKind" = some (some (.ref (gA23 K)))),
  decide (PySem.W.nsIn K mainGlobals "TooMany" = some (some (.ref (gA20 K))))]
def exL1 (K : PySem.W.Frag) : List Bool := [decide (PySem.W.nsIn K mainGlobals "TooLong" = some (some (.ref (gA19 K)))),
  decide (PySem.W.nsIn K mainGlobals "Full" = some (some (.ref (gA1 K)))),
  decide (PySem.W.nsIn K mainGlobals "WrongWord" = some (some (.ref (gA24 K)))),
  decide (PySem.W.nsIn K mainGlobals "Mixed" = some (some (.ref (gA15 K)))),
  decide (PySem.W.nsIn K mainGlobals "NotLive" = some (some (.ref (gA17 K)))),
  decide (PySem.W.nsIn K mainGlobals "NoWord" = some (some (.ref (gA16 K)))),
  decide (PySem.W.nsIn K mainGlobals "Unlike" = some (some (.ref (gA22 K)))),
  decide (PySem.W.nsIn K mainGlobals "UnknownName" = some (some (.ref (gA21 K)))),
  decide (PySem.W.nsIn K mainGlobals "NothingLeft" = some (some (.ref (gA18 K)))),
  decide (PySem.W.nsIn K mainGlobals "LineError" = some (some (.ref (gA13 K)))),
  decide (PySem.W.nsIn K mainGlobals "Missing" = some (some (.ref (gA14 K)))),
  decide (PySem.W.nsIn K cStatics "thirdparty.any" = some none),
  decide (PySem.W.findIn K (.ref (gA12 K)) "__setattr__" = some (some (.builtin "object.__setattr__"))),
  decide (PySem.W.subIn K (.ref (gA12 K)) (.type "BaseException") = some true),
  decide (PySem.W.typeIn K (.ref (gA12 K)) = some (.type "type")),
  decide (PySem.W.keepIn K (.ref (gA12 K)) = true),
  decide (PySem.W.findIn K (.ref (gA12 K)) "__init__" = some (some (.ref (Hd.fAt K "InvalidWord")))),
  decide (PySem.W.typeIn K (.ref (Hd.fAt K "InvalidWord")) = some (.type "function")),
  decide (PySem.W.ks_superIn K (gA12 K) (gA12 K) "__init__" = some (some (.builtin "ValueError.__init__"))),
  decide (PySem.W.subIn K (.ref (gA12 K)) (.type "ValueError") = some true)]
def exL2 (K : PySem.W.Frag) : List Bool := [decide (PySem.W.mroIn K (gA12 K) (.ref (gA12 K)) = some true),
  decide (PySem.W.findIn K (.ref (gA12 K)) "__getattribute__" = some (some (.builtin "BaseException.__getattribute__"))),
  decide (PySem.W.findIn K (.ref (gA12 K)) "__getattr__" = some none),
  decide (PySem.W.hasDictIn K (gA12 K) = true),
  decide (PySem.W.findIn K (.ref (gA12 K)) "given" = some none),
  decide (PySem.W.findIn K (.ref (gA12 K)) "code" = some none),
  decide (PySem.W.findIn K (.ref (gA6 K)) "__setattr__" = some (some (.builtin "object.__setattr__"))),
  decide (PySem.W.subIn K (.ref (gA6 K)) (.type "BaseException") = some true),
  decide (PySem.W.typeIn K (.ref (gA6 K)) = some (.type "type")),
  decide (PySem.W.keepIn K (.ref (gA6 K)) = true),
  decide (PySem.W.findIn K (.ref (gA6 K)) "__init__" = some (some (.ref (Hd.fAt K "InvalidName")))),
  decide (PySem.W.typeIn K (.ref (Hd.fAt K "InvalidName")) = some (.type "function")),
  decide (PySem.W.ks_superIn K (gA6 K) (gA6 K) "__init__" = some (some (.builtin "ValueError.__init__"))),
  decide (PySem.W.subIn K (.ref (gA6 K)) (.type "ValueError") = some true),
  decide (PySem.W.mroIn K (gA6 K) (.ref (gA6 K)) = some true),
  decide (PySem.W.findIn K (.ref (gA6 K)) "__getattribute__" = some (some (.builtin "BaseException.__getattribute__"))),
  decide (PySem.W.findIn K (.ref (gA6 K)) "__getattr__" = some none),
  decide (PySem.W.hasDictIn K (gA6 K) = true),
  decide (PySem.W.findIn K (.ref (gA6 K)) "given" = some none),
  decide (PySem.W.findIn K (.ref (gA6 K)) "code" = some none)]
def exL3 (K : PySem.W.Frag) : List Bool := [decide (PySem.W.findIn K (.ref (gA7 K)) "__setattr__" = some (some (.builtin "object.__setattr__"))),
  decide (PySem.W.subIn K (.ref (gA7 K)) (.type "BaseException") = some true),
  decide (PySem.W.typeIn K (.ref (gA7 K)) = some (.type "type")),
  decide (PySem.W.keepIn K (.ref (gA7 K)) = true),
  decide (PySem.W.findIn K (.ref (gA7 K)) "__init__" = some (some (.ref (Hd.fAt K "InvalidNumber")))),
  decide (PySem.W.typeIn K (.ref (Hd.fAt K "InvalidNumber")) = some (.type "function")),
  decide (PySem.W.ks_superIn K (gA7 K) (gA7 K) "__init__" = some (some (.builtin "ValueError.__init__"))),
  decide (PySem.W.subIn K (.ref (gA7 K)) (.type "ValueError") = some true),
  decide (PySem.W.mroIn K (gA7 K) (.ref (gA7 K)) = some true),
  decide (PySem.W.findIn K (.ref (gA7 K)) "__getattribute__" = some (some (.builtin "BaseException.__getattribute__"))),
  decide (PySem.W.findIn K (.ref (gA7 K)) "__getattr__" = some none),
  decide (PySem.W.hasDictIn K (gA7 K) = true),
  decide (PySem.W.findIn K (.ref (gA7 K)) "given" = some none),
  decide (PySem.W.findIn K (.ref (gA7 K)) "code" = some none),
  decide (PySem.W.findIn K (.ref (gA9 K)) "__setattr__" = some (some (.builtin "object.__setattr__"))),
  decide (PySem.W.subIn K (.ref (gA9 K)) (.type "BaseException") = some true),
  decide (PySem.W.typeIn K (.ref (gA9 K)) = some (.type "type")),
  decide (PySem.W.keepIn K (.ref (gA9 K)) = true),
  decide (PySem.W.findIn K (.ref (gA9 K)) "__init__" = some (some (.ref (Hd.fAt K "InvalidRule")))),
  decide (PySem.W.typeIn K (.ref (Hd.fAt K "InvalidRule")) = some (.type "function"))]
def exL4 (K : PySem.W.Frag) : List Bool := [decide (PySem.W.ks_superIn K (gA9 K) (gA9 K) "__init__" = some (some (.builtin "ValueError.__init__"))),
  decide (PySem.W.subIn K (.ref (gA9 K)) (.type "ValueError") = some true),
  decide (PySem.W.mroIn K (gA9 K) (.ref (gA9 K)) = some true),
  decide (PySem.W.findIn K (.ref (gA9 K)) "__getattribute__" = some (some (.builtin "BaseException.__getattribute__"))),
  decide (PySem.W.findIn K (.ref (gA9 K)) "__getattr__" = some none),
  decide (PySem.W.hasDictIn K (gA9 K) = true),
  decide (PySem.W.findIn K (.ref (gA9 K)) "at" = some none),
  decide (PySem.W.findIn K (.ref (gA9 K)) "code" = some none),
  decide (PySem.W.findIn K (.ref (gA8 K)) "__setattr__" = some (some (.builtin "object.__setattr__"))),
  decide (PySem.W.subIn K (.ref (gA8 K)) (.type "BaseException") = some true),
  decide (PySem.W.typeIn K (.ref (gA8 K)) = some (.type "type")),
  decide (PySem.W.keepIn K (.ref (gA8 K)) = true),
  decide (PySem.W.findIn K (.ref (gA8 K)) "__init__" = some (some (.ref (Hd.fAt K "InvalidRow")))),
  decide (PySem.W.typeIn K (.ref (Hd.fAt K "InvalidRow")) = some (.type "function")),
  decide (PySem.W.ks_superIn K (gA8 K) (gA8 K) "__init__" = some (some (.builtin "ValueError.__init__"))),
  decide (PySem.W.subIn K (.ref (gA8 K)) (.type "ValueError") = some true),
  decide (PySem.W.mroIn K (gA8 K) (.ref (gA8 K)) = some true),
  decide (PySem.W.findIn K (.ref (gA8 K)) "__getattribute__" = some (some (.builtin "BaseException.__getattribute__"))),
  decide (PySem.W.findIn K (.ref (gA8 K)) "__getattr__" = some none),
  decide (PySem.W.hasDictIn K (gA8 K) = true)]
def exL5 (K : PySem.W.Frag) : List Bool := [decide (PySem.W.findIn K (.ref (gA8 K)) "at" = some none),
  decide (PySem.W.findIn K (.ref (gA8 K)) "code" = some none),
  decide (PySem.W.findIn K (.ref (gA2 K)) "__setattr__" = some (some (.builtin "object.__setattr__"))),
  decide (PySem.W.subIn K (.ref (gA2 K)) (.type "BaseException") = some true),
  decide (PySem.W.typeIn K (.ref (gA2 K)) = some (.type "type")),
  decide (PySem.W.keepIn K (.ref (gA2 K)) = true),
  decide (PySem.W.findIn K (.ref (gA2 K)) "__init__" = some (some (.ref (Hd.fAt K "InvalidChange")))),
  decide (PySem.W.typeIn K (.ref (Hd.fAt K "InvalidChange")) = some (.type "function")),
  decide (PySem.W.ks_superIn K (gA2 K) (gA2 K) "__init__" = some (some (.builtin "ValueError.__init__"))),
  decide (PySem.W.subIn K (.ref (gA2 K)) (.type "ValueError") = some true),
  decide (PySem.W.mroIn K (gA2 K) (.ref (gA2 K)) = some true),
  decide (PySem.W.findIn K (.ref (gA2 K)) "__getattribute__" = some (some (.builtin "BaseException.__getattribute__"))),
  decide (PySem.W.findIn K (.ref (gA2 K)) "__getattr__" = some none),
  decide (PySem.W.hasDictIn K (gA2 K) = true),
  decide (PySem.W.findIn K (.ref (gA2 K)) "at" = some none),
  decide (PySem.W.findIn K (.ref (gA2 K)) "code" = some none),
  decide (PySem.W.findIn K (.ref (gA4 K)) "__setattr__" = some (some (.builtin "object.__setattr__"))),
  decide (PySem.W.subIn K (.ref (gA4 K)) (.type "BaseException") = some true),
  decide (PySem.W.typeIn K (.ref (gA4 K)) = some (.type "type")),
  decide (PySem.W.keepIn K (.ref (gA4 K)) = true)]
def exL6 (K : PySem.W.Frag) : List Bool := [decide (PySem.W.findIn K (.ref (gA4 K)) "__init__" = some (some (.ref (Hd.fAt K "InvalidKey")))),
  decide (PySem.W.typeIn K (.ref (Hd.fAt K "InvalidKey")) = some (.type "function")),
  decide (PySem.W.ks_superIn K (gA4 K) (gA4 K) "__init__" = some (some (.builtin "ValueError.__init__"))),
  decide (PySem.W.subIn K (.ref (gA4 K)) (.type "ValueError") = some true),
  decide (PySem.W.mroIn K (gA4 K) (.ref (gA4 K)) = some true),
  decide (PySem.W.findIn K (.ref (gA4 K)) "__getattribute__" = some (some (.builtin "BaseException.__getattribute__"))),
  decide (PySem.W.findIn K (.ref (gA4 K)) "__getattr__" = some none),
  decide (PySem.W.hasDictIn K (gA4 K) = true),
  decide (PySem.W.findIn K (.ref (gA4 K)) "at" = some none),
  decide (PySem.W.findIn K (.ref (gA4 K)) "code" = some none),
  decide (PySem.W.findIn K (.ref (gA10 K)) "__setattr__" = some (some (.builtin "object.__setattr__"))),
  decide (PySem.W.subIn K (.ref (gA10 K)) (.type "BaseException") = some true),
  decide (PySem.W.typeIn K (.ref (gA10 K)) = some (.type "type")),
  decide (PySem.W.keepIn K (.ref (gA10 K)) = true),
  decide (PySem.W.findIn K (.ref (gA10 K)) "__init__" = some (some (.ref (Hd.fAt K "InvalidText")))),
  decide (PySem.W.typeIn K (.ref (Hd.fAt K "InvalidText")) = some (.type "function")),
  decide (PySem.W.ks_superIn K (gA10 K) (gA10 K) "__init__" = some (some (.builtin "ValueError.__init__"))),
  decide (PySem.W.subIn K (.ref (gA10 K)) (.type "ValueError") = some true),
  decide (PySem.W.mroIn K (gA10 K) (.ref (gA10 K)) = some true),
  decide (PySem.W.findIn K (.ref (gA10 K)) "__getattribute__" = some (some (.builtin "BaseException.__getattribute__")))]
def exL7 (K : PySem.W.Frag) : List Bool := [decide (PySem.W.findIn K (.ref (gA10 K)) "__getattr__" = some none),
  decide (PySem.W.hasDictIn K (gA10 K) = true),
  decide (PySem.W.findIn K (.ref (gA10 K)) "at" = some none),
  decide (PySem.W.findIn K (.ref (gA10 K)) "code" = some none),
  decide (PySem.W.findIn K (.ref (gA11 K)) "__setattr__" = some (some (.builtin "object.__setattr__"))),
  decide (PySem.W.subIn K (.ref (gA11 K)) (.type "BaseException") = some true),
  decide (PySem.W.typeIn K (.ref (gA11 K)) = some (.type "type")),
  decide (PySem.W.keepIn K (.ref (gA11 K)) = true),
  decide (PySem.W.findIn K (.ref (gA11 K)) "__init__" = some (some (.ref (Hd.fAt K "InvalidWish")))),
  decide (PySem.W.typeIn K (.ref (Hd.fAt K "InvalidWish")) = some (.type "function")),
  decide (PySem.W.ks_superIn K (gA11 K) (gA11 K) "__init__" = some (some (.builtin "ValueError.__init__"))),
  decide (PySem.W.subIn K (.ref (gA11 K)) (.type "ValueError") = some true),
  decide (PySem.W.mroIn K (gA11 K) (.ref (gA11 K)) = some true),
  decide (PySem.W.findIn K (.ref (gA11 K)) "__getattribute__" = some (some (.builtin "BaseException.__getattribute__"))),
  decide (PySem.W.findIn K (.ref (gA11 K)) "__getattr__" = some none),
  decide (PySem.W.hasDictIn K (gA11 K) = true),
  decide (PySem.W.findIn K (.ref (gA11 K)) "given" = some none),
  decide (PySem.W.findIn K (.ref (gA11 K)) "code" = some none),
  decide (PySem.W.findIn K (.ref (gA5 K)) "__setattr__" = some (some (.builtin "object.__setattr__"))),
  decide (PySem.W.subIn K (.ref (gA5 K)) (.type "BaseException") = some true)]
def exL8 (K : PySem.W.Frag) : List Bool := [decide (PySem.W.typeIn K (.ref (gA5 K)) = some (.type "type")),
  decide (PySem.W.keepIn K (.ref (gA5 K)) = true),
  decide (PySem.W.findIn K (.ref (gA5 K)) "__init__" = some (some (.ref (Hd.fAt K "InvalidLimit")))),
  decide (PySem.W.typeIn K (.ref (Hd.fAt K "InvalidLimit")) = some (.type "function")),
  decide (PySem.W.ks_superIn K (gA5 K) (gA5 K) "__init__" = some (some (.builtin "ValueError.__init__"))),
  decide (PySem.W.subIn K (.ref (gA5 K)) (.type "ValueError") = some true),
  decide (PySem.W.mroIn K (gA5 K) (.ref (gA5 K)) = some true),
  decide (PySem.W.findIn K (.ref (gA5 K)) "__getattribute__" = some (some (.builtin "BaseException.__getattribute__"))),
  decide (PySem.W.findIn K (.ref (gA5 K)) "__getattr__" = some none),
  decide (PySem.W.hasDictIn K (gA5 K) = true),
  decide (PySem.W.findIn K (.ref (gA5 K)) "given" = some none),
  decide (PySem.W.findIn K (.ref (gA5 K)) "code" = some none),
  decide (PySem.W.findIn K (.ref (gA3 K)) "__setattr__" = some (some (.builtin "object.__setattr__"))),
  decide (PySem.W.subIn K (.ref (gA3 K)) (.type "BaseException") = some true),
  decide (PySem.W.typeIn K (.ref (gA3 K)) = some (.type "type")),
  decide (PySem.W.keepIn K (.ref (gA3 K)) = true),
  decide (PySem.W.findIn K (.ref (gA3 K)) "__init__" = some (some (.ref (Hd.fAt K "InvalidCommand")))),
  decide (PySem.W.typeIn K (.ref (Hd.fAt K "InvalidCommand")) = some (.type "function")),
  decide (PySem.W.ks_superIn K (gA3 K) (gA3 K) "__init__" = some (some (.builtin "ValueError.__init__"))),
  decide (PySem.W.subIn K (.ref (gA3 K)) (.type "ValueError") = some true)]
def exL9 (K : PySem.W.Frag) : List Bool := [decide (PySem.W.mroIn K (gA3 K) (.ref (gA3 K)) = some true),
  decide (PySem.W.findIn K (.ref (gA3 K)) "__getattribute__" = some (some (.builtin "BaseException.__getattribute__"))),
  decide (PySem.W.findIn K (.ref (gA3 K)) "__getattr__" = some none),
  decide (PySem.W.hasDictIn K (gA3 K) = true),
  decide (PySem.W.findIn K (.ref (gA3 K)) "at" = some none),
  decide (PySem.W.findIn K (.ref (gA3 K)) "code" = some none),
  decide (PySem.W.findIn K (.ref (gA0 K)) "__setattr__" = some (some (.builtin "object.__setattr__"))),
  decide (PySem.W.subIn K (.ref (gA0 K)) (.type "BaseException") = some true),
  decide (PySem.W.typeIn K (.ref (gA0 K)) = some (.type "type")),
  decide (PySem.W.keepIn K (.ref (gA0 K)) = true),
  decide (PySem.W.findIn K (.ref (gA0 K)) "__init__" = some (some (.ref (Hd.fAt K "DuplicateName")))),
  decide (PySem.W.typeIn K (.ref (Hd.fAt K "DuplicateName")) = some (.type "function")),
  decide (PySem.W.ks_superIn K (gA0 K) (gA0 K) "__init__" = some (some (.builtin "ValueError.__init__"))),
  decide (PySem.W.subIn K (.ref (gA0 K)) (.type "ValueError") = some true),
  decide (PySem.W.mroIn K (gA0 K) (.ref (gA0 K)) = some true),
  decide (PySem.W.findIn K (.ref (gA0 K)) "__getattribute__" = some (some (.builtin "BaseException.__getattribute__"))),
  decide (PySem.W.findIn K (.ref (gA0 K)) "__getattr__" = some none),
  decide (PySem.W.hasDictIn K (gA0 K) = true),
  decide (PySem.W.findIn K (.ref (gA0 K)) "name" = some none),
  decide (PySem.W.findIn K (.ref (gA0 K)) "code" = some none)]
def exL10 (K : PySem.W.Frag) : List Bool := [decide (PySem.W.findIn K (.ref (gA23 K)) "__setattr__" = some (some (.builtin "object.__setattr__"))),
  decide (PySem.W.subIn K (.ref (gA23 K)) (.type "BaseException") = some true),
  decide (PySem.W.typeIn K (.ref (gA23 K)) = some (.type "type")),
  decide (PySem.W.keepIn K (.ref (gA23 K)) = true),
  decide (PySem.W.findIn K (.ref (gA23 K)) "__init__" = some (some (.ref (Hd.fAt K "WrongKind")))),
  decide (PySem.W.typeIn K (.ref (Hd.fAt K "WrongKind")) = some (.type "function")),
  decide (PySem.W.ks_superIn K (gA23 K) (gA23 K) "__init__" = some (some (.builtin "ValueError.__init__"))),
  decide (PySem.W.subIn K (.ref (gA23 K)) (.type "ValueError") = some true),
  decide (PySem.W.mroIn K (gA23 K) (.ref (gA23 K)) = some true),
  decide (PySem.W.findIn K (.ref (gA23 K)) "__getattribute__" = some (some (.builtin "BaseException.__getattribute__"))),
  decide (PySem.W.findIn K (.ref (gA23 K)) "__getattr__" = some none),
  decide (PySem.W.hasDictIn K (gA23 K) = true),
  decide (PySem.W.findIn K (.ref (gA23 K)) "name" = some none),
  decide (PySem.W.findIn K (.ref (gA23 K)) "code" = some none),
  decide (PySem.W.findIn K (.ref (gA20 K)) "__setattr__" = some (some (.builtin "object.__setattr__"))),
  decide (PySem.W.subIn K (.ref (gA20 K)) (.type "BaseException") = some true),
  decide (PySem.W.typeIn K (.ref (gA20 K)) = some (.type "type")),
  decide (PySem.W.keepIn K (.ref (gA20 K)) = true),
  decide (PySem.W.findIn K (.ref (gA20 K)) "__init__" = some (some (.ref (Hd.fAt K "TooMany")))),
  decide (PySem.W.typeIn K (.ref (Hd.fAt K "TooMany")) = some (.type "function"))]
def exL11 (K : PySem.W.Frag) : List Bool := [decide (PySem.W.ks_superIn K (gA20 K) (gA20 K) "__init__" = some (some (.builtin "ValueError.__init__"))),
  decide (PySem.W.subIn K (.ref (gA20 K)) (.type "ValueError") = some true),
  decide (PySem.W.mroIn K (gA20 K) (.ref (gA20 K)) = some true),
  decide (PySem.W.findIn K (.ref (gA20 K)) "__getattribute__" = some (some (.builtin "BaseException.__getattribute__"))),
  decide (PySem.W.findIn K (.ref (gA20 K)) "__getattr__" = some none),
  decide (PySem.W.hasDictIn K (gA20 K) = true),
  decide (PySem.W.findIn K (.ref (gA20 K)) "subject" = some none),
  decide (PySem.W.findIn K (.ref (gA20 K)) "most" = some none),
  decide (PySem.W.findIn K (.ref (gA20 K)) "code" = some none),
  decide (PySem.W.findIn K (.ref (gA19 K)) "__setattr__" = some (some (.builtin "object.__setattr__"))),
  decide (PySem.W.subIn K (.ref (gA19 K)) (.type "BaseException") = some true),
  decide (PySem.W.typeIn K (.ref (gA19 K)) = some (.type "type")),
  decide (PySem.W.keepIn K (.ref (gA19 K)) = true),
  decide (PySem.W.findIn K (.ref (gA19 K)) "__init__" = some (some (.ref (Hd.fAt K "TooLong")))),
  decide (PySem.W.typeIn K (.ref (Hd.fAt K "TooLong")) = some (.type "function")),
  decide (PySem.W.ks_superIn K (gA19 K) (gA19 K) "__init__" = some (some (.builtin "ValueError.__init__"))),
  decide (PySem.W.subIn K (.ref (gA19 K)) (.type "ValueError") = some true),
  decide (PySem.W.mroIn K (gA19 K) (.ref (gA19 K)) = some true),
  decide (PySem.W.findIn K (.ref (gA19 K)) "__getattribute__" = some (some (.builtin "BaseException.__getattribute__"))),
  decide (PySem.W.findIn K (.ref (gA19 K)) "__getattr__" = some none)]
def exL12 (K : PySem.W.Frag) : List Bool := [decide (PySem.W.hasDictIn K (gA19 K) = true),
  decide (PySem.W.findIn K (.ref (gA19 K)) "most" = some none),
  decide (PySem.W.findIn K (.ref (gA19 K)) "code" = some none),
  decide (PySem.W.findIn K (.ref (gA1 K)) "__setattr__" = some (some (.builtin "object.__setattr__"))),
  decide (PySem.W.subIn K (.ref (gA1 K)) (.type "BaseException") = some true),
  decide (PySem.W.typeIn K (.ref (gA1 K)) = some (.type "type")),
  decide (PySem.W.keepIn K (.ref (gA1 K)) = true),
  decide (PySem.W.findIn K (.ref (gA1 K)) "__init__" = some (some (.ref (Hd.fAt K "Full")))),
  decide (PySem.W.typeIn K (.ref (Hd.fAt K "Full")) = some (.type "function")),
  decide (PySem.W.ks_superIn K (gA1 K) (gA1 K) "__init__" = some (some (.builtin "ValueError.__init__"))),
  decide (PySem.W.subIn K (.ref (gA1 K)) (.type "ValueError") = some true),
  decide (PySem.W.mroIn K (gA1 K) (.ref (gA1 K)) = some true),
  decide (PySem.W.findIn K (.ref (gA1 K)) "__getattribute__" = some (some (.builtin "BaseException.__getattribute__"))),
  decide (PySem.W.findIn K (.ref (gA1 K)) "__getattr__" = some none),
  decide (PySem.W.hasDictIn K (gA1 K) = true),
  decide (PySem.W.findIn K (.ref (gA1 K)) "most" = some none),
  decide (PySem.W.findIn K (.ref (gA1 K)) "code" = some none),
  decide (PySem.W.findIn K (.ref (gA24 K)) "__setattr__" = some (some (.builtin "object.__setattr__"))),
  decide (PySem.W.subIn K (.ref (gA24 K)) (.type "BaseException") = some true),
  decide (PySem.W.typeIn K (.ref (gA24 K)) = some (.type "type"))]
def exL13 (K : PySem.W.Frag) : List Bool := [decide (PySem.W.keepIn K (.ref (gA24 K)) = true),
  decide (PySem.W.findIn K (.ref (gA24 K)) "__init__" = some (some (.ref (Hd.fAt K "WrongWord")))),
  decide (PySem.W.typeIn K (.ref (Hd.fAt K "WrongWord")) = some (.type "function")),
  decide (PySem.W.ks_superIn K (gA24 K) (gA24 K) "__init__" = some (some (.builtin "ValueError.__init__"))),
  decide (PySem.W.subIn K (.ref (gA24 K)) (.type "ValueError") = some true),
  decide (PySem.W.mroIn K (gA24 K) (.ref (gA24 K)) = some true),
  decide (PySem.W.findIn K (.ref (gA24 K)) "__getattribute__" = some (some (.builtin "BaseException.__getattribute__"))),
  decide (PySem.W.findIn K (.ref (gA24 K)) "__getattr__" = some none),
  decide (PySem.W.hasDictIn K (gA24 K) = true),
  decide (PySem.W.findIn K (.ref (gA24 K)) "at" = some none),
  decide (PySem.W.findIn K (.ref (gA24 K)) "why" = some none),
  decide (PySem.W.findIn K (.ref (gA24 K)) "code" = some none),
  decide (PySem.W.findIn K (.ref (gA15 K)) "__setattr__" = some (some (.builtin "object.__setattr__"))),
  decide (PySem.W.subIn K (.ref (gA15 K)) (.type "BaseException") = some true),
  decide (PySem.W.typeIn K (.ref (gA15 K)) = some (.type "type")),
  decide (PySem.W.keepIn K (.ref (gA15 K)) = true),
  decide (PySem.W.findIn K (.ref (gA15 K)) "__init__" = some (some (.ref (Hd.fAt K "Mixed")))),
  decide (PySem.W.typeIn K (.ref (Hd.fAt K "Mixed")) = some (.type "function")),
  decide (PySem.W.ks_superIn K (gA15 K) (gA15 K) "__init__" = some (some (.builtin "ValueError.__init__"))),
  decide (PySem.W.subIn K (.ref (gA15 K)) (.type "ValueError") = some true)]
def exL14 (K : PySem.W.Frag) : List Bool := [decide (PySem.W.mroIn K (gA15 K) (.ref (gA15 K)) = some true),
  decide (PySem.W.findIn K (.ref (gA15 K)) "__getattribute__" = some (some (.builtin "BaseException.__getattribute__"))),
  decide (PySem.W.findIn K (.ref (gA15 K)) "__getattr__" = some none),
  decide (PySem.W.hasDictIn K (gA15 K) = true),
  decide (PySem.W.findIn K (.ref (gA15 K)) "code" = some none),
  decide (PySem.W.findIn K (.ref (gA17 K)) "__setattr__" = some (some (.builtin "object.__setattr__"))),
  decide (PySem.W.subIn K (.ref (gA17 K)) (.type "BaseException") = some true),
  decide (PySem.W.typeIn K (.ref (gA17 K)) = some (.type "type")),
  decide (PySem.W.keepIn K (.ref (gA17 K)) = true),
  decide (PySem.W.findIn K (.ref (gA17 K)) "__init__" = some (some (.ref (Hd.fAt K "NotLive")))),
  decide (PySem.W.typeIn K (.ref (Hd.fAt K "NotLive")) = some (.type "function")),
  decide (PySem.W.ks_superIn K (gA17 K) (gA17 K) "__init__" = some (some (.builtin "ValueError.__init__"))),
  decide (PySem.W.subIn K (.ref (gA17 K)) (.type "ValueError") = some true),
  decide (PySem.W.mroIn K (gA17 K) (.ref (gA17 K)) = some true),
  decide (PySem.W.findIn K (.ref (gA17 K)) "__getattribute__" = some (some (.builtin "BaseException.__getattribute__"))),
  decide (PySem.W.findIn K (.ref (gA17 K)) "__getattr__" = some none),
  decide (PySem.W.hasDictIn K (gA17 K) = true),
  decide (PySem.W.findIn K (.ref (gA17 K)) "code" = some none),
  decide (PySem.W.findIn K (.ref (gA16 K)) "__setattr__" = some (some (.builtin "object.__setattr__"))),
  decide (PySem.W.subIn K (.ref (gA16 K)) (.type "BaseException") = some true)]
def exL15 (K : PySem.W.Frag) : List Bool := [decide (PySem.W.typeIn K (.ref (gA16 K)) = some (.type "type")),
  decide (PySem.W.keepIn K (.ref (gA16 K)) = true),
  decide (PySem.W.findIn K (.ref (gA16 K)) "__init__" = some (some (.ref (Hd.fAt K "NoWord")))),
  decide (PySem.W.typeIn K (.ref (Hd.fAt K "NoWord")) = some (.type "function")),
  decide (PySem.W.ks_superIn K (gA16 K) (gA16 K) "__init__" = some (some (.builtin "ValueError.__init__"))),
  decide (PySem.W.subIn K (.ref (gA16 K)) (.type "ValueError") = some true),
  decide (PySem.W.mroIn K (gA16 K) (.ref (gA16 K)) = some true),
  decide (PySem.W.findIn K (.ref (gA16 K)) "__getattribute__" = some (some (.builtin "BaseException.__getattribute__"))),
  decide (PySem.W.findIn K (.ref (gA16 K)) "__getattr__" = some none),
  decide (PySem.W.hasDictIn K (gA16 K) = true),
  decide (PySem.W.findIn K (.ref (gA16 K)) "code" = some none),
  decide (PySem.W.findIn K (.ref (gA22 K)) "__setattr__" = some (some (.builtin "object.__setattr__"))),
  decide (PySem.W.subIn K (.ref (gA22 K)) (.type "BaseException") = some true),
  decide (PySem.W.typeIn K (.ref (gA22 K)) = some (.type "type")),
  decide (PySem.W.keepIn K (.ref (gA22 K)) = true),
  decide (PySem.W.findIn K (.ref (gA22 K)) "__init__" = some (some (.ref (Hd.fAt K "Unlike")))),
  decide (PySem.W.typeIn K (.ref (Hd.fAt K "Unlike")) = some (.type "function")),
  decide (PySem.W.ks_superIn K (gA22 K) (gA22 K) "__init__" = some (some (.builtin "ValueError.__init__"))),
  decide (PySem.W.subIn K (.ref (gA22 K)) (.type "ValueError") = some true),
  decide (PySem.W.mroIn K (gA22 K) (.ref (gA22 K)) = some true)]
def exL16 (K : PySem.W.Frag) : List Bool := [decide (PySem.W.findIn K (.ref (gA22 K)) "__getattribute__" = some (some (.builtin "BaseException.__getattribute__"))),
  decide (PySem.W.findIn K (.ref (gA22 K)) "__getattr__" = some none),
  decide (PySem.W.hasDictIn K (gA22 K) = true),
  decide (PySem.W.findIn K (.ref (gA22 K)) "code" = some none),
  decide (PySem.W.findIn K (.ref (gA21 K)) "__setattr__" = some (some (.builtin "object.__setattr__"))),
  decide (PySem.W.subIn K (.ref (gA21 K)) (.type "BaseException") = some true),
  decide (PySem.W.typeIn K (.ref (gA21 K)) = some (.type "type")),
  decide (PySem.W.keepIn K (.ref (gA21 K)) = true),
  decide (PySem.W.findIn K (.ref (gA21 K)) "__init__" = some (some (.ref (Hd.fAt K "UnknownName")))),
  decide (PySem.W.typeIn K (.ref (Hd.fAt K "UnknownName")) = some (.type "function")),
  decide (PySem.W.ks_superIn K (gA21 K) (gA21 K) "__init__" = some (some (.builtin "LookupError.__init__"))),
  decide (PySem.W.subIn K (.ref (gA21 K)) (.type "LookupError") = some true),
  decide (PySem.W.mroIn K (gA21 K) (.ref (gA21 K)) = some true),
  decide (PySem.W.findIn K (.ref (gA21 K)) "__getattribute__" = some (some (.builtin "BaseException.__getattribute__"))),
  decide (PySem.W.findIn K (.ref (gA21 K)) "__getattr__" = some none),
  decide (PySem.W.hasDictIn K (gA21 K) = true),
  decide (PySem.W.findIn K (.ref (gA21 K)) "name" = some none),
  decide (PySem.W.findIn K (.ref (gA21 K)) "code" = some none),
  decide (PySem.W.findIn K (.ref (gA18 K)) "__setattr__" = some (some (.builtin "object.__setattr__"))),
  decide (PySem.W.subIn K (.ref (gA18 K)) (.type "BaseException") = some true)]
def exL17 (K : PySem.W.Frag) : List Bool := [decide (PySem.W.typeIn K (.ref (gA18 K)) = some (.type "type")),
  decide (PySem.W.keepIn K (.ref (gA18 K)) = true),
  decide (PySem.W.findIn K (.ref (gA18 K)) "__init__" = some (some (.ref (Hd.fAt K "NothingLeft")))),
  decide (PySem.W.typeIn K (.ref (Hd.fAt K "NothingLeft")) = some (.type "function")),
  decide (PySem.W.ks_superIn K (gA18 K) (gA18 K) "__init__" = some (some (.builtin "IndexError.__init__"))),
  decide (PySem.W.subIn K (.ref (gA18 K)) (.type "IndexError") = some true),
  decide (PySem.W.mroIn K (gA18 K) (.ref (gA18 K)) = some true),
  decide (PySem.W.findIn K (.ref (gA18 K)) "__getattribute__" = some (some (.builtin "BaseException.__getattribute__"))),
  decide (PySem.W.findIn K (.ref (gA18 K)) "__getattr__" = some none),
  decide (PySem.W.hasDictIn K (gA18 K) = true),
  decide (PySem.W.findIn K (.ref (gA18 K)) "code" = some none),
  decide (PySem.W.specialIn K (.builtin "object.__class__") "__get__" = some (some (.builtin "getset_descriptor.__get__"))),
  decide (PySem.W.takesIn K (.builtin "object.__class__") = some true),
  decide (PySem.W.nsIn K mainGlobals "IndexError" = some none),
  decide (PySem.W.nsIn K mainGlobals "LookupError" = some none),
  decide (PySem.W.nsIn K mainGlobals "ValueError" = some none),
  decide (PySem.W.findIn K (.ref (gA12 K)) "__class__" = some (some (.builtin "object.__class__"))),
  decide (PySem.W.mroIn K (gA12 K) (.type "object") = some true),
  decide (PySem.W.kitOne K (.ref (gA12 K)) (.ref (gA13 K)) = some true),
  decide (PySem.W.kitOne K (.ref (gA12 K)) (.ref (gA14 K)) = some false)]
def exL18 (K : PySem.W.Frag) : List Bool := [decide (PySem.W.kitOne K (.ref (gA12 K)) (.type "IndexError") = some false),
  decide (PySem.W.kitOne K (.ref (gA12 K)) (.type "LookupError") = some false),
  decide (PySem.W.kitOne K (.ref (gA12 K)) (.type "ValueError") = some true),
  decide (PySem.W.findIn K (.ref (gA20 K)) "__class__" = some (some (.builtin "object.__class__"))),
  decide (PySem.W.mroIn K (gA20 K) (.type "object") = some true),
  decide (PySem.W.kitOne K (.ref (gA20 K)) (.ref (gA13 K)) = some true),
  decide (PySem.W.kitOne K (.ref (gA20 K)) (.ref (gA14 K)) = some false),
  decide (PySem.W.kitOne K (.ref (gA20 K)) (.type "IndexError") = some false),
  decide (PySem.W.kitOne K (.ref (gA20 K)) (.type "LookupError") = some false),
  decide (PySem.W.kitOne K (.ref (gA20 K)) (.type "ValueError") = some true),
  decide (PySem.W.findIn K (.ref (gA15 K)) "__class__" = some (some (.builtin "object.__class__"))),
  decide (PySem.W.mroIn K (gA15 K) (.type "object") = some true),
  decide (PySem.W.kitOne K (.ref (gA15 K)) (.ref (gA13 K)) = some true),
  decide (PySem.W.kitOne K (.ref (gA15 K)) (.ref (gA14 K)) = some false),
  decide (PySem.W.kitOne K (.ref (gA15 K)) (.type "IndexError") = some false),
  decide (PySem.W.kitOne K (.ref (gA15 K)) (.type "LookupError") = some false),
  decide (PySem.W.kitOne K (.ref (gA15 K)) (.type "ValueError") = some true),
  decide (PySem.W.findIn K (.ref (gA24 K)) "__class__" = some (some (.builtin "object.__class__"))),
  decide (PySem.W.mroIn K (gA24 K) (.type "object") = some true),
  decide (PySem.W.kitOne K (.ref (gA24 K)) (.ref (gA13 K)) = some true)]
def exL19 (K : PySem.W.Frag) : List Bool := [decide (PySem.W.kitOne K (.ref (gA24 K)) (.ref (gA14 K)) = some false),
  decide (PySem.W.kitOne K (.ref (gA24 K)) (.type "IndexError") = some false),
  decide (PySem.W.kitOne K (.ref (gA24 K)) (.type "LookupError") = some false),
  decide (PySem.W.kitOne K (.ref (gA24 K)) (.type "ValueError") = some true),
  decide (PySem.W.findIn K (.ref (gA1 K)) "__class__" = some (some (.builtin "object.__class__"))),
  decide (PySem.W.mroIn K (gA1 K) (.type "object") = some true),
  decide (PySem.W.kitOne K (.ref (gA1 K)) (.ref (gA13 K)) = some true),
  decide (PySem.W.kitOne K (.ref (gA1 K)) (.ref (gA14 K)) = some false),
  decide (PySem.W.kitOne K (.ref (gA1 K)) (.type "IndexError") = some false),
  decide (PySem.W.kitOne K (.ref (gA1 K)) (.type "LookupError") = some false),
  decide (PySem.W.kitOne K (.ref (gA1 K)) (.type "ValueError") = some true),
  decide (PySem.W.findIn K (.ref (gA21 K)) "__class__" = some (some (.builtin "object.__class__"))),
  decide (PySem.W.mroIn K (gA21 K) (.type "object") = some true),
  decide (PySem.W.kitOne K (.ref (gA21 K)) (.ref (gA13 K)) = some false),
  decide (PySem.W.kitOne K (.ref (gA21 K)) (.ref (gA14 K)) = some true),
  decide (PySem.W.kitOne K (.ref (gA21 K)) (.type "IndexError") = some false),
  decide (PySem.W.kitOne K (.ref (gA21 K)) (.type "LookupError") = some true),
  decide (PySem.W.kitOne K (.ref (gA21 K)) (.type "ValueError") = some false),
  decide (PySem.W.findIn K (.ref (gA18 K)) "__class__" = some (some (.builtin "object.__class__"))),
  decide (PySem.W.mroIn K (gA18 K) (.type "object") = some true)]
def exL20 (K : PySem.W.Frag) : List Bool := [decide (PySem.W.kitOne K (.ref (gA18 K)) (.ref (gA13 K)) = some false),
  decide (PySem.W.kitOne K (.ref (gA18 K)) (.ref (gA14 K)) = some false),
  decide (PySem.W.kitOne K (.ref (gA18 K)) (.type "IndexError") = some true),
  decide (PySem.W.kitOne K (.ref (gA18 K)) (.type "LookupError") = some true),
  decide (PySem.W.kitOne K (.ref (gA18 K)) (.type "ValueError") = some false),
  decide (PySem.W.nsIn K mainGlobals "len" = some none),
  decide (PySem.W.nsIn K mainGlobals "int" = some none),
  decide (PySem.W.nsIn K mainGlobals "str" = some none),
  decide (PySem.W.nsIn K mainGlobals "bool" = some none),
  decide (PySem.W.nsIn K mainGlobals "list" = some none),
  decide (PySem.W.nsIn K mainGlobals "tuple" = some none),
  decide (PySem.W.nsIn K mainGlobals "range" = some none),
  decide (PySem.W.nsIn K mainGlobals "isinstance" = some none),
  decide (PySem.W.nsIn K mainGlobals "all" = some none),
  decide (PySem.W.nsIn K mainGlobals "any" = some none),
  decide (PySem.W.nsIn K mainGlobals "sum" = some none),
  decide (PySem.W.nsIn K mainGlobals "max" = some none),
  decide (PySem.W.nsIn K mainGlobals "min" = some none),
  decide (PySem.W.nsIn K mainGlobals "sorted" = some none),
  decide (PySem.W.nsIn K mainGlobals "enumerate" = some none)]
def exL21 (K : PySem.W.Frag) : List Bool := [decide (PySem.W.nsIn K mainGlobals "zip" = some none),
  decide (PySem.W.nsIn K mainGlobals "dict" = some none),
  decide (PySem.W.nsIn K mainGlobals "set" = some none),
  decide (PySem.W.nsIn K mainGlobals "repr" = some none),
  decide (PySem.W.nsIn K mainGlobals "super" = some none),
  Hd.excChk "ValueError.__new__" [.type "ValueError", .type "Exception", .type "BaseException", .type "object"] K P.main.file "InvalidWord" "InvalidWord.__init__",
  Hd.excChk "ValueError.__new__" [.type "ValueError", .type "Exception", .type "BaseException", .type "object"] K P.main.file "InvalidName" "InvalidName.__init__",
  Hd.excChk "ValueError.__new__" [.type "ValueError", .type "Exception", .type "BaseException", .type "object"] K P.main.file "InvalidNumber" "InvalidNumber.__init__",
  Hd.excChk "ValueError.__new__" [.type "ValueError", .type "Exception", .type "BaseException", .type "object"] K P.main.file "InvalidRule" "InvalidRule.__init__",
  Hd.excChk "ValueError.__new__" [.type "ValueError", .type "Exception", .type "BaseException", .type "object"] K P.main.file "InvalidRow" "InvalidRow.__init__",
  Hd.excChk "ValueError.__new__" [.type "ValueError", .type "Exception", .type "BaseException", .type "object"] K P.main.file "InvalidChange" "InvalidChange.__init__",
  Hd.excChk "ValueError.__new__" [.type "ValueError", .type "Exception", .type "BaseException", .type "object"] K P.main.file "InvalidKey" "InvalidKey.__init__",
  Hd.excChk "ValueError.__new__" [.type "ValueError", .type "Exception", .type "BaseException", .type "object"] K P.main.file "InvalidText" "InvalidText.__init__",
  Hd.excChk "ValueError.__new__" [.type "ValueError", .type "Exception", .type "BaseException", .type "object"] K P.main.file "InvalidWish" "InvalidWish.__init__",
  Hd.excChk "ValueError.__new__" [.type "ValueError", .type "Exception", .type "BaseException", .type "object"] K P.main.file "InvalidLimit" "InvalidLimit.__init__",
  Hd.excChk "ValueError.__new__" [.type "ValueError", .type "Exception", .type "BaseException", .type "object"] K P.main.file "InvalidCommand" "InvalidCommand.__init__",
  Hd.excChk "ValueError.__new__" [.type "ValueError", .type "Exception", .type "BaseException", .type "object"] K P.main.file "DuplicateName" "DuplicateName.__init__",
  Hd.excChk "ValueError.__new__" [.type "ValueError", .type "Exception", .type "BaseException", .type "object"] K P.main.file "WrongKind" "WrongKind.__init__",
  Hd.excChk "ValueError.__new__" [.type "ValueError", .type "Exception", .type "BaseException", .type "object"] K P.main.file "TooMany" "TooMany.__init__",
  Hd.excChk "ValueError.__new__" [.type "ValueError", .type "Exception", .type "BaseException", .type "object"] K P.main.file "TooLong" "TooLong.__init__"]
def exL22 (K : PySem.W.Frag) : List Bool := [Hd.excChk "ValueError.__new__" [.type "ValueError", .type "Exception", .type "BaseException", .type "object"] K P.main.file "Full" "Full.__init__",
  Hd.excChk "ValueError.__new__" [.type "ValueError", .type "Exception", .type "BaseException", .type "object"] K P.main.file "WrongWord" "WrongWord.__init__",
  Hd.excChk "ValueError.__new__" [.type "ValueError", .type "Exception", .type "BaseException", .type "object"] K P.main.file "Mixed" "Mixed.__init__",
  Hd.excChk "ValueError.__new__" [.type "ValueError", .type "Exception", .type "BaseException", .type "object"] K P.main.file "NotLive" "NotLive.__init__",
  Hd.excChk "ValueError.__new__" [.type "ValueError", .type "Exception", .type "BaseException", .type "object"] K P.main.file "NoWord" "NoWord.__init__",
  Hd.excChk "ValueError.__new__" [.type "ValueError", .type "Exception", .type "BaseException", .type "object"] K P.main.file "Unlike" "Unlike.__init__",
  Hd.excChk "LookupError.__new__" [.type "LookupError", .type "Exception", .type "BaseException", .type "object"] K P.main.file "UnknownName" "UnknownName.__init__",
  Hd.excChk "IndexError.__new__" [.type "IndexError", .type "LookupError", .type "Exception", .type "BaseException", .type "object"] K P.main.file "NothingLeft" "NothingLeft.__init__"]
def exA0 (K : PySem.W.Frag) : List Bool := [(exL0 K).all id, (exL1 K).all id, (exL2 K).all id, (exL3 K).all id, (exL4 K).all id, (exL5 K).all id, (exL6 K).all id, (exL7 K).all id, (exL8 K).all id, (exL9 K).all id, (exL10 K).all id, (exL11 K).all id]
def exP0 (K : PySem.W.Frag) : Bool := (exA0 K).all id
def exA1 (K : PySem.W.Frag) : List Bool := [(exL12 K).all id, (exL13 K).all id, (exL14 K).all id, (exL15 K).all id, (exL16 K).all id, (exL17 K).all id, (exL18 K).all id, (exL19 K).all id, (exL20 K).all id, (exL21 K).all id, (exL22 K).all id]
def exP1 (K : PySem.W.Frag) : Bool := (exA1 K).all id
def exF (K : PySem.W.Frag) : Bool := (exA0 K ++ exA1 K).all id
def sdO : Hd.SdL := []
def nmL0 : List PySem.Str := ["LineError", "InvalidWord", "InvalidName", "InvalidNumber", "InvalidRule", "InvalidRow", "InvalidChange", "InvalidKey", "InvalidText", "InvalidWish", "InvalidLimit", "InvalidCommand", "DuplicateName", "WrongKind", "TooMany", "TooLong", "Full", "WrongWord", "Mixed", "NotLive", "NoWord", "Unlike", "Missing", "UnknownName", "NothingLeft", "_law_feed", "_law_take", "_law_of", "_law_same", "_law_bases"]
def nmL : List PySem.Str := nmL0
abbrev iLaw : Nat := 32
end Toy
namespace HdR
open PySem PySem.Spec PyProof.Rows L2 Toy
abbrev asL : (Addr → Option Obj) → List Addr := Hd.asY
abbrev rowR : PySem.W.OpenRow := PySem.W.OpenLaw.row PySem.Challenge.rw_tabsure_k01_errors_by_themselves
abbrev hk : PySem.W.Hook := Hd.hookY asL fnL fxL exF sdO
def ob (s : PySem.W.SharedT) : Hd.AlY := Hd.obsY asL fnL fxL exF sdO (HandSHeadRun.getT s)
theorem ob_eq (s : PySem.W.SharedT) : ob s = hk.obs s.abs := Hd.obsY_eq (HandSHeadRun.getT_eq s)
set_option maxHeartbeats 0 in
theorem runls (w : World) : Hd.LSEq rowR (PySem.W.view rowR.prog [iLaw]) 14000 nmL w := by
  intro os
  kernel_rfl
set_option maxHeartbeats 0 in
theorem run0 (w : World) : Hd.ObsEq rowR asL fnL0 fxL exP0 sdO 14000 w := by
  intro os
  kernel_rfl
set_option maxHeartbeats 0 in
theorem run1 (w : World) : Hd.ObsEq rowR asL fnL1 [] exP1 [] 14000 w := by
  intro os
  kernel_rfl
theorem run (w : World) : HandSHeadRun.RunEq rowR (PySem.W.view rowR.prog [iLaw]) hk ob 14000 nmL w := by
  have z := Hd.run_of (Hd.ls_look (runls w)) (Hd.ls_seen (runls w)) (Hd.obs_join (run0 w) (run1 w))
  have e : (fun K : PySem.W.Frag => (exP0 K && exP1 K)) = exF := funext fun K => by simp only [exF, exP0, exP1, List.all_append]
  unfold hk ob fnL
  rw [← e]
  try simp only [List.append_nil] at z
  exact z
end HdR
namespace L2
open PySem PySem.Spec PyProof.Rows
structure Cl (P : Program) (w : World) (K : PySem.W.Frag) (mg : Str → Option Value) (base : Heap) (CX : CXT) (k : Nat) (x : Str) (sp : Sp) (dvs : List V) : Prop where
  ex : ∃ (f : Addr) (fd : FuncData) (ps : List Str) (ds : List Value), FnOk P w K mg base CX k f fd ps sp ∧ mg x = some (.ref f) ∧ PySem.W.keepIn K (.ref f) = true ∧ Binds K fd ps ds ∧ Vals dvs ds
section
variable {X : Cx} {k j : Nat} {x : Str} {p pos : Pos} {t : TA} {sp : Sp} {dvs : List V} {e : Expr} {es : List Expr}
theorem pe_c (c : Cl X.prog X.w X.K X.mg X.base CX0 k x sp dvs) (hr : Room j X.A) (hk : k ≤ j) (hg : Gl X x) (ha : PA X (e :: es) t)
    (hdb : (x == ("__debug__" : Str)) = false := by decide) (he : starEach (e :: es) X.env = (false, eval e X.env) :: starEach es X.env := by rfl) (hpl : (backTo pos (starEach es X.env)).any (·.1) = false := by rfl) :
    PE X (.Call (.Name x p) (e :: es) [] pos) (tCall sp dvs E0 t) := by
  obtain ⟨f, fd, ps, ds, F, hm, kp, b, d⟩ := c.ex
  exact pe_call F (hr.mono hk) hg hm kp b d pass0 ha hdb he hpl
end
structure CalN (P : Program) (w : World) (K : PySem.W.Frag) (mg : Str → Option Value) (base : Heap) (k : Nat) (x : Str) (n : Nat) (ks : List Str) (gV : List V → List V → List V) (sp : Sp) : Prop where
  ex : ∃ (f : Addr) (fd : FuncData) (ps : List Str) (g : List Value → List Value → List Value), FnOk P w K mg base CX0 k f fd ps sp ∧ mg x = some (.ref f) ∧ PySem.W.keepIn K (.ref f) = true ∧ KBn K fd ps n ks g gV
section
variable {X : Cx} {k j n : Nat} {x : Str} {p pos : Pos} {kws : List Keyword} {tk t : TA} {ks : List Str} {gV : List V → List V → List V} {sp : Sp} {e : Expr} {es : List Expr}
end
structure Df (K : PySem.W.Frag) (mg : Str → Option Value) (x : Str) (st : Stmt) : Prop where
  ex : ∃ (f : Addr) (fd : FuncData), Fun K x x st f fd ∧ mg x = some (.ref f)
section
variable {P : Program} {w : World} {K : PySem.W.Frag} {mg : Str → Option Value} {base : Heap}
theorem cal_mk {x : Str} {st : Stmt} {N ps : List Str} {k : Nat} {sp : Sp} (D : Df K mg x st) (S : FnScope N ps (defScope st))
    (hb : ∀ (kV doc pm : Value) (an : Option Addr) (cdv ct : Value) (us : List Value), us.length = ps.length → bindArgs (PySem.W.fnOf x x (defArgs st) (defBody st) (defScope st) .none kV doc pm an cdv ct) ⟨us, []⟩ = pure (ps.zip us))
    (len : ∀ vs H Q E, sp vs H Q E → vs.length = ps.length)
    (hbody : ∀ (f : Addr) (cdv : Value) (A : Around) (outer : List Env) (s : Shared) (H : Hp) (vs : List V) (Q : VK) (E : XK), Room k (A.deeper (envOfC x (defScope st) s.heap.objs.size f cdv)) → sp vs H Q E →
      ∃ t, PSs (cxOf CX0 P w K mg base N x (defScope st) f cdv A outer s H E).nox (defBody st) t ∧ t { nx := fun _ H' => Q .non H', rt := Q } (start N vs) H) : Cl P w K mg base CX0 (k + 1) x sp [] := by
  obtain ⟨f, fd, F, hm⟩ := D.ex
  exact ⟨f, fd, ps, [], F.ok S len (hbody f), hm, F.kp, F.binds hb, .nil⟩
end
def off (H : Hp) (S : List Addr) : Hp := fun b => if b ∈ S then none else H b
theorem zaD_ (H : Hp) (S : List Addr) : Same (off H S) H := fun b o h => by
  unfold off at h
  split at h
  · cases h
  · exact h
theorem za4_ {H : Hp} {S : List Addr} {b : Addr} (h : b ∉ S) : off H S b = H b := by unfold off; rw [if_neg h]
theorem zcz_ {H : Hp} {S : List Addr} {b : Addr} (h : b ∈ S) : off H S b = none := by unfold off; rw [if_pos h]
theorem za9_ {H : Hp} {S T : List Addr} (h : ∀ b ∈ S, b ∈ T) : Same (off H T) (off H S) := fun b o e => by
  by_cases hb : b ∈ T
  · rw [zcz_ hb] at e; cases e
  · rw [za4_ hb] at e; rw [za4_ fun q => hb (h b q)]; exact e
theorem Same.offT {H H' : Hp} (S : List Addr) (s : Same H H') : Same (off H S) (off H' S) := fun b o h => by
  by_cases e : b ∈ S
  · rw [zcz_ e] at h; cases h
  · rw [za4_ e] at h ⊢; exact s b o h
def Tk (H : Hp) (S : List Addr) : Prop := ∀ b ∈ S, H b ≠ none
theorem Tk.nil {H : Hp} : Tk H [] := fun b h => by cases h
theorem Tk.cons {H : Hp} {a : Addr} {S : List Addr} (h : H a ≠ none) (t : Tk H S) : Tk H (a :: S) := fun b hb => by
  rcases List.mem_cons.mp hb with rfl | hb
  · exact h
  · exact t b hb
theorem Tk.same {H H' : Hp} {S : List Addr} (t : Tk H S) (e : Same H H') : Tk H' S := fun b hb => by
  cases q : H b with
  | none => exact absurd q (t b hb)
  | some o => rw [e b o q]; intro z; cases z
theorem zcM_ {H : Hp} {S : List Addr} {p : Addr} {o : HO} (h : p ∈ S) : off (upd H p o) S = off H S := by
  funext b
  by_cases e : b ∈ S
  · rw [zcz_ e, zcz_ e]
  · rw [za4_ e, za4_ e, upd_ne fun q => e (by rw [q]; exact h)]
theorem SqL.offT {K : PySem.W.Frag} {H : Hp} {S : List Addr} {a : Addr} {xs : List V} (h : H a = some (.lst xs)) (n : a ∉ S) : SqL K (off H S) a xs := SqL.of (by rw [za4_ n]; exact h)
theorem SqT.offT {K : PySem.W.Frag} {H : Hp} {S : List Addr} {a : Addr} {xs : List V} (h : H a = some (.tup xs)) (n : a ∉ S) : SqT K (off H S) a xs := SqT.of (by rw [za4_ n]; exact h)
theorem Same.newT {H : Hp} {p : Addr} {o : HO} (h : H p = none) : Same H (upd H p o) := fun b u e => by
  rw [upd_ne (ne_of_none e h)]; exact e
theorem Same.seqTT {K : PySem.W.Frag} {H H' : Hp} {a : Addr} {xs : List V} (e : Same H H') (h : SqT K H a xs) : SqT K H' a xs := by
  rcases h with (h | ⟨o, h⟩) | h
  · exact .inl (.inl (e _ _ h))
  · exact .inl (.inr ⟨o, e _ _ h⟩)
  · exact .inr h
mutual
theorem Dp.monoT {K : PySem.W.Frag} {H H' : Hp} (e : Same H H') : ∀ (d : PyData) {v : V}, Dp K H v d → Dp K H' v d
  | .none, _, h => by cases h; exact .non
  | .bool b, _, h => by cases h; exact .bl b
  | .int i, _, h => by cases h; exact .int i
  | .str x, _, h => by cases h; exact .str x
  | .list ds, _, h => by
    cases h with
    | lst hs ha => exact .lst (Same.seq e hs) (DpAll.monoT e ds ha)
  | .tuple ds, _, h => by
    cases h with
    | tup hs ha => exact .tup (Same.seqTT e hs) (DpAll.monoT e ds ha)
  | .dict _, _, h => by cases h
theorem DpAll.monoT {K : PySem.W.Frag} {H H' : Hp} (e : Same H H') : ∀ (ds : List PyData) {vs : List V}, DpAll K H vs ds → DpAll K H' vs ds
  | [], _, h => by cases h; exact .nil
  | d :: ds, _, h => by
    cases h with
    | cons h1 h2 => exact .cons (Dp.monoT e d h1) (DpAll.monoT e ds h2)
end
theorem DpAll.getT {K : PySem.W.Frag} {H : Hp} : ∀ {vs : List V} {ds : List PyData} {i : Nat} {v : V}, DpAll K H vs ds → vs[i]? = some v → ∃ d, ds[i]? = some d ∧ Dp K H v d
  | _, _, _, _, .nil, e => by simp at e
  | _, _, 0, _, .cons h _, e => by simp at e; subst e; exact ⟨_, rfl, h⟩
  | _, _, i + 1, _, .cons _ t, e => by
    obtain ⟨d, h1, h2⟩ := DpAll.getT (i := i) t (by simpa using e)
    exact ⟨d, by simpa using h1, h2⟩
section
variable {K : PySem.W.Frag} {H : Hp} {v : V} {d : PyData} {Q : VK}
end
structure Okd (P : Program) (w : World) (K : PySem.W.Frag) (mg : Str → Option Value) (base : Heap) (CX : CXT) (k : Nat) (x : Str) (st : Stmt) (ps : List Str) (sp : Sp) : Prop where
  ex : ∃ (f : Addr) (fd : FuncData), Fun K x x st f fd ∧ mg x = some (.ref f) ∧ FnOk P w K mg base CX k f fd ps sp
section
variable {P : Program} {w : World} {K : PySem.W.Frag} {mg : Str → Option Value} {base : Heap} {CX : CXT} {k : Nat} {x : Str} {st : Stmt} {ps : List Str} {sp : Sp}
theorem Okd.cl (o : Okd P w K mg base CX k x st ps sp) (hb : ∀ (kV doc pm : Value) (an : Option Addr) (cdv ct : Value) (us : List Value), us.length = ps.length → bindArgs (PySem.W.fnOf x x (defArgs st) (defBody st) (defScope st) .none kV doc pm an cdv ct) ⟨us, []⟩ = pure (ps.zip us)) :
    Cl P w K mg base CX k x sp [] := by
  obtain ⟨f, fd, F, hm, ok⟩ := o.ex
  exact ⟨f, fd, ps, [], ok, hm, F.kp, F.binds hb, .nil⟩
end
end L2
namespace L2
open PySem PySem.Spec PyProof.Rows
structure Txt (mg : Str → Option Value) : Prop where
  b_len : mg "len" = none
  b_int : mg "int" = none
  b_str : mg "str" = none
  b_bool : mg "bool" = none
  b_list : mg "list" = none
  b_tuple : mg "tuple" = none
  b_range : mg "range" = none
  b_isinstance : mg "isinstance" = none
  b_all : mg "all" = none
  b_any : mg "any" = none
  b_sum : mg "sum" = none
  b_max : mg "max" = none
  b_min : mg "min" = none
  b_sorted : mg "sorted" = none
  b_enumerate : mg "enumerate" = none
  b_zip : mg "zip" = none
  b_dict : mg "dict" = none
  b_set : mg "set" = none
  b_repr : mg "repr" = none
  b_super : mg "super" = none
def Feed (H : Hp) (p l : Addr) : Prop := ∃ (ns : List Int) (i c s : Int), H p = some (.lst [.ref l, .int i, .int c, .int s]) ∧ H l = some (.lst (ns.map V.int)) ∧ l ≠ p ∧ 0 ≤ i ∧ 0 ≤ c ∧ 0 ≤ s ∧ s < 2147483647 ∧ ns.length < 64
def Mv (p l : Addr) (H H' : Hp) : Prop := (∀ b o, b ≠ p → H b = some o → H' b = some o) ∧ Feed H' p l
theorem Feed.tk {p l : Addr} {H : Hp} (h : Feed H p l) : H p ≠ none := by
  obtain ⟨ns, i, c, s, h1, r⟩ := h
  rw [h1]; intro z; cases z
theorem Mv.off {p l : Addr} {H H' : Hp} {S : List Addr} (a : Mv p l H H') (h : p ∈ S) : Same (off H S) (off H' S) := fun b o e => by
  by_cases q : b ∈ S
  · rw [zcz_ q] at e; cases e
  · rw [za4_ q] at e ⊢; exact a.1 b o (fun z => q (by rw [z]; exact h)) e
theorem Mv.refl {p l : Addr} {H : Hp} (h : Feed H p l) : Mv p l H H := ⟨fun _ _ _ e => e, h⟩
theorem Mv.trans {p l : Addr} {H H1 H2 : Hp} (a : Mv p l H H1) (b : Mv p l H1 H2) : Mv p l H H2 := ⟨fun x o n e => b.1 x o n (a.1 x o n e), b.2⟩
theorem Feed.same {p l : Addr} {H H' : Hp} (h : Feed H p l) (e : Same H H') : Feed H' p l := by
  obtain ⟨ns, i, c, s, h1, h2, r⟩ := h
  exact ⟨ns, i, c, s, e _ _ h1, e _ _ h2, r⟩
theorem Mv.of_same {p l : Addr} {H H' : Hp} (h : Feed H p l) (e : Same H H') : Mv p l H H' := ⟨fun b o _ q => e b o q, h.same e⟩
theorem Mv.same {p l : Addr} {H H1 H2 : Hp} (a : Mv p l H H1) (e : Same H1 H2) : Mv p l H H2 := a.trans (Mv.of_same a.2 e)
theorem Feed.tkl {p l : Addr} {H : Hp} (h : Feed H p l) : H l ≠ none := by
  obtain ⟨ns, i, c, s, h1, h2, r⟩ := h
  rw [h2]; intro z; cases z
theorem Mv.new {p l q : Addr} {H H1 : Hp} {o : HO} (a : Mv p l H H1) (h : H1 q = none) : Mv p l H (upd H1 q o) := a.same (Same.newT h)
theorem Mv.tk {p l : Addr} {H H' : Hp} {S : List Addr} (a : Mv p l H H') (t : Tk H S) : Tk H' S := fun b hb => by
  by_cases e : b = p
  · subst e; exact a.2.tk
  · cases q : H b with
    | none => exact absurd q (t b hb)
    | some o => rw [a.1 b o e q]; intro z; cases z
theorem Feed.put {H : Hp} {p l : Addr} {ns : List Int} {i c s : Int} (h2 : H l = some (.lst (ns.map V.int))) (hl : l ≠ p) (h3 : 0 ≤ i) (h4 : 0 ≤ c) (h5 : 0 ≤ s) (h6 : s < 2147483647) (h7 : ns.length < 64) :
    Feed (upd H p (.lst [.ref l, .int i, .int c, .int s])) p l := ⟨ns, i, c, s, upd_same, by rw [upd_ne hl]; exact h2, hl, h3, h4, h5, h6, h7⟩
theorem Mv.put {H : Hp} {p l : Addr} {ns : List Int} {i c s : Int} (h2 : H l = some (.lst (ns.map V.int))) (hl : l ≠ p) (h3 : 0 ≤ i) (h4 : 0 ≤ c) (h5 : 0 ≤ s) (h6 : s < 2147483647) (h7 : ns.length < 64) :
    Mv p l H (upd H p (.lst [.ref l, .int i, .int c, .int s])) := ⟨fun b o n e => by rw [upd_ne n]; exact e, Feed.put h2 hl h3 h4 h5 h6 h7⟩
theorem Dp.on {K : PySem.W.Frag} {H : Hp} {S : List Addr} {v : V} {d : PyData} (h : Dp K (off H S) v d) : Dp K H v d := h.monoT (zaD_ H S) d
theorem DpAll.on {K : PySem.W.Frag} {H : Hp} {S : List Addr} {v : List V} {d : List PyData} (h : DpAll K (off H S) v d) : DpAll K H v d := h.monoT (zaD_ H S) d
theorem Dp.mv {K : PySem.W.Frag} {H H' : Hp} {p : Addr} {S : List Addr} {v : V} {d : PyData} (h : Dp K (off H S) v d) (m : Mv p l H H') (hp : p ∈ S) : Dp K (off H' S) v d := h.monoT (m.off hp) d
theorem DpAll.mv {K : PySem.W.Frag} {H H' : Hp} {p : Addr} {S : List Addr} {v : List V} {d : List PyData} (h : DpAll K (off H S) v d) (m : Mv p l H H') (hp : p ∈ S) : DpAll K (off H' S) v d := h.monoT (m.off hp) d
def spTake : Sp := fun vs H Q _ => ∃ (p l : Addr) (m : Int), vs = [.ref p, .int m] ∧ Feed H p l ∧ 0 < m ∧ m < 1000 ∧ ∀ (r : Int) (H' : Hp), 0 ≤ r → r < m → Mv p l H H' → Q (.int r) H'
def spFeed (K : PySem.W.Frag) : Sp := fun vs H Q _ => ∃ (a : Addr) (ns : List Int), vs = [.ref a] ∧ SqL K H a (ns.map V.int) ∧ ns.length ≤ 63 ∧ ∀ p l H', Same H H' → Feed H' p l → H p = none → H l = none → Q (.ref p) H'
theorem zcv_ {a b : Int} (h : 0 < b) : 0 ≤ a.fmod b ∧ a.fmod b < b := ⟨Int.fmod_nonneg_of_pos _ h, Int.fmod_lt_of_pos _ h⟩
end L2
namespace L2
open PySem PySem.Spec PyProof.Rows
abbrev Sp2 := List V → List V → Hp → VK → XK → Prop
structure FnA (P : Program) (w : World) (K : PySem.W.Frag) (mg : Str → Option Value) (base : Heap) (CX : CXT) (k : Nat) (f : Addr) (ks : List Str) (sp : Sp2) : Prop where
  run : ∀ (A : Around) (outer : List Env) (s : Shared) (H : Hp) (us ws : List Value) (vs zs : List V) (Q : VK) (E : XK), Room k A → Env0 P w K mg base A outer s H → Vals vs us → Vals zs ws → zs.length = ks.length → sp vs zs H Q E →
    codeAny (model P w) A (.call (.ref f) ⟨us, ks.zip ws⟩) (CR CX outer P w H s Q E) s
section
variable {P : Program} {w : World} {K : PySem.W.Frag} {mg : Str → Option Value} {base : Heap} {CX : CXT} {k j n : Nat} {f : Addr} {fd : FuncData} {ps ks : List Str} {sp : Sp} {sp2 : Sp2} {ds : List Value} {dvs : List V} {g : List Value → List Value → List Value} {gV : List V → List V → List V}
theorem FnA.mono (F : FnA P w K mg base CX j f ks sp2) (h : j ≤ k) : FnA P w K mg base CX k f ks sp2 := ⟨fun A o s H us ws vs zs Q E hr => F.run A o s H us ws vs zs Q E (hr.mono h)⟩
theorem FnA.imp {sp' : Sp2} (F : FnA P w K mg base CX k f ks sp2) (h : ∀ vs zs H Q E, sp' vs zs H Q E → sp2 vs zs H Q E) : FnA P w K mg base CX k f ks sp' :=
  ⟨fun A o s H us ws vs zs Q E hr he r1 r2 l hs => F.run A o s H us ws vs zs Q E hr he r1 r2 l (h _ _ _ _ _ hs)⟩
theorem kIn0 {A : Around} {outer : List Env} {s : Shared} {H : Hp} (e : Env0 P w K mg base A outer s H) : K.In s.heap := e.mod.kin.keeps fun b o q => (e.bs b o q).1
theorem FnOk.toA (F : FnOk P w K mg base CX k f fd ps sp) (hb : Binds K fd ps ds) (hd : Vals dvs ds) : FnA P w K mg base CX k f [] (fun vs _ H Q E => sp (vs ++ dvs) H Q E) :=
  ⟨fun A o s H us ws vs zs Q E hr he r1 r2 l hs => by
    have r := r1.append hd
    have hl : (us ++ ds).length = ps.length := by rw [← r.length]; exact F.len _ _ _ _ hs
    have := F.run A o s H ⟨us, []⟩ (us ++ ds) (vs ++ dvs) Q E hr he (hb s us (kIn0 he) hl) r hs
    simpa using this⟩
theorem FnOk.toK (F : FnOk P w K mg base CX k f fd ps sp) (hb : KBn K fd ps n ks g gV) : FnA P w K mg base CX k f ks (fun vs zs H Q E => vs.length = n ∧ sp (gV vs zs) H Q E) :=
  ⟨fun A o s H us ws vs zs Q E hr he r1 r2 l hs =>
    F.run A o s H ⟨us, ks.zip ws⟩ (g us ws) (gV vs zs) Q E hr he (hb.to s us ws (kIn0 he) (r1.length.symm.trans hs.1) (r2.length.symm.trans l)) (hb.rel r1 r2) hs.2⟩
end
section
variable {X : Cx} {CX : CXT} {k : Nat} {f : Addr} {ks : List Str} {sp : Sp2} {E : XK}
theorem run_fnA {A : Around} {pins : List (Addr × Obj)} {σ : St} {H : Hp} {s : Shared} {Q : VK} {us ws : List Value} {vs zs : List V} (F : FnA X.prog X.w X.K X.mg X.base CX k f ks sp) (hr : Room k A) (hf : A.frames = X.A.frames) (hx : Passes CX X E)
    (I : Inv X pins σ H s) (r : Vals vs us) (rz : Vals zs ws) (l : zs.length = ks.length) (h : sp vs zs H Q E) : wpAny (model X.prog X.w) A (call (.ref f) us (ks.zip ws)) (EP X pins σ Q) X.xe s := by
  have e0 : Env0 X.prog X.w X.K X.mg X.base A X.stack s H := by
    have e := I.env0
    exact ⟨by rw [hf]; exact e.frames, e.mod, e.bs, e.bsz, e.funs, e.frf, e.hok, e.bare⟩
  refine wpAny_call (codeAny_mono (F.run A X.stack s H us ws vs zs Q E hr e0 r rz l h) fun r s' hq => ?_)
  cases r with
  | error e => exact hx pins σ H s e s' I hq
  | ok fl =>
    cases fl with
    | ret u => exact I.after hq
    | next => exact False.elim hq
    | brk => exact False.elim hq
    | cont => exact False.elim hq
end
structure MtC (P : Program) (w : World) (K : PySem.W.Frag) (mg : Str → Option Value) (base : Heap) (CX : CXT) (k : Nat) (C : Addr) (m : Str) (ks : List Str) (sp : Sp2) : Prop where
  ex : ∃ f, Meth K C m f ∧ FnA P w K mg base CX k f ks sp
  cl : Cls K C
section
variable {P : Program} {w : World} {K : PySem.W.Frag} {mg : Str → Option Value} {base : Heap} {CX : CXT} {k j : Nat} {C : Addr} {m : Str} {ks : List Str} {sp sp' : Sp2}
theorem MtC.mono (F : MtC P w K mg base CX j C m ks sp) (h : j ≤ k) : MtC P w K mg base CX k C m ks sp := by
  obtain ⟨⟨f, h1, h2⟩, c⟩ := F
  exact ⟨⟨f, h1, h2.mono h⟩, c⟩
theorem MtC.imp (F : MtC P w K mg base CX k C m ks sp) (h : ∀ vs zs H Q E, sp' vs zs H Q E → sp vs zs H Q E) : MtC P w K mg base CX k C m ks sp' := by
  obtain ⟨⟨f, h1, h2⟩, c⟩ := F
  exact ⟨⟨f, h1, h2.imp h⟩, c⟩
end
section
variable {X : Cx} {CX : CXT} {k : Nat} {ks : List Str} {E : XK} {m : Str} {apos pos : Pos} {o e : Expr} {es : List Expr} {kws : List Keyword} {ta : TE} {t tk : TA} {pl : Sem Bool}
end
structure MkA (P : Program) (w : World) (K : PySem.W.Frag) (mg : Str → Option Value) (base : Heap) (CX : CXT) (k : Nat) (x : Str) (C : Addr) (ks : List Str) (sp : Sp2) : Prop where
  ex : ∃ f, Mk K C f ∧ FnA P w K mg base CX k f ks sp
  mg : mg x = some (.ref C)
section
variable {X : Cx} {CX : CXT} {k j : Nat} {C : Addr} {ks : List Str} {sp : Sp2} {E : XK} {x : Str} {p pos : Pos} {e : Expr} {es : List Expr} {kws : List Keyword} {t tk : TA}
end
structure Mk0 (K : PySem.W.Frag) (mg : Str → Option Value) (x : Str) (C : Addr) : Prop where
  makes : PySem.W.makesIn K C = true
  init : PySem.W.findIn K (.ref C) "__init__" = some (some (.builtin "object.__init__"))
  kp : PySem.W.keepIn K (.ref C) = true
  mg : mg x = some (.ref C)
section
variable {X : Cx} {C : Addr} {x : Str} {p pos : Pos}
end
inductive TyOg (K : PySem.W.Frag) (H : Hp) : V → Value → Prop where
  | base {x : V} {t : Value} (h : TyOf K H x t) : TyOg K H x t
  | fTup {a : Addr} {o : Obj} {xs : List V} (e : H a = some (.frz o (.tup xs))) : TyOg K H (.ref a) (.type "tuple")
  | kTup {a : Addr} {o : Obj} (e : K.lookup a = some o) (c : o.cls = .type "tuple") : TyOg K H (.ref a) (.type "tuple")
section
variable {prog : Program} {w : World} {A : Around} {E : Value → Shared → Prop} {s : Shared} {K : PySem.W.Frag} {x C f : Addr} {ox : Obj} {od : Option Obj} {b tb : Value}
end
structure NoNe (K : PySem.W.Frag) (C : Addr) : Prop where
  ne : PySem.W.findIn K (.ref C) "__ne__" = some (some (.builtin "object.__ne__"))
  ob : PySem.W.mroIn K C (.type "object") = some true
end L2
namespace L2
open PySem PySem.Spec PyProof.Rows
structure Fd (K : PySem.W.Frag) (x qual : Str) (st : Stmt) (dvs : List V) (kws : List (Str × V)) (f : Addr) : Prop where
  ex : ∃ fd, FunD K x qual (defArgs st) (defBody st) (defScope st) dvs kws f fd
structure Fo (P : Program) (w : World) (K : PySem.W.Frag) (mg : Str → Option Value) (base : Heap) (CX : CXT) (k : Nat) (x qual : Str) (st : Stmt) (dvs : List V) (kws : List (Str × V)) (f : Addr) (ps : List Str) (sp : Sp) : Prop where
  ex : ∃ fd, FunD K x qual (defArgs st) (defBody st) (defScope st) dvs kws f fd ∧ FnOk P w K mg base CX k f fd ps sp
section
variable {P : Program} {w : World} {K : PySem.W.Frag} {mg : Str → Option Value} {base : Heap} {CX : CXT} {k : Nat} {x qual : Str} {st : Stmt} {dvs : List V} {kws : List (Str × V)} {f : Addr} {N ps : List Str} {sp : Sp}
theorem fo_mkX (D : Fd K x qual st dvs kws f) (S : FnScope N ps (defScope st)) (len : ∀ vs H Q E, sp vs H Q E → vs.length = ps.length)
    (hbody : ∀ (cdv : Value) (A : Around) (outer : List Env) (s : Shared) (H : Hp) (vs : List V) (Q : VK) (E : XK), Room k (A.deeper (envOfC qual (defScope st) s.heap.objs.size f cdv)) → sp vs H Q E →
      ∃ t, PSs (cxOf CX P w K mg base N qual (defScope st) f cdv A outer s H E) (defBody st) t ∧ t { nx := fun _ H' => Q .non H', rt := Q } (start N vs) H) : Fo P w K mg base CX (k + 1) x qual st dvs kws f ps sp := by
  obtain ⟨fd, F⟩ := D.ex
  exact ⟨fd, F, F.ok S len hbody⟩
theorem Fo.pos (o : Fo P w K mg base CX k x qual st [] kws f ps sp) (h : ∀ (kV doc pm : Value) (an : Option Addr) (cdv ct : Value) (us : List Value), us.length = ps.length → bindArgs (PySem.W.fnOf x qual (defArgs st) (defBody st) (defScope st) .none kV doc pm an cdv ct) ⟨us, []⟩ = pure (ps.zip us)) :
    FnA P w K mg base CX k f [] (fun vs _ => sp vs) := by
  obtain ⟨fd, F, ok⟩ := o.ex
  exact (ok.toA (F.bindsN h) .nil).imp fun vs zs H Q E q => by rw [List.append_nil]; exact q
theorem Fo.key (o : Fo P w K mg base CX k x qual st [] kws f ps sp) (n : Nat) (ks : List Str) (g : {α : Type} → List α → List α → List α) (hr : ∀ {vs us zs ws}, Vals vs us → Vals zs ws → Vals (g vs zs) (g us ws))
    (h : ∀ (kV doc pm : Value) (an : Option Addr) (cdv ct : Value) (us ws : List Value), us.length = n → ws.length = ks.length → bindArgs (PySem.W.fnOf x qual (defArgs st) (defBody st) (defScope st) .none kV doc pm an cdv ct) ⟨us, ks.zip ws⟩ = pure (ps.zip (g us ws))) :
    FnA P w K mg base CX k f ks (fun vs zs H Q E => vs.length = n ∧ sp (g vs zs) H Q E) := by
  obtain ⟨fd, F, ok⟩ := o.ex
  obtain ⟨oc, od, dV, kV, doc, pm, an, cdv, ct, osl, rfl, lk, hcd, hD, hK⟩ := F.ex
  rcases hD with ⟨_, rfl⟩ | ⟨e, _⟩
  · exact ok.toK (ks := ks) (n := n) (g := fun us ws => g us ws) (gV := fun vs zs => g vs zs) ⟨fun s us ws _ l1 l2 => .of_eq (h kV doc pm an cdv ct us ws l1 l2), fun r1 r2 => hr r1 r2⟩
  · exact absurd rfl e
theorem FnR.toA {sp : Sp} (F : FnR P w K mg base CX k f sp) : FnA P w K mg base CX k f [] (fun vs _ => sp vs) := ⟨fun A o s H us ws vs zs Q E hr he r1 r2 l hs => by
  have := F A o s H us vs Q E hr he r1 hs
  simpa using this⟩
end
structure FdG (K : PySem.W.Frag) (mg : Str → Option Value) (x : Str) (st : Stmt) (dvs : List V) (kws : List (Str × V)) (f : Addr) : Prop where
  fd : Fd K x x st dvs kws f
  mg : mg x = some (.ref f)
  kp : PySem.W.keepIn K (.ref f) = true
end L2
namespace L2
open PySem
end L2
namespace PySem
end PySem
namespace L2
open PySem PySem.Spec PyProof.Rows
end L2
namespace G
open PySem PySem.Spec L2
open PyProof.Rows hiding St
inductive D where
  | non | bl (b : Bool) | int (i : Int) | str (x : Str) | lst (ds : List D) | tup (ds : List D) | ins (C : Nat) (fs : List D) | feed | fn (j : Nat) | dk (ks : List Key) (ds : List D) | dn (ks : List D) (ds : List D) | dj (ks : List Key) (ds : List D)
  deriving Inhabited
mutual
def D.nk : D → Option NestedKey
  | .non => some .none
  | .bl b => some (.num (if b then 1 else 0))
  | .int i => some (.num i)
  | .str x => some (.text x)
  | .tup ds => (D.nks ds).map .tup
  | .lst _ => none
  | .ins _ _ => none
  | .feed => none
  | .fn _ => none
  | .dk _ _ => none
  | .dn _ _ => none
  | .dj _ _ => none
def D.nks : List D → Option (List NestedKey)
  | [] => some []
  | d :: ds => match D.nk d, D.nks ds with
    | some a, some b => some (a :: b)
    | _, _ => none
end
structure Dx where
  sd : List (Addr × List (Key × V))
  hk : NestedKey → Int
def DnO (hk : NestedKey → Int) (xs : List (NestedKey × Addr)) (vs : List V) (a : Addr) : HO := .ext fun h => (a == sysModules) = false ∧ ∃ (o : Obj) (es : Array DictEntry) (ep : Nat) (us : List Value), h.get? a = some o ∧ o.ExactDict ∧ o.data = .dict es ep ∧ Vals vs us ∧ us.length = xs.length ∧
  es.toList = (xs.zip us).map (fun p => (⟨hk p.1.1, .ref p.1.2, p.2⟩ : DictEntry)) ∧ (xs.map (·.1)).Nodup ∧ ∀ p ∈ xs, p.1.depth ≤ 8
inductive M (α : Type) where
  | ret (a : α) | fail | draw (m : Nat) (k : Nat → M α) | thr (C : Nat) (fs : List D)
abbrev XD := Nat → List D → Prop
namespace M
variable {α β γ : Type}
def bind : M α → (α → M β) → M β
  | ret a, f => f a
  | fail, _ => fail
  | draw m k, f => draw m fun r => (k r).bind f
  | thr C fs, _ => thr C fs
def wp : M α → XD → (α → Prop) → Prop
  | ret a, _, Q => Q a
  | fail, _, _ => False
  | draw m k, E, Q => ∀ r, r < m → (k r).wp E Q
  | thr C fs, E, _ => E C fs
def cut : M α → M α
  | ret a => ret a
  | fail => fail
  | draw m k => draw m fun r => (k r).cut
  | thr _ _ => fail
instance : Monad M where
  pure := ret
  bind := bind
@[simp] theorem bind_ret (a : α) (f : α → M β) : (ret a).bind f = f a := rfl
@[simp] theorem bind_fail (f : α → M β) : (fail : M α).bind f = fail := rfl
@[simp] theorem bind_draw (m : Nat) (k : Nat → M α) (f : α → M β) : (draw m k).bind f = draw m fun r => (k r).bind f := rfl
@[simp] theorem bind_thr (C : Nat) (fs : List D) (f : α → M β) : (thr C fs : M α).bind f = thr C fs := rfl
@[simp] theorem cut_ret (a : α) : (ret a).cut = ret a := rfl
@[simp] theorem cut_fail : (fail : M α).cut = fail := rfl
@[simp] theorem cut_thr (C : Nat) (fs : List D) : (thr C fs : M α).cut = fail := rfl
@[simp] theorem cut_draw (m : Nat) (k : Nat → M α) : (draw m k).cut = draw m fun r => (k r).cut := rfl
variable {E E' : XD}
@[simp] theorem wp_ret (a : α) (Q : α → Prop) : (ret a).wp E Q = Q a := rfl
@[simp] theorem wp_fail (Q : α → Prop) : (fail : M α).wp E Q = False := rfl
@[simp] theorem wp_draw (m : Nat) (k : Nat → M α) (Q : α → Prop) : (draw m k).wp E Q = ∀ r, r < m → (k r).wp E Q := rfl
@[simp] theorem wp_thr (C : Nat) (fs : List D) (Q : α → Prop) : (thr C fs : M α).wp E Q = E C fs := rfl
theorem wp_monoE {Q R : α → Prop} (h : ∀ a, Q a → R a) (hE : ∀ C fs, E C fs → E' C fs) : ∀ {m : M α}, m.wp E Q → m.wp E' R
  | ret a, q => h a q
  | draw _ _, q => fun r hr => wp_monoE h hE (q r hr)
  | thr _ _, q => hE _ _ q
theorem wp_mono {Q R : α → Prop} (h : ∀ a, Q a → R a) {m : M α} (q : m.wp E Q) : m.wp E R := wp_monoE h (fun _ _ q => q) q
theorem wp_bind {f : α → M β} {Q : β → Prop} : ∀ {m : M α}, (m.bind f).wp E Q ↔ m.wp E fun a => (f a).wp E Q
  | ret _ => Iff.rfl
  | fail => Iff.rfl
  | draw _ _ => ⟨fun h r hr => wp_bind.mp (h r hr), fun h r hr => wp_bind.mpr (h r hr)⟩
  | thr _ _ => Iff.rfl
theorem cut_wp {Q : α → Prop} : ∀ {m : M α}, m.cut.wp E Q → m.wp E' Q
  | ret _, q => q
  | draw _ _, q => fun r hr => cut_wp (q r hr)
@[simp] theorem bind_eq (m : M α) (f : α → M β) : (m >>= f) = m.bind f := rfl
@[simp] theorem pure_eq (a : α) : (Pure.pure a : M α) = ret a := rfl
theorem bind_assoc (f : α → M β) (g : β → M γ) : ∀ m : M α, (m.bind f).bind g = m.bind fun a => (f a).bind g
  | ret _ => rfl
  | fail => rfl
  | draw m k => congrArg (draw m) (funext fun r => bind_assoc f g (k r))
  | thr _ _ => rfl
theorem zcL_ : ∀ m : M α, m.bind ret = m
  | ret _ => rfl
  | fail => rfl
  | draw m k => congrArg (draw m) (funext fun r => zcL_ (k r))
  | thr _ _ => rfl
instance : LawfulMonad M := LawfulMonad.mk' (id_map := fun m => zcL_ m) (pure_bind := fun _ _ => rfl) (bind_assoc := fun m f g => bind_assoc f g m)
def of : Option α → M α
  | some a => ret a
  | none => fail
@[simp] theorem of_some (a : α) : of (some a) = ret a := rfl
@[simp] theorem of_none : (of none : M α) = fail := rfl
end M
structure Fdx where
  f : Option (Addr × Addr)
  tb : List (Addr × Str)
  lm : Nat → Addr → Hp → Prop
  mono : ∀ {j : Nat} {a : Addr} {H H' : Hp}, Same H H' → lm j a H → lm j a H'
namespace Fdx
def no : Fdx := ⟨none, [], fun _ _ _ => False, fun _ h => h⟩
def mv (x : Fdx) (p : Addr) : Prop := (∃ l, x.f = some (p, l)) ∨ ∃ q, (p, q) ∈ x.tb
structure ok (x : Fdx) (H : Hp) : Prop where
  fd : ∀ p l, x.f = some (p, l) → Feed H p l
  tb : LamX.Tabs x.tb H
theorem tabs_but {tb : List (Addr × Str)} {H H' : Hp} {a : Addr} (t : LamX.Tabs tb H) (nt : ∀ q, H a ≠ some (.tbl q)) (nc : ∀ c q, H a ≠ some (LamX.CodeO c q)) (e : ∀ b o, b ≠ a → H b = some o → H' b = some o) : LamX.Tabs tb H' := fun p hp => by
  obtain ⟨ps, h1, h2, h3⟩ := t p hp
  refine ⟨ps, e _ _ (fun z => nt ps (z ▸ h1)) h1, h2, fun pos cv hc => ?_⟩
  obtain ⟨c, e1, e2⟩ := h3 pos cv hc
  exact ⟨c, e1, e _ _ (fun z => nc c p.2 (by rw [← z]; exact e2)) e2⟩
namespace ok
variable {x : Fdx} {H H' : Hp} {a : Addr}
theorem same (h : x.ok H) (e : Same H H') : x.ok H' := ⟨fun p l q => (h.fd p l q).same e, LamX.Tabs.ext h.tb fun b o q => e b o q⟩
theorem tk (h : x.ok H) (m : x.mv a) : H a ≠ none := by
  rcases m with ⟨l, m⟩ | ⟨q, m⟩
  · exact (h.fd a l m).tk
  · obtain ⟨ps, z, _⟩ := h.tb _ m
    rw [z]; intro y; cases y
theorem put {u : HO} (h : x.ok H) (n : ¬ x.mv a) (nl : ∀ p l, x.f = some (p, l) → l ≠ a) (nc : ∀ c q, H a ≠ some (LamX.CodeO c q)) : x.ok (upd H a u) where
  fd := fun p l e => by
    obtain ⟨ns, i', c, s, q1, q2, q⟩ := h.fd p l e
    exact ⟨ns, i', c, s, by rw [upd_ne (fun z => n (by rw [← z]; exact .inl ⟨l, e⟩))]; exact q1, by rw [upd_ne (nl p l e)]; exact q2, q⟩
  tb := fun p hp => by
    obtain ⟨ps, h1, h2, h3⟩ := h.tb p hp
    refine ⟨ps, by rw [upd_ne (fun z => n (by rw [← z]; exact .inr ⟨p.2, hp⟩))]; exact h1, h2, fun pos cv hc => ?_⟩
    obtain ⟨c, e1, e2⟩ := h3 pos cv hc
    exact ⟨c, e1, by rw [upd_ne (fun z => nc c p.2 (by rw [← z]; exact e2))]; exact e2⟩
end ok
end Fdx
def Tkd (H : Hp) (a : Addr) : Prop := ∃ u, H a = some u ∧ ∀ c q, u ≠ LamX.CodeO c q
theorem Tkd.ne {H : Hp} {a : Addr} (h : Tkd H a) : H a ≠ none := by
  obtain ⟨u, h, _⟩ := h
  rw [h]; intro z; cases z
theorem noCode {H : Hp} {a : Addr} {o : HO} (h : H a = some o) (n : ∀ f, o ≠ .ext f) : ∀ c q, H a ≠ some (LamX.CodeO c q) := fun c q z => by
  rw [h] at z
  exact n _ (Option.some.inj z)
structure Cf where
  K : PySem.W.Frag
  ad : Nat → Addr
  fl : Nat → List Str
  ae : Nat → Addr
  xn : Nat → List Str
  fd : Fdx
  self : Option Addr
  dx : Dx
def Cf.ok0 (g : Cf) (i : Nat) : Prop := i ≠ 0 ∨ g.self = none
def FvOk (g : Cf) (C : Nat) (fv : List (Str × V)) : Prop := fv.map Prod.fst = (g.fl C).take fv.length
def DnAt (dx : Dx) (H : Hp) (xs : List (NestedKey × Addr)) (vs : List V) (a : Addr) : Prop := ∃ o, H a = some (.frz o (DnO dx.hk xs vs a))
def DkAt (dx : Dx) (H : Hp) (a : Addr) (kvs : List (Key × V)) : Prop := (∃ o, H a = some (.frz o (.dK kvs))) ∨ (a, kvs) ∈ dx.sd
mutual
inductive Rp (g : Cf) (H : Hp) : V → D → Prop
  | non : Rp g H .non .non
  | bl (b : Bool) : Rp g H (.bl b) (.bl b)
  | int (i : Int) : Rp g H (.int i) (.int i)
  | str (x : Str) : PyData.strOk x = true → Rp g H (.str x) (.str x)
  | lst {a : Addr} {vs : List V} {ds : List D} : H a = some (.lst vs) → RpA g H vs ds → Rp g H (.ref a) (.lst ds)
  | tup {a : Addr} {vs : List V} {ds : List D} : SqT g.K H a vs → RpA g H vs ds → Rp g H (.ref a) (.tup ds)
  | ins {a dx : Addr} {C : Nat} {fv : List (Str × V)} {fs : List D} : H a = some (.ins (g.ad C) dx fv) → FvOk g C fv → RpA g H (fv.map Prod.snd) fs → Rp g H (.ref a) (.ins C fs)
  | feed {p l : Addr} : g.fd.f = some (p, l) → Rp g H (.ref p) .feed
  | fn {a : Addr} {j : Nat} : g.fd.lm j a H → Rp g H (.ref a) (.fn j)
  | dk {a : Addr} {kvs : List (Key × V)} {ks : List Key} {ds : List D} : DkAt g.dx H a kvs → kvs.map Prod.fst = ks → RpA g H (kvs.map Prod.snd) ds → Rp g H (.ref a) (.dk ks ds)
  | dn {a : Addr} {xs : List (NestedKey × Addr)} {vs : List V} {ks ds : List D} : DnAt g.dx H xs vs a → ks.map D.nk = xs.map (fun p => some p.1) → RpA g H (xs.map fun p => V.ref p.2) ks → RpA g H vs ds → Rp g H (.ref a) (.dn ks ds)
  | dj {a : Addr} {kvs : List (Key × V)} {ks : List Key} {ds : List D} : H a = some (.dK kvs) → kvs.map Prod.fst = ks → RpA g H (kvs.map Prod.snd) ds → Rp g H (.ref a) (.dj ks ds)
inductive RpA (g : Cf) (H : Hp) : List V → List D → Prop
  | nil : RpA g H [] []
  | cons {v : V} {d : D} {vs : List V} {ds : List D} : Rp g H v d → RpA g H vs ds → RpA g H (v :: vs) (d :: ds)
end
section
variable {g : Cf} {H H' : Hp}
mutual
theorem Rp.mono (e : Same H H') : ∀ (d : D) {v : V}, Rp g H v d → Rp g H' v d
  | .non, _, h => by cases h; exact .non
  | .bl b, _, h => by cases h; exact .bl b
  | .int i, _, h => by cases h; exact .int i
  | .str x, _, h => by cases h with | str _ h => exact .str x h
  | .lst ds, _, h => by
    cases h with
    | lst hs ha => exact .lst (e _ _ hs) (RpA.mono e ds ha)
  | .tup ds, _, h => by
    cases h with
    | tup hs ha => exact .tup (Same.seqTT e hs) (RpA.mono e ds ha)
  | .ins C fs, _, h => by
    cases h with
    | ins hs hf ha => exact .ins (e _ _ hs) hf (RpA.mono e fs ha)
  | .feed, _, h => by
    cases h with
    | feed h => exact .feed h
  | .fn j, _, h => by
    cases h with
    | fn h => exact .fn (g.fd.mono e h)
  | .dk ks ds, _, h => by
    cases h with
    | dk h1 h2 h3 => exact .dk (h1.imp (fun ⟨o, q⟩ => ⟨o, e _ _ q⟩) id) h2 (RpA.mono e ds h3)
  | .dn ks ds, _, h => by
    cases h with
    | dn h1 h2 h3 h4 => exact .dn (let ⟨o, q⟩ := h1; ⟨o, e _ _ q⟩) h2 (RpA.mono e ks h3) (RpA.mono e ds h4)
  | .dj ks ds, _, h => by
    cases h with
    | dj h1 h2 h3 => exact .dj (e _ _ h1) h2 (RpA.mono e ds h3)
theorem RpA.mono (e : Same H H') : ∀ (ds : List D) {vs : List V}, RpA g H vs ds → RpA g H' vs ds
  | [], _, h => by cases h; exact .nil
  | d :: ds, _, h => by
    cases h with
    | cons h1 h2 => exact .cons (Rp.mono e d h1) (RpA.mono e ds h2)
end
mutual
theorem Rp.cg {g' : Cf} (e1 : g.K = g'.K) (e2 : g.ad = g'.ad) (e3 : g.fl = g'.fl) (e4 : g.fd = g'.fd) (e5 : g.dx = g'.dx) : ∀ (d : D) {v : V}, Rp g H v d → Rp g' H v d
  | .non, _, h => by cases h; exact .non
  | .bl b, _, h => by cases h; exact .bl b
  | .int i, _, h => by cases h; exact .int i
  | .str x, _, h => by cases h with | str _ h => exact .str x h
  | .lst ds, _, h => by
    cases h with
    | lst hs ha => exact .lst hs (RpA.cg e1 e2 e3 e4 e5 ds ha)
  | .tup ds, _, h => by
    cases h with
    | tup hs ha => exact .tup (e1 ▸ hs) (RpA.cg e1 e2 e3 e4 e5 ds ha)
  | .ins C fs, _, h => by
    cases h with
    | ins hs hf ha => exact .ins (e2 ▸ hs) (by unfold FvOk at hf ⊢; rw [← e3]; exact hf) (RpA.cg e1 e2 e3 e4 e5 fs ha)
  | .feed, _, h => by
    cases h with
    | feed h => exact .feed (e4 ▸ h)
  | .fn j, _, h => by
    cases h with
    | fn h => exact .fn (e4 ▸ h)
  | .dk ks ds, _, h => by
    cases h with
    | dk h1 h2 h3 => exact .dk (e5 ▸ h1) h2 (RpA.cg e1 e2 e3 e4 e5 ds h3)
  | .dn ks ds, _, h => by
    cases h with
    | dn h1 h2 h3 h4 => exact .dn (e5 ▸ h1) h2 (RpA.cg e1 e2 e3 e4 e5 ks h3) (RpA.cg e1 e2 e3 e4 e5 ds h4)
  | .dj ks ds, _, h => by
    cases h with
    | dj h1 h2 h3 => exact .dj h1 h2 (RpA.cg e1 e2 e3 e4 e5 ds h3)
theorem RpA.cg {g' : Cf} (e1 : g.K = g'.K) (e2 : g.ad = g'.ad) (e3 : g.fl = g'.fl) (e4 : g.fd = g'.fd) (e5 : g.dx = g'.dx) : ∀ (ds : List D) {vs : List V}, RpA g H vs ds → RpA g' H vs ds
  | [], _, h => by cases h; exact .nil
  | d :: ds, _, h => by
    cases h with
    | cons h1 h2 => exact .cons (Rp.cg e1 e2 e3 e4 e5 d h1) (RpA.cg e1 e2 e3 e4 e5 ds h2)
end
theorem RpA.length : ∀ {vs : List V} {ds : List D}, RpA g H vs ds → vs.length = ds.length
  | _, _, .nil => rfl
  | _, _, .cons _ t => congrArg Nat.succ (RpA.length t)
theorem RpA.get : ∀ {vs : List V} {ds : List D} {i : Nat} {d : D}, RpA g H vs ds → ds[i]? = some d → ∃ v, vs[i]? = some v ∧ Rp g H v d
  | _, _, _, _, .nil, e => by simp at e
  | _, _, 0, _, .cons h _, e => by simp at e; subst e; exact ⟨_, rfl, h⟩
  | _, _, i + 1, _, .cons _ t, e => by
    obtain ⟨v, h1, h2⟩ := RpA.get (i := i) t (by simpa using e)
    exact ⟨v, by simpa using h1, h2⟩
theorem RpA.getV : ∀ {vs : List V} {ds : List D} {i : Nat} {v : V}, RpA g H vs ds → vs[i]? = some v → ∃ d, ds[i]? = some d ∧ Rp g H v d
  | _, _, _, _, .nil, e => by simp at e
  | _, _, 0, _, .cons h _, e => by simp at e; subst e; exact ⟨_, rfl, h⟩
  | _, _, i + 1, _, .cons _ t, e => by
    obtain ⟨v, h1, h2⟩ := RpA.getV (i := i) t (by simpa using e)
    exact ⟨v, by simpa using h1, h2⟩
theorem RpA.append : ∀ {vs us : List V} {ds es : List D}, RpA g H vs ds → RpA g H us es → RpA g H (vs ++ us) (ds ++ es)
  | _, _, _, _, .nil, s => s
  | _, _, _, _, .cons h t, s => .cons h (RpA.append t s)
theorem RpA.take : ∀ {vs : List V} {ds : List D} (n : Nat), RpA g H vs ds → RpA g H (vs.take n) (ds.take n)
  | _, _, 0, _ => by simp only [List.take_zero]; exact .nil
  | _, _, _ + 1, .nil => by simp only [List.take_nil]; exact .nil
  | _, _, n + 1, .cons h t => by simp only [List.take_succ_cons]; exact .cons h (RpA.take n t)
theorem RpA.drop : ∀ {vs : List V} {ds : List D} (n : Nat), RpA g H vs ds → RpA g H (vs.drop n) (ds.drop n)
  | _, _, 0, h => h
  | _, _, _ + 1, .nil => by simp only [List.drop_nil]; exact .nil
  | _, _, n + 1, .cons h t => by simp only [List.drop_succ_cons]; exact RpA.drop n t
theorem RpA.set {v : V} {d : D} (r : Rp g H v d) : ∀ {vs : List V} {ds : List D} (n : Nat), RpA g H vs ds → RpA g H (vs.set n v) (ds.set n d)
  | _, _, _, .nil => .nil
  | _, _, 0, .cons _ t => .cons r t
  | _, _, n + 1, .cons h t => .cons h (RpA.set r n t)
theorem RpA.replicate {v : V} {d : D} (r : Rp g H v d) : ∀ n, RpA g H (List.replicate n v) (List.replicate n d)
  | 0 => .nil
  | n + 1 => .cons r (RpA.replicate r n)
theorem RpA.mem {v : V} : ∀ {vs : List V} {ds : List D}, RpA g H vs ds → v ∈ vs → ∃ d ∈ ds, Rp g H v d
  | _, _, .cons h t, e => by
    rcases List.mem_cons.mp e with rfl | e
    · exact ⟨_, List.mem_cons_self, h⟩
    · obtain ⟨d, h1, h2⟩ := RpA.mem t e
      exact ⟨d, List.mem_cons_of_mem _ h1, h2⟩
end
def Ext (fd : Fdx) (H H' : Hp) : Prop :=
  (∀ b o, ¬ fd.mv b → H b = some o → H' b = some o) ∧ fd.ok H'
section
variable {fd : Fdx} {H H1 H2 : Hp}
theorem Ext.trans (a : Ext fd H H1) (b : Ext fd H1 H2) : Ext fd H H2 := ⟨fun x o n e => b.1 x o n (a.1 x o n e), b.2⟩
theorem Ext.same (a : Ext fd H H1) (e : Same H1 H2) : Ext fd H H2 := ⟨fun x o n h => e _ _ (a.1 x o n h), a.2.same e⟩
theorem Ext.of_same (e : Same H H1) (f : fd.ok H) : Ext fd H H1 := ⟨fun x o _ h => e _ _ h, f.same e⟩
theorem Ext.free (e : Ext fd H H1) {a : Addr} (h : H1 a = none) (n : ¬ fd.mv a) : H a = none := by
  cases q : H a with
  | none => rfl
  | some o => rw [e.1 a o n q] at h; cases h
theorem Ext.off {T : List Addr} (e : Ext fd H H1) (t : ∀ p, fd.mv p → p ∈ T) : Same (off H T) (off H1 T) := fun b o h => by
  by_cases q : b ∈ T
  · rw [zcz_ q] at h; cases h
  · rw [za4_ q] at h ⊢
    exact e.1 b o (fun z => q (t b z)) h
theorem Ext.at {a : Addr} {o : HO} {T : List Addr} (e : Ext fd H H1) (t : ∀ p, fd.mv p → p ∈ T) (n : a ∉ T) (h : H a = some o) : H1 a = some o := e.1 a o (fun z => n (t a z)) h
end
inductive O where
  | l (ds : List D) | i (C : Nat) (fs : List D) | d (ks : List Key) (ds : List D)
def O.toD : O → D
  | .l ds => .lst ds
  | .i C fs => .ins C fs
  | .d ks ds => .dj ks ds
def RpO (g : Cf) (T : List Addr) (H : Hp) (a : Addr) : O → Prop
  | .l ds => ∃ vs, H a = some (.lst vs) ∧ RpA g (off H T) vs ds
  | .i C fs => ∃ dx fv, H a = some (.ins (g.ad C) dx fv) ∧ FvOk g C fv ∧ RpA g (off H T) (fv.map Prod.snd) fs
  | .d ks ds => ∃ kvs : List (Key × V), H a = some (.dK kvs) ∧ kvs.map Prod.fst = ks ∧ RpA g (off H T) (kvs.map Prod.snd) ds
inductive X where
  | p (d : D) | c (o : O) | b (o : O) | t (d : D)
def X.toD : X → D
  | .p d => d
  | .c o => o.toD
  | .b o => o.toD
  | .t d => d
def X.tn : X → Bool
  | .p _ => false
  | .c _ => false
  | .b _ => true
  | .t _ => true
def RpX (g : Cf) (T S : List Addr) (H0 H : Hp) (v : V) : X → Prop
  | .p d => Rp g (off H (T ++ S)) v d
  | .c o => ∃ a, v = .ref a ∧ H0 a = none ∧ a ∉ T ++ S ∧ RpO g (a :: (T ++ S)) H a o
  | .b o => ∃ a, v = .ref a ∧ a ∈ S ∧ a ∉ T ∧ RpO g (T ++ S) H a o
  | .t d => Rp g (off H T) v d
inductive Sl where
  | no | v (d : D) | c (o : O)
def SlOk (g : Cf) (T S : List Addr) (H : Hp) (x : Option V) : Sl → Prop
  | .no => True
  | .v d => ∃ v, x = some v ∧ Rp g (off H (T ++ S)) v d
  | .c o => ∃ a, x = some (.ref a) ∧ a ∈ S ∧ RpO g (T ++ S) H a o
structure Rl (g : Cf) (T : List Addr) (He : Hp) (S : List Addr) (H : Hp) (Γ : List Sl) (σ : St) : Prop where
  len : Γ.length = σ.length
  sl : ∀ (i : Nat) (s : Sl), Γ[i]? = some s → SlOk g T S H (σ[i]?.join) s
  ne : ∀ (i j : Nat) (o o' : O) (a : Addr), Γ[i]? = some (.c o) → Γ[j]? = some (.c o') → σ[i]? = some (some (.ref a)) → σ[j]? = some (some (.ref a)) → i = j
  tk : ∀ a ∈ S, Tkd H a
  nw : ∀ a ∈ S, He a = none
  ft : (∀ p, g.fd.mv p → p ∈ T) ∧ ∀ p l, g.fd.f = some (p, l) → He l ≠ none
  tt : ∀ a ∈ T, He a ≠ none
  ex : Ext g.fd He H
  s0 : ∀ a, g.self = some a → σ[0]? = some (some (.ref a))
section
variable {g : Cf} {T S : List Addr} {H0 He H H' : Hp} {v : V} {a : Addr} {o : O} {x : X} {Γ : List Sl} {σ : St}
theorem zcq_ {H : Hp} {S T : List Addr} (h : ∀ b ∈ S, b ∈ T) {v : V} {d : D} (r : Rp g (off H T) v d) : Rp g (off H S) v d := r.mono (za9_ h) d
theorem Rp.on {d : D} (r : Rp g (off H T) v d) : Rp g H v d := r.mono (zaD_ H T) d
theorem RpO.mono {T' : List Addr} (r : RpO g T H a o) (h : ∀ o', H a = some o' → H' a = some o') (e : Same (off H T) (off H' T')) : RpO g T' H' a o := by
  cases o with
  | l ds => obtain ⟨vs, h1, h2⟩ := r; exact ⟨vs, h _ h1, h2.mono e⟩
  | i C fs => obtain ⟨dx, fv, h1, hf, h2⟩ := r; exact ⟨dx, fv, h _ h1, hf, RpA.mono e _ h2⟩
  | d ks ds => obtain ⟨kvs, h1, hk, h2⟩ := r; exact ⟨kvs, h _ h1, hk, RpA.mono e _ h2⟩
theorem RpO.sub {T' : List Addr} (r : RpO g T' H a o) (h : ∀ b ∈ T, b ∈ T') : RpO g T H a o := by
  cases o with
  | l ds => obtain ⟨vs, h1, h2⟩ := r; exact ⟨vs, h1, h2.mono (za9_ h)⟩
  | i C fs => obtain ⟨dx, fv, h1, hf, h2⟩ := r; exact ⟨dx, fv, h1, hf, RpA.mono (za9_ h) _ h2⟩
  | d ks ds => obtain ⟨kvs, h1, hk, h2⟩ := r; exact ⟨kvs, h1, hk, RpA.mono (za9_ h) _ h2⟩
theorem RpO.toD {T' : List Addr} (r : RpO g T' H a o) (h : ∀ b ∈ T, b ∈ T') (n : a ∉ T) : Rp g (off H T) (.ref a) o.toD := by
  cases o with
  | l ds => obtain ⟨vs, h1, h2⟩ := r; exact .lst (by rw [za4_ n]; exact h1) (h2.mono (za9_ h))
  | i C fs => obtain ⟨dx, fv, h1, hf, h2⟩ := r; exact .ins (by rw [za4_ n]; exact h1) hf (RpA.mono (za9_ h) _ h2)
  | d ks ds => obtain ⟨kvs, h1, hk, h2⟩ := r; exact .dj (by rw [za4_ n]; exact h1) hk (RpA.mono (za9_ h) _ h2)
theorem RpX.toD (r : RpX g T S H0 H v x) : Rp g (off H T) v x.toD := by
  cases x with
  | p d => exact zcq_ (fun b h => List.mem_append_left _ h) r
  | c o => obtain ⟨a, rfl, _, n, r⟩ := r; exact r.toD (fun b h => List.mem_cons_of_mem _ (List.mem_append_left _ h)) fun z => n (List.mem_append_left _ z)
  | b o => obtain ⟨a, rfl, _, n, r⟩ := r; exact r.toD (fun b h => List.mem_append_left _ h) n
  | t d => exact r
theorem RpX.toD' (r : RpX g T S H0 H v x) (h : x.tn = false) : Rp g (off H (T ++ S)) v x.toD := by
  cases x with
  | p d => exact r
  | c o => obtain ⟨a, rfl, _, n, r⟩ := r; exact r.toD (fun b h => List.mem_cons_of_mem _ h) n
  | b o => cases h
  | t d => cases h
theorem RpX.on (r : RpX g T S H0 H v x) : Rp g H v x.toD := r.toD.on
theorem RpO.tkd (r : RpO g T H a o) : Tkd H a := by
  cases o with
  | l ds => obtain ⟨vs, h1, _⟩ := r; exact ⟨_, h1, fun c q z => by cases z⟩
  | i C fs => obtain ⟨dx, fv, h1, _⟩ := r; exact ⟨_, h1, fun c q z => by cases z⟩
  | d ks ds => obtain ⟨kvs, h1, _⟩ := r; exact ⟨_, h1, fun c q z => by cases z⟩
theorem RpO.noCode (r : RpO g T H a o) : ∀ c q, H a ≠ some (LamX.CodeO c q) := by
  cases o with
  | l ds => obtain ⟨vs, h1, _⟩ := r; exact G.noCode h1 fun f z => by cases z
  | i C fs => obtain ⟨dx, fv, h1, _⟩ := r; exact G.noCode h1 fun f z => by cases z
  | d ks ds => obtain ⟨kvs, h1, _⟩ := r; exact fun c q z => by rw [h1] at z; cases z
theorem RpX.mono (r : RpX g T S H0 H v x) (e : Ext g.fd H H') (t : ∀ p, g.fd.mv p → p ∈ T) : RpX g T S H0 H' v x := by
  have t' : ∀ p, g.fd.mv p → p ∈ T ++ S := fun p h => List.mem_append_left _ (t p h)
  cases x with
  | p d => exact Rp.mono (e.off t') d r
  | c o =>
    obtain ⟨a, rfl, n0, n, r⟩ := r
    exact ⟨a, rfl, n0, n, r.mono (fun o' h => e.at t' n h) (e.off fun p h => List.mem_cons_of_mem _ (t' p h))⟩
  | b o => obtain ⟨a, rfl, m, n, r⟩ := r; exact ⟨a, rfl, m, n, r.mono (fun o' h => e.at t n h) (e.off t')⟩
  | t d => exact Rp.mono (e.off t) d r
theorem RpX.early (r : RpX g T S H H' v x) (e : Ext g.fd H0 H) (t : ∀ p, g.fd.mv p → p ∈ T) : RpX g T S H0 H' v x := by
  cases x with
  | p d => exact r
  | b o => exact r
  | t d => exact r
  | c o =>
    obtain ⟨a, rfl, n0, n, r⟩ := r
    exact ⟨a, rfl, e.free n0 fun h => n (List.mem_append_left _ (t a h)), n, r⟩
theorem Rl.t (r : Rl g T He S H Γ σ) : ∀ p, g.fd.mv p → p ∈ T := r.ft.1
theorem Rl.nT (r : Rl g T He S H Γ σ) (h : a ∈ S) : a ∉ T := fun z => r.tt a z (r.nw a h)
theorem Rl.mono (r : Rl g T He S H Γ σ) (e : Ext g.fd H H') : Rl g T He S H' Γ σ where
  len := r.len
  sl := fun i s h => by
    have t' : ∀ p, g.fd.mv p → p ∈ T ++ S := fun p h => List.mem_append_left _ (r.t p h)
    have q := r.sl i s h
    cases s with
    | no => trivial
    | v d => obtain ⟨v, h1, h2⟩ := q; exact ⟨v, h1, Rp.mono (e.off t') d h2⟩
    | c o => obtain ⟨a, h1, h2, h3⟩ := q; exact ⟨a, h1, h2, h3.mono (fun o' h => e.at r.t (r.nT h2) h) (e.off t')⟩
  ne := r.ne
  tk := fun a h => by
    obtain ⟨u, q, n⟩ := r.tk a h
    exact ⟨u, e.at r.t (r.nT h) q, n⟩
  nw := r.nw
  ft := r.ft
  tt := r.tt
  ex := r.ex.trans e
  s0 := r.s0
theorem Rl.feed (r : Rl g T He S H Γ σ) {p l : Addr} (h : g.fd.f = some (p, l)) : Feed H p l := r.ex.2.fd p l h
theorem Rl.okd (r : Rl g T He S H Γ σ) : g.fd.ok H := r.ex.2
theorem Rl.tkT (r : Rl g T He S H Γ σ) (h : a ∈ T) : H a ≠ none := by
  cases q : He a with
  | none => exact absurd q (r.tt a h)
  | some o =>
    by_cases z : g.fd.mv a
    · exact r.okd.tk z
    · rw [r.ex.1 a o z q]; intro z; cases z
theorem Rl.tkTS (r : Rl g T He S H Γ σ) (h : a ∈ T ++ S) : H a ≠ none := (List.mem_append.mp h).elim r.tkT fun h => (r.tk a h).ne
theorem Rl.freeTS (r : Rl g T He S H Γ σ) (h : H a = none) : a ∉ T ++ S := fun z => r.tkTS z h
theorem Rl.same (r : Rl g T He S H Γ σ) (e : Same H H') : Ext g.fd H H' := Ext.of_same e r.okd
theorem Rl.ext_new (r : Rl g T He S H Γ σ) {o : HO} (h : H a = none) : Ext g.fd H (upd H a o) := r.same (Same.newT h)
theorem s0_set {i : Nat} {v : Option V} (h0 : g.ok0 i) (h : ∀ a, g.self = some a → σ[0]? = some (some (.ref a))) : ∀ a, g.self = some a → (σ.set i v)[0]? = some (some (.ref a)) := fun a e => by
  rcases h0 with z | z
  · rw [List.getElem?_set_ne z]; exact h a e
  · rw [z] at e; cases e
theorem Rl.set_v {i : Nat} {d : D} (r : Rl g T He S H Γ σ) (h0 : g.ok0 i) (h : Rp g (off H (T ++ S)) v d) : Rl g T He S H (Γ.set i (.v d)) (σ.set i (some v)) where
  len := by rw [List.length_set, List.length_set]; exact r.len
  sl := fun j s e => by
    by_cases q : i = j
    · subst q
      have hi : i < Γ.length := by
        have := (List.getElem?_eq_some_iff.mp e).1
        simpa using this
      rw [List.getElem?_set_self hi] at e
      cases e
      rw [List.getElem?_set_self (by rw [← r.len]; exact hi)]
      exact ⟨v, rfl, h⟩
    · rw [List.getElem?_set_ne q] at e ⊢
      exact r.sl j s e
  ne := fun j k o o' a h1 h2 h3 h4 => by
    have nj : i ≠ j := fun q => by
      subst q
      have hi : i < Γ.length := by have := (List.getElem?_eq_some_iff.mp h1).1; simpa using this
      rw [List.getElem?_set_self hi] at h1; cases h1
    have nk : i ≠ k := fun q => by
      subst q
      have hi : i < Γ.length := by have := (List.getElem?_eq_some_iff.mp h2).1; simpa using this
      rw [List.getElem?_set_self hi] at h2; cases h2
    rw [List.getElem?_set_ne nj] at h1 h3
    rw [List.getElem?_set_ne nk] at h2 h4
    exact r.ne j k o o' a h1 h2 h3 h4
  tk := r.tk
  nw := r.nw
  ft := r.ft
  tt := r.tt
  ex := r.ex
  s0 := s0_set h0 r.s0
theorem zbk_ (h : H a = none) : Same (off H (T ++ S)) (off H (T ++ (a :: S))) := fun b o e => by
  by_cases q : b ∈ T ++ (a :: S)
  · have : b ∈ T ++ S := by
      rcases List.mem_append.mp q with z | z
      · exact List.mem_append_left _ z
      · rcases List.mem_cons.mp z with rfl | z
        · exact absurd (zaD_ H _ _ _ e) (by rw [h]; intro z; cases z)
        · exact List.mem_append_right _ z
    rw [zcz_ this] at e; cases e
  · rw [za4_ q]; exact zaD_ H _ _ _ e
theorem mem_mid {b : Addr} : b ∈ a :: (T ++ S) ↔ b ∈ T ++ (a :: S) := by
  simp only [List.mem_cons, List.mem_append]
  exact ⟨fun h => h.elim (fun e => .inr (.inl e)) fun h => h.elim .inl fun h => .inr (.inr h), fun h => h.elim (fun e => .inr (.inl e)) fun h => h.elim .inl fun h => .inr (.inr h)⟩
theorem Rl.set_c {i : Nat} {o : O} (r : Rl g T He S H0 Γ σ) (h0 : g.ok0 i) (e : Ext g.fd H0 H) (hn : H0 a = none) (ho : RpO g (a :: (T ++ S)) H a o) : Rl g T He (a :: S) H (Γ.set i (.c o)) (σ.set i (some (.ref a))) := by
  have t' : ∀ p, g.fd.mv p → p ∈ T ++ (a :: S) := fun p h => List.mem_append_left _ (r.t p h)
  have sm : Same (off H0 (T ++ S)) (off H (T ++ (a :: S))) := (zbk_ hn).trans (e.off t')
  have old : ∀ (j : Nat) (o' : O), Γ[j]? = some (.c o') → σ[j]? ≠ some (some (.ref a)) := fun j o' h1 h2 => by
    obtain ⟨b, h3, h4, _⟩ := r.sl j _ h1
    rw [h2] at h3
    cases h3
    exact (r.tk a h4).ne hn
  have len : ∀ {j : Nat} {s : Sl} {t : Sl}, (Γ.set j s)[j]? = some t → j < Γ.length := fun {j s t} h => by
    have := (List.getElem?_eq_some_iff.mp h).1
    simpa using this
  refine ⟨by rw [List.length_set, List.length_set]; exact r.len, fun j s q => ?_, fun j k o1 o2 b h1 h2 h3 h4 => ?_, fun b h => ?_, fun b h => ?_, r.ft, r.tt, r.ex.trans e, s0_set h0 r.s0⟩
  · by_cases z : i = j
    · subst z
      have hi := len q
      rw [List.getElem?_set_self hi] at q
      cases q
      rw [List.getElem?_set_self (by rw [← r.len]; exact hi)]
      exact ⟨a, rfl, List.mem_cons_self, ho.sub fun b hb => mem_mid.mpr hb⟩
    · rw [List.getElem?_set_ne z] at q ⊢
      have y := r.sl j s q
      cases s with
      | no => trivial
      | v d => obtain ⟨v, h1, h2⟩ := y; exact ⟨v, h1, h2.mono sm⟩
      | c o' => obtain ⟨b, h1, h2, h3⟩ := y; exact ⟨b, h1, List.mem_cons_of_mem _ h2, h3.mono (fun o' h => e.at r.t (r.nT h2) h) sm⟩
  · by_cases nj : i = j
    · subst nj
      by_cases nk : i = k
      · exact nk
      · rw [List.getElem?_set_self (by rw [← r.len]; exact len h1)] at h3
        cases h3
        rw [List.getElem?_set_ne nk] at h2 h4
        exact absurd h4 (old k o2 h2)
    · by_cases nk : i = k
      · subst nk
        rw [List.getElem?_set_self (by rw [← r.len]; exact len h2)] at h4
        cases h4
        rw [List.getElem?_set_ne nj] at h1 h3
        exact absurd h3 (old j o1 h1)
      · rw [List.getElem?_set_ne nj] at h1 h3
        rw [List.getElem?_set_ne nk] at h2 h4
        exact r.ne j k o1 o2 b h1 h2 h3 h4
  · rcases List.mem_cons.mp h with rfl | h
    · exact ho.tkd
    · obtain ⟨u, q, n⟩ := r.tk b h
      exact ⟨u, e.at r.t (r.nT h) q, n⟩
  · rcases List.mem_cons.mp h with rfl | h
    · exact r.ex.free hn fun h => r.okd.tk h hn
    · exact r.nw b h
theorem Rl.put {i : Nat} {o o' : O} {u : HO} (r : Rl g T He S H Γ σ) (h1 : Γ[i]? = some (.c o)) (h2 : σ[i]? = some (some (.ref a))) (ho : RpO g (T ++ S) (upd H a u) a o') : Rl g T He S (upd H a u) (Γ.set i (.c o')) σ := by
  obtain ⟨b, h3, h4, h5⟩ := r.sl i _ h1
  rw [h2] at h3
  cases h3
  have hT := r.nT h4
  have mem : a ∈ T ++ S := List.mem_append_right _ h4
  have oe : off (upd H a u) (T ++ S) = off H (T ++ S) := zcM_ mem
  have ext : Ext g.fd He (upd H a u) := by
    refine ⟨fun b ob n hb => ?_, r.okd.put (fun z => hT (r.t a z)) (fun p l hp z => r.ft.2 p l hp (by rw [z]; exact r.nw a h4)) h5.noCode⟩
    rw [upd_ne (ne_of_none hb (r.nw a h4))]
    exact r.ex.1 b ob n hb
  refine ⟨by rw [List.length_set]; exact r.len, fun j s q => ?_, fun j k o1 o2 b h6 h7 h8 h9 => ?_, fun b h => ?_, r.nw, r.ft, r.tt, ext, r.s0⟩
  · by_cases z : i = j
    · subst z
      have hi : i < Γ.length := by
        have := (List.getElem?_eq_some_iff.mp q).1
        simpa using this
      rw [List.getElem?_set_self hi] at q
      cases q
      rw [h2]
      exact ⟨a, rfl, h4, ho⟩
    · rw [List.getElem?_set_ne z] at q
      have y := r.sl j s q
      cases s with
      | no => trivial
      | v d => obtain ⟨v, y1, y2⟩ := y; exact ⟨v, y1, by rw [oe]; exact y2⟩
      | c o3 =>
        obtain ⟨b, y1, y2, y3⟩ := y
        have y1' : σ[j]? = some (some (.ref b)) := by
          cases w : σ[j]? with
          | none => rw [w] at y1; cases y1
          | some x => rw [w] at y1; exact congrArg some y1
        have nb : b ≠ a := fun e => z (r.ne i j o o3 a h1 q h2 (e ▸ y1'))
        exact ⟨b, y1, y2, y3.mono (fun o' h => by rw [upd_ne nb]; exact h) (by rw [oe]; exact Same.refl _)⟩
  · have down : ∀ {m : Nat} {o3 : O}, (Γ.set i (.c o'))[m]? = some (.c o3) → ∃ o4, Γ[m]? = some (.c o4) := fun {m o3} h => by
      by_cases z : i = m
      · subst z; exact ⟨o, h1⟩
      · rw [List.getElem?_set_ne z] at h; exact ⟨_, h⟩
    obtain ⟨o3, q1⟩ := down h6
    obtain ⟨o4, q2⟩ := down h7
    exact r.ne j k o3 o4 b q1 q2 h8 h9
  · by_cases z : b = a
    · rw [z]; exact ho.tkd
    · obtain ⟨u, q, n⟩ := r.tk b h
      exact ⟨u, by rw [upd_ne z]; exact q, n⟩
end
end G
namespace G
open PySem PySem.Spec L2
open PyProof.Rows hiding St
abbrev Se (α : Type) := List Sl → M α
inductive RpXs (g : Cf) (T S : List Addr) (H0 H : Hp) : List V → List X → Prop
  | nil : RpXs g T S H0 H [] []
  | cons {v : V} {x : X} {vs : List V} {xs : List X} : RpX g T S H0 H v x → RpXs g T S H0 H vs xs → RpXs g T S H0 H (v :: vs) (x :: xs)
def XdOk (g : Cf) (T : List Addr) (H : Hp) (d : Addr) (C : Nat) (fs : List D) : Prop := ∃ fv : List (Str × V), H d = some (.xd fv) ∧ (g.xn C).length = fs.length ∧ ∀ (i : Nat) (f : Str), (g.xn C)[i]? = some f → ∃ v e, fv.lookup f = some v ∧ fs[i]? = some e ∧ Rp g (off H T) v e
def xp (g : Cf) (W : XK) (T : List Addr) (He : Hp) : XD := fun C fs => ∀ d H', Ext g.fd He H' → XdOk g T H' d C fs → W (.ref (g.ae C)) (some d) H'
def XN : XK := fun _ _ _ => False
def rdE (g : Cf) (W : XK) (T : List Addr) (He : Hp) (f : Se X) : TE := fun σ H Q => ∃ Γ S, Rl g T He S H Γ σ ∧ (f Γ).wp (xp g W T He) fun x => ∀ v H', Ext g.fd H H' → RpX g T S H H' v x → Q v H'
def rdT (g : Cf) (W : XK) (T : List Addr) (He : Hp) (f : Se Bool) : TT := fun σ H Q => ∃ Γ S, Rl g T He S H Γ σ ∧ (f Γ).wp (xp g W T He) fun b => ∀ H', Ext g.fd H H' → Q b H'
def rdA (g : Cf) (W : XK) (T : List Addr) (He : Hp) (f : Se (List X)) : TA := fun σ H Q => ∃ Γ S, Rl g T He S H Γ σ ∧ (f Γ).wp (xp g W T He) fun xs => ∀ vs H', Ext g.fd H H' → RpXs g T S H H' vs xs → Q vs H'
abbrev EV (Z : Cx) (g : Cf) (W : XK) (T : List Addr) (He : Hp) (e : Expr) (f : Se X) : Prop := PE Z e (rdE g W T He f)
abbrev EB (Z : Cx) (g : Cf) (W : XK) (T : List Addr) (He : Hp) (e : Expr) (f : Se Bool) : Prop := PT Z e (rdT g W T He f)
abbrev EA (Z : Cx) (g : Cf) (W : XK) (T : List Addr) (He : Hp) (es : List Expr) (f : Se (List X)) : Prop := PA Z es (rdA g W T He f)
theorem pe_w {Z : Cx} {e : Expr} {t t' : TE} (h : PE Z e t) (k : ∀ σ H Q, t' σ H Q → t σ H Q) : PE Z e t' := ⟨fun pins s σ H Q I q => h.run pins s σ H Q I (k _ _ _ q)⟩
theorem pt_w {Z : Cx} {e : Expr} {t t' : TT} (h : PT Z e t) (k : ∀ σ H Q, t' σ H Q → t σ H Q) : PT Z e t' := ⟨fun pins s σ H Q I q => h.run pins s σ H Q I (k _ _ _ q)⟩
theorem pw_w {Z : Cx} {e : Expr} {t t' : TT} (h : PW Z e t) (k : ∀ σ H Q, t' σ H Q → t σ H Q) : PW Z e t' := ⟨fun wh pins s σ H Q I q => h.run wh pins s σ H Q I (k _ _ _ q)⟩
theorem pa_w {Z : Cx} {es : List Expr} {t t' : TA} (h : PA Z es t) (k : ∀ σ H Q, t' σ H Q → t σ H Q) : PA Z es t' := ⟨fun pos pins s σ H Q I q => h.run pos pins s σ H Q I (k _ _ _ q)⟩
section
variable {g : Cf} {W : XK} {T S : List Addr} {H0 He H H' : Hp} {v : V} {a : Addr} {o : O} {x : X} {Γ : List Sl} {σ : St}
theorem RpXs.mono : ∀ {vs : List V} {xs : List X}, RpXs g T S H0 H vs xs → Ext g.fd H H' → (∀ p, g.fd.mv p → p ∈ T) → RpXs g T S H0 H' vs xs
  | _, _, .nil, _, _ => .nil
  | _, _, .cons h t, e, f => .cons (h.mono e f) (RpXs.mono t e f)
theorem RpXs.early : ∀ {vs : List V} {xs : List X}, RpXs g T S H H' vs xs → Ext g.fd H0 H → (∀ p, g.fd.mv p → p ∈ T) → RpXs g T S H0 H' vs xs
  | _, _, .nil, _, _ => .nil
  | _, _, .cons h t, e, f => .cons (h.early e f) (RpXs.early t e f)
theorem rdE.use {f : Se X} {R : VK} (r : Rl g T He S H Γ σ) (w : (f Γ).wp (xp g W T He) fun x => ∀ v H', Ext g.fd H H' → Rl g T He S H' Γ σ → RpX g T S H H' v x → R v H') : rdE g W T He f σ H R :=
  ⟨Γ, S, r, M.wp_mono (fun x q v H' e rx => q v H' e (r.mono e) rx) w⟩
theorem rdT.use {f : Se Bool} {R : Bool → Hp → Prop} (r : Rl g T He S H Γ σ) (w : (f Γ).wp (xp g W T He) fun b => ∀ H', Ext g.fd H H' → Rl g T He S H' Γ σ → R b H') : rdT g W T He f σ H R :=
  ⟨Γ, S, r, M.wp_mono (fun x q H' e => q H' e (r.mono e)) w⟩
theorem rdA.use {f : Se (List X)} {R : List V → Hp → Prop} (r : Rl g T He S H Γ σ) (w : (f Γ).wp (xp g W T He) fun xs => ∀ vs H', Ext g.fd H H' → Rl g T He S H' Γ σ → RpXs g T S H H' vs xs → R vs H') : rdA g W T He f σ H R :=
  ⟨Γ, S, r, M.wp_mono (fun x q v H' e rx => q v H' e (r.mono e) rx) w⟩
end
inductive Rp1 (g : Cf) (T : List Addr) (H : Hp) : V → D → Prop
  | of {v : V} {d : D} : Rp g (off H T) v d → Rp1 g T H v d
  | l {a : Addr} {vs : List V} {ds : List D} : H a = some (.lst vs) → RpA g (off H T) vs ds → Rp1 g T H (.ref a) (.lst ds)
  | i {a dx : Addr} {C : Nat} {fv : List (Str × V)} {fs : List D} : H a = some (.ins (g.ad C) dx fv) → FvOk g C fv → RpA g (off H T) (fv.map Prod.snd) fs → Rp1 g T H (.ref a) (.ins C fs)
  | k {a : Addr} {kvs : List (Key × V)} {ks : List Key} {ds : List D} : H a = some (.dK kvs) → kvs.map Prod.fst = ks → RpA g (off H T) (kvs.map Prod.snd) ds → Rp1 g T H (.ref a) (.dj ks ds)
inductive Rp1s (g : Cf) (T : List Addr) (H : Hp) : List V → List D → Prop
  | nil : Rp1s g T H [] []
  | cons {v : V} {d : D} {vs : List V} {ds : List D} : Rp1 g T H v d → Rp1s g T H vs ds → Rp1s g T H (v :: vs) (d :: ds)
inductive R where
  | at (d : D) | nw (o : O) | dt (d : D)
inductive AtR : V → D → Prop
  | non : AtR .non .non
  | bl (b : Bool) : AtR (.bl b) (.bl b)
  | int (i : Int) : AtR (.int i) (.int i)
  | str (x : Str) : PyData.strOk x = true → AtR (.str x) (.str x)
theorem AtR.rp {g : Cf} {H : Hp} {v : V} {d : D} (h : AtR v d) : Rp g H v d := by
  cases h with
  | non => exact .non
  | bl b => exact .bl b
  | int i => exact .int i
  | str x h => exact .str x h
def D.flat : D → Bool
  | .non => true
  | .bl _ => true
  | .int _ => true
  | .str _ => true
  | _ => false
theorem Rp.flatAny {g : Cf} {H H' : Hp} {v : V} {d : D} (r : Rp g H v d) (h : d.flat = true) : Rp g H' v d := by
  cases r <;> first | (cases h; done) | constructor
  rename_i z; exact z
def RpR (g : Cf) (T : List Addr) (H0 H : Hp) (v : V) : R → Prop
  | .at d => AtR v d
  | .nw o => ∃ a, v = .ref a ∧ H0 a = none ∧ a ∉ T ∧ RpO g (a :: T) H a o
  | .dt d => Rp g (off H T) v d
def X.tt : X → Bool
  | .t _ => true
  | _ => false
def R.fin (tt : Bool) : R → X
  | .at d => .p d
  | .nw o => if tt then .t o.toD else .c o
  | .dt d => if tt && !d.flat then .t d else .p d
@[simp] theorem fin_at {tt : Bool} {d : D} : (R.at d).fin tt = .p d := rfl
@[simp] theorem fin_nw {o : O} : (R.nw o).fin false = .c o := rfl
@[simp] theorem fin_dt {d : D} : (R.dt d).fin false = .p d := rfl
@[simp] theorem fin_dtf {tt : Bool} {d : D} (h : d.flat = true) : (R.dt d).fin tt = .p d := by show (if (tt && !d.flat) = true then X.t d else X.p d) = _; rw [h]; simp
@[simp] theorem tt_p {d : D} : (X.p d).tt = false := rfl
@[simp] theorem tt_c {o : O} : (X.c o).tt = false := rfl
@[simp] theorem tt_b {o : O} : (X.b o).tt = false := rfl
@[simp] theorem tt_t {d : D} : (X.t d).tt = true := rfl
@[simp] theorem toD_p {d : D} : (X.p d).toD = d := rfl
@[simp] theorem toD_c {o : O} : (X.c o).toD = o.toD := rfl
@[simp] theorem toD_b {o : O} : (X.b o).toD = o.toD := rfl
@[simp] theorem toD_t {d : D} : (X.t d).toD = d := rfl
@[simp] theorem O_l {ds : List D} : (O.l ds).toD = .lst ds := rfl
@[simp] theorem O_i {C : Nat} {fs : List D} : (O.i C fs).toD = .ins C fs := rfl
structure FdOk (g : Cf) (T : List Addr) (H : Hp) : Prop where
  tk : ∀ a ∈ T, H a ≠ none
  fd : (∀ p, g.fd.mv p → p ∈ T) ∧ g.fd.ok H
section
variable {g : Cf} {W : XK} {T S : List Addr} {H0 He H H' : Hp} {v : V} {a : Addr} {o : O} {x : X} {Γ : List Sl} {σ : St}
theorem FdOk.same (f : FdOk g T H) (e : Same H H') : Ext g.fd H H' := Ext.of_same e f.fd.2
theorem FdOk.new (f : FdOk g T H) {u : HO} (h : H a = none) : Ext g.fd H (upd H a u) := f.same (Same.newT h)
theorem FdOk.refl (f : FdOk g T H) : Ext g.fd H H := f.same (Same.refl _)
theorem FdOk.nin (f : FdOk g T H) (h : H a = none) : a ∉ T := fun z => f.tk a z h
theorem Rl.fok (r : Rl g T He S H Γ σ) : FdOk g (T ++ S) H := ⟨fun _ h => r.tkTS h, fun p h => List.mem_append_left _ (r.t p h), r.okd⟩
theorem Rl.fokT (r : Rl g T He S H Γ σ) : FdOk g T H := ⟨fun _ h => r.tkT h, r.t, r.okd⟩
def TS (T S : List Addr) (tt : Bool) : List Addr := if tt then T else T ++ S
theorem Rl.fokB (r : Rl g T He S H Γ σ) (tt : Bool) : FdOk g (TS T S tt) H := by
  cases tt
  · exact r.fok
  · exact r.fokT
theorem RpX.r1 {tt : Bool} (r : RpX g T S H0 H v x) (h : x.tt = true → tt = true) : Rp1 g (TS T S tt) H v x.toD := by
  have sub : ∀ b ∈ TS T S tt, b ∈ T ++ S := fun b hb => by
    cases tt
    · exact hb
    · exact List.mem_append_left _ hb
  cases x with
  | p d => exact .of (zcq_ sub r)
  | c o =>
    obtain ⟨a, rfl, _, n, r⟩ := r
    exact .of (r.toD (fun b h => List.mem_cons_of_mem _ (sub b h)) fun z => n (sub a z))
  | b o =>
    obtain ⟨a, rfl, _, n, r⟩ := r
    cases o with
    | l ds => obtain ⟨vs, h1, h2⟩ := r; exact .l h1 (h2.mono (za9_ sub))
    | i C fs => obtain ⟨dx, fv, h1, hf, h2⟩ := r; exact .i h1 hf (RpA.mono (za9_ sub) _ h2)
    | d ks ds => obtain ⟨kvs, h1, hk, h2⟩ := r; exact .k h1 hk (RpA.mono (za9_ sub) _ h2)
  | t d =>
    have := h rfl
    subst this
    exact .of r
theorem RpXs.r1 {tt : Bool} : ∀ {vs : List V} {xs : List X}, RpXs g T S H0 H vs xs → (xs.any X.tt = true → tt = true) → Rp1s g (TS T S tt) H vs (xs.map X.toD)
  | _, _, .nil, _ => .nil
  | _, _, .cons h t, e => .cons (h.r1 fun z => e (by rw [List.any_cons, z]; rfl)) (RpXs.r1 t fun z => e (by rw [List.any_cons, z, Bool.or_true]))
theorem RpR.fin {tt : Bool} {z : R} (r : RpR g (TS T S tt) H0 H v z) : RpX g T S H0 H v (z.fin tt) := by
  cases z with
  | «at» d => exact AtR.rp r
  | nw o =>
    obtain ⟨a, rfl, n0, n, r⟩ := r
    cases tt
    · exact ⟨a, rfl, n0, n, r⟩
    · exact r.toD (T := T) (fun b h => List.mem_cons_of_mem _ h) n
  | dt d =>
    cases tt
    · exact r
    · cases h : d.flat with
      | true => rw [fin_dtf h]; exact Rp.flatAny r h
      | false => show RpX g T S H0 H v (if (true && !d.flat) = true then X.t d else X.p d); rw [h]; exact r
end
def Pr2 (g : Cf) (r : R2) (sem : D → D → M R) : Prop := ∀ T H v1 v2 d1 d2 Q, FdOk g T H → Rp1 g T H v1 d1 → Rp1 g T H v2 d2 → ∀ {E : XD}, (sem d1 d2).wp E (fun z => ∀ v H', Ext g.fd H H' → RpR g T H H' v z → Q v H') → r v1 v2 H Q
def PrN (g : Cf) (r : List V → Hp → VK → Prop) (sem : List D → M R) : Prop := ∀ T H vs ds Q, FdOk g T H → Rp1s g T H vs ds → ∀ {E : XD}, (sem ds).wp E (fun z => ∀ v H', Ext g.fd H H' → RpR g T H H' v z → Q v H') → r vs H Q
def s2 (sem : D → D → M R) (f1 f2 : Se X) : Se X := fun Γ => (f1 Γ).bind fun x => (f2 Γ).bind fun y => (sem x.toD y.toD).bind fun z => .ret (z.fin (x.tt || y.tt))
def sN (sem : List D → M R) (f : Se (List X)) : Se X := fun Γ => (f Γ).bind fun xs => (sem (xs.map X.toD)).bind fun z => .ret (z.fin (xs.any X.tt))
def sM (sem : D → List D → M R) (f1 : Se X) (f : Se (List X)) : Se X := fun Γ => (f1 Γ).bind fun x => (f Γ).bind fun xs => (sem x.toD (xs.map X.toD)).bind fun z => .ret (z.fin (x.tt || xs.any X.tt))
section
variable {Z : Cx} {g : Cf} {W : XK} {T : List Addr} {He : Hp} {a b c : Expr} {f1 f2 f3 : Se X} {fs : Se (List X)} {sem : D → D → M R} {semN : List D → M R} {r : R2} {pos : Pos}
theorem rd2 {S : List Addr} {σ : St} {H : Hp} {Γ : List Sl} {Q : VK} (hp : Pr2 g r sem) (rl : Rl g T He S H Γ σ) (w : (s2 sem f1 f2 Γ).wp (xp g W T He) fun x => ∀ v H', Ext g.fd H H' → RpX g T S H H' v x → Q v H') : tOp r (rdE g W T He f1) (rdE g W T He f2) σ H Q := by
  simp only [s2, M.wp_bind, M.wp_ret] at w
  refine rdE.use rl (M.wp_mono (fun x w v1 H1 e1 l1 x1 => ?_) w)
  refine rdE.use l1 (M.wp_mono (fun y w v2 H2 e2 l2 x2 => ?_) w)
  refine hp (TS T S (x.tt || y.tt)) H2 v1 v2 x.toD y.toD Q (l2.fokB _) ((x1.mono e2 l1.t).r1 fun h => by rw [h]; rfl) (x2.r1 fun h => by rw [h, Bool.or_true]) (M.wp_mono (fun z w v H' e h => ?_) w)
  exact w v H' ((e1.trans e2).trans e) (h.fin.early (e1.trans e2) l2.t)
theorem ev_bin {op : Operator} (ho : OpR Z (binaryOp op) r) (hp : Pr2 g r sem) (ha : EV Z g W T He a f1) (hb : EV Z g W T He b f2) : EV Z g W T He (.BinOp a op b pos) (s2 sem f1 f2) :=
  pe_w (pe_op ho ha hb) fun _ _ _ ⟨_, _, rl, w⟩ => rd2 hp rl w
theorem ev_cmp {op : CmpOp} (ho : OpR Z (compareOp op) r) (hp : Pr2 g r sem) (ha : EV Z g W T He a f1) (hb : EV Z g W T He b f2) (hm : behindInMarks op b = false) : EV Z g W T He (.Compare a [op] [b] pos) (s2 sem f1 f2) :=
  pe_w (pe_cmpR ho ha hb hm) fun _ _ _ ⟨_, _, rl, w⟩ => rd2 hp rl w
def sB (f : Se X) : Se Bool := fun Γ => (f Γ).bind fun x => match x.toD with | .bl b => .ret b | _ => .fail
theorem sB_wp {S : List Addr} {H : Hp} {Γ : List Sl} {Q : Bool → Hp → Prop} {f : Se X} (w : (sB f Γ).wp (xp g W T He) fun b => ∀ H', Ext g.fd H H' → Q b H') : (f Γ).wp (xp g W T He) fun x => ∀ v H', Ext g.fd H H' → RpX g T S H H' v x → ∃ k, v = .bl k ∧ Q k H' := by
  simp only [sB, M.wp_bind] at w
  refine M.wp_mono (fun x w v H' e rx => ?_) w
  have q := rx.on
  cases h : x.toD <;> rw [h] at w q <;> first | exact w.elim | skip
  cases q
  exact ⟨_, rfl, w H' e⟩
theorem zco_ {op : CmpOp} (ho : OpR Z (compareOp op) r) (hp : Pr2 g r sem) (ha : EV Z g W T He a f1) (hb : EV Z g W T He b f2) (hm : behindInMarks op b = false) : EB Z g W T He (.Compare a [op] [b] pos) (sB (s2 sem f1 f2)) :=
  pt_w (pt_cmpR ho ha hb hm) fun _ _ _ ⟨_, _, rl, w⟩ => rd2 hp rl (sB_wp w)
theorem zb3_ {e : Expr} (h : EV Z g W T He e f1) (he : ∀ whole, isTrue e Z.env whole = (do let v ← whole; standAt e.pos; holding [v] (truthy v)) := by intro _; rfl) : EB Z g W T He e (sB f1) :=
  pt_w (pt_val h he) fun _ _ _ ⟨Γ, S, rl, w⟩ => ⟨Γ, S, rl, sB_wp w⟩
def sCh (s1 s2 : D → D → M R) (f1 f2 f3 : Se X) : Se X := fun Γ => (f1 Γ).bind fun x => (f2 Γ).bind fun y => (s1 x.toD y.toD).bind fun z =>
  match z with
  | .at (.bl true) => (f3 Γ).bind fun x3 => (s2 y.toD x3.toD).bind fun z => .ret (z.fin (y.tt || x3.tt))
  | .at (.bl false) => .ret (.p (.bl false))
  | _ => .fail
def sNil : Se (List X) := fun _ => .ret []
def sCons (f : Se X) (fs : Se (List X)) : Se (List X) := fun Γ => (f Γ).bind fun x => (fs Γ).bind fun xs => .ret (x :: xs)
theorem zax_ : EA Z g W T He [] sNil := pa_w pa_nil fun _ H Q ⟨Γ, S, rl, w⟩ => w [] H rl.fok.refl .nil
theorem zaa_ {e : Expr} {es : List Expr} (he : EV Z g W T He e f1) (hr : EA Z g W T He es fs) (hs : starEach (e :: es) Z.env = (false, eval e Z.env) :: starEach es Z.env := by rfl) : EA Z g W T He (e :: es) (sCons f1 fs) :=
  pa_w (pa_cons he hr hs) fun σ H Q ⟨Γ, S, rl, w⟩ => by
    simp only [sCons, M.wp_bind, M.wp_ret] at w
    refine rdE.use rl (M.wp_mono (fun x w v1 H1 e1 l1 x1 => ?_) w)
    refine rdA.use l1 (M.wp_mono (fun xs w vs H2 e2 l2 xx => ?_) w)
    exact w (v1 :: vs) H2 (e1.trans e2) (.cons (x1.mono e2 l1.t) (xx.early e1 l1.t))
theorem rdN {rN : List V → Hp → VK → Prop} {S : List Addr} {σ : St} {H : Hp} {Γ : List Sl} {Q : VK} (hp : PrN g rN semN) (rl : Rl g T He S H Γ σ) (w : (sN semN fs Γ).wp (xp g W T He) fun x => ∀ v H', Ext g.fd H H' → RpX g T S H H' v x → Q v H') : rdA g W T He fs σ H fun vs H1 => rN vs H1 Q := by
  simp only [sN, M.wp_bind, M.wp_ret] at w
  refine rdA.use rl (M.wp_mono (fun xs w vs H1 e1 l1 xx => ?_) w)
  refine hp (TS T S (xs.any X.tt)) H1 vs _ Q (l1.fokB _) (xx.r1 fun h => h) (M.wp_mono (fun z w v H' e h => ?_) w)
  exact w v H' (e1.trans e) (h.fin.early e1 l1.t)
end
end G
namespace G
open PySem PySem.Spec L2
open PyProof.Rows hiding St
def sNm (i : Nat) : Se X := fun Γ => match Γ[i]? with | some (.v d) => .ret (.p d) | some (.c o) => .ret (.b o) | _ => .fail
def sK (d : D) : Se X := fun _ => .ret (.p d)
section
variable {Z : Cx} {g : Cf} {W : XK} {T : List Addr} {He : Hp} {a b c : Expr} {f1 f2 f3 : Se X} {fs : Se (List X)} {pos : Pos} {es rest : List Expr}
theorem zbP_ {σ : St} {i : Nat} {v : V} (h : σ[i]?.join = some v) : σ[i]? = some (some v) := by
  cases q : σ[i]? with
  | none => rw [q] at h; cases h
  | some x => rw [q] at h; exact congrArg some h
theorem ev_nm {i : Nat} {x : Str} (hN : Z.N[i]? = some x) (hv : Vis Z.env.scope x) (hd : (x == ("__debug__" : Str)) = false := by decide) (hcd : (x == ("__classdict__" : Str)) = false := by decide) : EV Z g W T He (.Name x pos) (sNm i) :=
  pe_w (pe_var hN hv hd hcd) fun σ H Q ⟨Γ, S, rl, w⟩ => by
    unfold sNm at w
    cases q : Γ[i]? with
    | none => rw [q] at w; exact w.elim
    | some s =>
      rw [q] at w
      have y := rl.sl i s q
      cases s with
      | no => exact w.elim
      | v d => obtain ⟨v, h1, h2⟩ := y; exact ⟨v, zbP_ h1, w v H rl.fok.refl h2⟩
      | c o => obtain ⟨a, h1, h2, h3⟩ := y; exact ⟨_, zbP_ h1, w _ H rl.fok.refl ⟨a, rfl, h2, rl.nT h2, h3⟩⟩
theorem ev_k {e : Expr} {v : V} {d : D} (h : PE Z e (tC v)) (r : AtR v d) : EV Z g W T He e (sK d) := pe_w h fun σ H Q ⟨Γ, S, rl, w⟩ => w v H rl.fok.refl (AtR.rp r)
theorem zaP_ {i j : _} : EV Z g W T He (.Constant (.int i) j pos) (sK (.int i)) := ev_k pe_int (.int i)
theorem zcS_ {b j : _} : EV Z g W T He (.Constant (.bool b) j pos) (sK (.bl b)) := ev_k pe_bl (.bl b)
theorem zda_ {j : _} : EV Z g W T He (.Constant .none j pos) (sK .non) := ev_k pe_non .non
theorem zaW_ {x : Str} {j : _} (h : PyData.strOk x = true := by decide +kernel) : EV Z g W T He (.Constant (.str x) j pos) (sK (.str x)) := ev_k pe_str (.str x h)
def sAnd (f1 f2 : Se X) : Se X := fun Γ => (f1 Γ).bind fun x => match x.toD with | .bl true => f2 Γ | .bl false => .ret (.p (.bl false)) | _ => .fail
def sOr (f1 f2 : Se X) : Se X := fun Γ => (f1 Γ).bind fun x => match x.toD with | .bl true => .ret (.p (.bl true)) | .bl false => f2 Γ | _ => .fail
def sNot (f : Se X) : Se X := fun Γ => (f Γ).bind fun x => match x.toD with | .bl b => .ret (.p (.bl !b)) | _ => .fail
def tAndB (f1 f2 : Se Bool) : Se Bool := fun Γ => (f1 Γ).bind fun x => if x then f2 Γ else .ret false
def tOrB (f1 f2 : Se Bool) : Se Bool := fun Γ => (f1 Γ).bind fun x => if x then .ret true else f2 Γ
def tNotB (f : Se Bool) : Se Bool := fun Γ => (f Γ).bind fun x => .ret !x
def sIf (t : Se Bool) (f1 f2 : Se X) : Se X := fun Γ => (t Γ).bind fun x => if x then f1 Γ else f2 Γ
theorem late {S : List Addr} {H H1 : Hp} {Γ : List Sl} {σ : St} {Q : VK} {x : X} (e : Ext g.fd H H1) (l : Rl g T He S H1 Γ σ) (q : ∀ v H', Ext g.fd H H' → RpX g T S H H' v x → Q v H') : ∀ v H', Ext g.fd H1 H' → RpX g T S H1 H' v x → Q v H' :=
  fun v H' e' r => q v H' (e.trans e') (r.early e l.t)
theorem ev_one {op} (h : EV Z g W T He a f1) : EV Z g W T He (.BoolOp op [a] pos) f1 := pe_one h
theorem ev_and (ha : EV Z g W T He a f1) (hb : EV Z g W T He (.BoolOp .And (b :: rest) pos) f2) : EV Z g W T He (.BoolOp .And (a :: b :: rest) pos) (sAnd f1 f2) :=
  pe_w (pe_and ha hb) fun σ H Q ⟨Γ, S, rl, w⟩ => by
    simp only [sAnd, M.wp_bind] at w
    refine rdE.use rl (M.wp_mono (fun x w v1 H1 e1 l1 x1 => ?_) w)
    have q := x1.on
    cases h : x.toD <;> rw [h] at w q <;> first | exact w.elim | skip
    rename_i k
    cases q
    refine ⟨k, rfl, ?_⟩
    cases k with
    | true => rw [if_pos rfl]; exact ⟨Γ, S, l1, M.wp_mono (fun x q => late e1 l1 q) w⟩
    | false => rw [if_neg (by decide)]; exact w _ H1 e1 (Rp.bl false)
theorem ev_not (ha : EV Z g W T He a f1) : EV Z g W T He (.UnaryOp .Not a pos) (sNot f1) :=
  pe_w (pe_not ha) fun σ H Q ⟨Γ, S, rl, w⟩ => by
    simp only [sNot, M.wp_bind] at w
    refine rdE.use rl (M.wp_mono (fun x w v1 H1 e1 l1 x1 => ?_) w)
    have q := x1.on
    cases h : x.toD <;> rw [h] at w q <;> first | exact w.elim | skip
    rename_i k
    cases q
    exact ⟨k, rfl, w _ H1 e1 (Rp.bl _)⟩
variable {t1 t2 : Se Bool}
abbrev EW (Z : Cx) (g : Cf) (W : XK) (T : List Addr) (He : Hp) (e : Expr) (f : Se Bool) : Prop := PW Z e (rdT g W T He f)
theorem ew_or1 (h : EB Z g W T He a t1) : EW Z g W T He (.BoolOp .Or [a] pos) t1 := pw_or1 h
theorem ew_or (ha : EB Z g W T He a t1) (hb : EW Z g W T He (.BoolOp .Or (b :: rest) pos) t2) : EW Z g W T He (.BoolOp .Or (a :: b :: rest) pos) (tOrB t1 t2) :=
  pw_w (pw_or ha hb) fun σ H Q ⟨Γ, S, rl, w⟩ => by
    simp only [tOrB, M.wp_bind] at w
    refine rdT.use rl (M.wp_mono (fun x w H1 e1 l1 => ?_) w)
    cases x with
    | false => rw [if_neg (by decide)] at w ⊢; exact ⟨Γ, S, l1, M.wp_mono (fun x q H' e => q H' (e1.trans e)) w⟩
    | true => rw [if_pos rfl] at w ⊢; exact w H1 e1
theorem et_w (h : EW Z g W T He a t1) : EB Z g W T He a t1 := h.pt
theorem zdd_ (h : EB Z g W T He a t1) : EB Z g W T He (.UnaryOp .Not a pos) (tNotB t1) :=
  pt_w (pt_not h) fun σ H Q ⟨Γ, S, rl, w⟩ => by
    simp only [tNotB, M.wp_bind, M.wp_ret] at w
    exact rdT.use rl (M.wp_mono (fun x w H1 e1 l1 => w H1 e1) w)
def sLst (fs : Se (List X)) : Se X := fun Γ => (fs Γ).bind fun xs => if xs.length ≤ 100000 then .ret (if xs.any X.tn then .t (.lst (xs.map X.toD)) else .c (.l (xs.map X.toD))) else .fail
def sTup (fs : Se (List X)) : Se X := fun Γ => (fs Γ).bind fun xs => if xs.length ≤ 100000 then .ret (if xs.any X.tn then .t (.tup (xs.map X.toD)) else .p (.tup (xs.map X.toD))) else .fail
theorem RpXs.toD {S : List Addr} {H0 H : Hp} : ∀ {vs : List V} {xs : List X}, RpXs g T S H0 H vs xs → RpA g (off H T) vs (xs.map X.toD)
  | _, _, .nil => .nil
  | _, _, .cons h t => .cons h.toD t.toD
theorem RpXs.toD' {S : List Addr} {H0 H : Hp} : ∀ {vs : List V} {xs : List X}, RpXs g T S H0 H vs xs → xs.any X.tn = false → RpA g (off H (T ++ S)) vs (xs.map X.toD)
  | _, _, .nil, _ => .nil
  | _, _, .cons h t, e => by
    rw [List.any_cons, Bool.or_eq_false_iff] at e
    exact .cons (h.toD' e.1) (t.toD' e.2)
theorem RpXs.length {S : List Addr} {H0 H : Hp} : ∀ {vs : List V} {xs : List X}, RpXs g T S H0 H vs xs → vs.length = xs.length
  | _, _, .nil => rfl
  | _, _, .cons _ t => congrArg Nat.succ t.length
theorem big {n : Nat} (h : n ≤ 100000) : n ≤ sizeLine := Nat.le_trans h (by decide)
theorem zbV_ {H : Hp} {p : Addr} {o : HO} {U : List Addr} (h : H p = none) : Same (off H U) (off (upd H p o) U) := (Same.newT h).offT U
theorem RpA.new {H : Hp} {p : Addr} {o : HO} {U : List Addr} {vs : List V} {ds : List D} (r : RpA g (off H U) vs ds) (h : H p = none) : RpA g (off (upd H p o) U) vs ds := RpA.mono (zbV_ h) _ r
theorem new_lst {H : Hp} {p : Addr} {U : List Addr} {vs : List V} {ds : List D} (f : FdOk g U H) (h : H p = none) (r : RpA g (off H U) vs ds) : RpR g U H (upd H p (.lst vs)) (.ref p) (.nw (.l ds)) :=
  ⟨p, rfl, h, f.nin h, vs, upd_same, RpA.mono ((zbk_ (T := []) h).trans (zbV_ h)) _ r⟩
theorem zc9_ {H : Hp} {p : Addr} {U : List Addr} {vs : List V} {ds : List D} (f : FdOk g U H) (h : H p = none) (r : RpA g (off H U) vs ds) : Rp g (off (upd H p (.tup vs)) U) (.ref p) (.tup ds) :=
  .tup (SqT.of (by rw [za4_ (f.nin h)]; exact upd_same)) (r.new h)
theorem zb0_ (h : EA Z g W T He es fs) : EV Z g W T He (.List es pos) (sLst fs) :=
  pe_w (pe_lst h) fun σ H Q ⟨Γ, S, rl, w⟩ => by
    simp only [sLst, M.wp_bind] at w
    refine rdA.use rl (M.wp_mono (fun xs w vs H1 e1 l1 xx => ?_) w)
    split at w
    · rename_i hz
      refine ⟨big (by rw [xx.length]; exact hz), fun p hp => w (.ref p) _ (e1.trans (l1.ext_new hp)) ?_⟩
      split
      · exact .lst (by rw [za4_ (l1.fokT.nin hp)]; exact upd_same) (xx.toD.new hp)
      · rename_i ht
        obtain ⟨a, e, _, n, r⟩ := new_lst l1.fok hp (xx.toD' (by simpa using ht))
        cases e
        exact ⟨p, rfl, e1.free hp fun h => n (List.mem_append_left _ (l1.t p h)), n, r⟩
    · exact w.elim
theorem ev_tup {k : _} (h : EA Z g W T He es fs) : EV Z g W T He (.Tuple es k pos) (sTup fs) :=
  pe_w (pe_tup h) fun σ H Q ⟨Γ, S, rl, w⟩ => by
    simp only [sTup, M.wp_bind] at w
    refine rdA.use rl (M.wp_mono (fun xs w vs H1 e1 l1 xx => ?_) w)
    split at w
    · rename_i hz
      refine ⟨big (by rw [xx.length]; exact hz), fun p hp => w (.ref p) _ (e1.trans (l1.ext_new hp)) ?_⟩
      split
      · exact zc9_ l1.fokT hp xx.toD
      · rename_i ht
        exact zc9_ l1.fok hp (xx.toD' (by simpa using ht))
    · exact w.elim
section
variable {H : Hp} {v : V}
theorem Rp1.int {i : Int} (r : Rp1 g T H v (.int i)) : v = .int i := by cases r with | of r => cases r; rfl
theorem Rp1.bl {i : Bool} (r : Rp1 g T H v (.bl i)) : v = .bl i := by cases r with | of r => cases r; rfl
theorem Rp1.non (r : Rp1 g T H v .non) : v = .non := by cases r with | of r => cases r; rfl
theorem Rp1.str {i : Str} (r : Rp1 g T H v (.str i)) : v = .str i ∧ PyData.strOk i = true := by cases r with | of r => cases r with | str _ h => exact ⟨rfl, h⟩
theorem Rp1.lst {ds : List D} (r : Rp1 g T H v (.lst ds)) : ∃ a vs, v = .ref a ∧ H a = some (.lst vs) ∧ RpA g (off H T) vs ds := by
  cases r with
  | of r => cases r with | lst h1 h2 => exact ⟨_, _, rfl, zaD_ _ _ _ _ h1, h2⟩
  | l h1 h2 => exact ⟨_, _, rfl, h1, h2⟩
theorem Rp1.tup {ds : List D} (r : Rp1 g T H v (.tup ds)) : ∃ a vs, v = .ref a ∧ SqT g.K H a vs ∧ RpA g (off H T) vs ds ∧ Rp g (off H T) v (.tup ds) := by
  cases r with
  | of r => cases r with | tup h1 h2 => exact ⟨_, _, rfl, Same.seqTT (zaD_ _ _) h1, h2, .tup h1 h2⟩
theorem Rp1.ins {C : Nat} {fs : List D} (r : Rp1 g T H v (.ins C fs)) : ∃ a dx fv, v = .ref a ∧ H a = some (.ins (g.ad C) dx fv) ∧ FvOk g C fv ∧ RpA g (off H T) (fv.map Prod.snd) fs := by
  cases r with
  | of r => cases r with | ins h1 hf h2 => exact ⟨_, _, _, rfl, zaD_ _ _ _ _ h1, hf, h2⟩
  | i h1 hf h2 => exact ⟨_, _, _, rfl, h1, hf, h2⟩
end
end
end G
namespace G
open PySem PySem.Spec L2
open PyProof.Rows hiding St
theorem OpR.or {X : Cx} {f : Value → Value → Sem Value} {r r' : R2} (h : OpR X f r) (h' : OpR X f r') : OpR X f (fun x y H Q => r x y H Q ∨ r' x y H Q) := by
  intro pins s σ H x y u v Q I rx ry q
  rcases q with q | q
  · exact h pins s σ H x y u v Q I rx ry q
  · exact h' pins s σ H x y u v Q I rx ry q
mutual
def D.py : D → Option PyData
  | .non => some .none
  | .bl b => some (.bool b)
  | .int i => some (.int i)
  | .str x => some (.str x)
  | .lst ds => (D.pys ds).map .list
  | .tup ds => (D.pys ds).map .tuple
  | .ins _ _ => none
  | .feed => none
  | .fn _ => none
  | .dk _ _ => none
  | .dj _ _ => none
  | .dn _ _ => none
def D.pys : List D → Option (List PyData)
  | [] => some []
  | d :: ds => match D.py d, D.pys ds with
    | some x, some xs => some (x :: xs)
    | _, _ => none
end
section
variable {g : Cf} {H : Hp}
mutual
theorem Rp.dp : ∀ (d : D) {v : V} {pd : PyData}, Rp g H v d → d.py = some pd → Dp g.K H v pd ∧ pd.canLay0 = true
  | .non, _, _, h, e => by cases h; simp only [D.py, Option.some.injEq] at e; subst e; exact ⟨.non, by simp only [PyData.canLay0]⟩
  | .bl b, _, _, h, e => by cases h; simp only [D.py, Option.some.injEq] at e; subst e; exact ⟨.bl b, by simp only [PyData.canLay0]⟩
  | .int i, _, _, h, e => by cases h; simp only [D.py, Option.some.injEq] at e; subst e; exact ⟨.int i, by simp only [PyData.canLay0]⟩
  | .str x, _, _, h, e => by
    cases h with
    | str _ hx => simp only [D.py, Option.some.injEq] at e; subst e; exact ⟨.str x, by simpa only [PyData.canLay0] using hx⟩
  | .lst ds, _, _, h, e => by
    cases h with
    | lst h1 h2 =>
      simp only [D.py, Option.map_eq_some_iff] at e
      obtain ⟨pds, e1, rfl⟩ := e
      obtain ⟨q1, q2⟩ := RpA.dp ds h2 e1
      exact ⟨.lst (SqL.of h1) q1, by simpa only [PyData.canLay0] using q2⟩
  | .tup ds, _, _, h, e => by
    cases h with
    | tup h1 h2 =>
      simp only [D.py, Option.map_eq_some_iff] at e
      obtain ⟨pds, e1, rfl⟩ := e
      obtain ⟨q1, q2⟩ := RpA.dp ds h2 e1
      exact ⟨.tup h1 q1, by simpa only [PyData.canLay0] using q2⟩
  | .ins _ _, _, _, _, e => by simp only [D.py] at e; cases e
  | .feed, _, _, _, e => by simp only [D.py] at e; cases e
  | .fn _, _, _, _, e => by simp only [D.py] at e; cases e
  | .dk _ _, _, _, _, e => by simp only [D.py] at e; cases e
  | .dn _ _, _, _, _, e => by simp only [D.py] at e; cases e
  | .dj _ _, _, _, _, e => by simp only [D.py] at e; cases e
theorem RpA.dp : ∀ (ds : List D) {vs : List V} {pds : List PyData}, RpA g H vs ds → D.pys ds = some pds → DpAll g.K H vs pds ∧ PyData.canLayAll0 pds = true
  | [], _, _, h, e => by cases h; simp only [D.pys, Option.some.injEq] at e; subst e; exact ⟨.nil, by simp only [PyData.canLayAll0]⟩
  | d :: ds, _, _, h, e => by
    cases h with
    | cons h1 h2 =>
      simp only [D.pys] at e
      cases e1 : d.py with
      | none => rw [e1] at e; cases e
      | some x =>
        cases e2 : D.pys ds with
        | none => rw [e1, e2] at e; cases e
        | some xs =>
          rw [e1, e2] at e
          simp only [Option.some.injEq] at e
          subst e
          obtain ⟨q1, q2⟩ := Rp.dp d h1 e1
          obtain ⟨q3, q4⟩ := RpA.dp ds h2 e2
          exact ⟨.cons q1 q3, by simp only [PyData.canLayAll0, q2, q4, Bool.and_self]⟩
end
theorem Rp1.on {T : List Addr} {v : V} {d : D} (r : Rp1 g T H v d) : Rp g H v d := by
  cases r with
  | of r => exact r.on
  | l h1 h2 => exact .lst h1 (RpA.mono (zaD_ _ _) _ h2)
  | i h1 hf h2 => exact .ins h1 hf (RpA.mono (zaD_ _ _) _ h2)
  | k h1 hk h2 => exact .dj h1 hk (RpA.mono (zaD_ _ _) _ h2)
end
def lim (n : Nat) (m : M R) : M R := if n ≤ 100000 then m else .fail
theorem lim_wp {n : Nat} {m : M R} {E : XD} {Q : R → Prop} (h : (lim n m).wp E Q) : n ≤ 100000 ∧ m.wp E Q := by
  unfold lim at h
  split at h
  · exact ⟨by assumption, h⟩
  · exact h.elim
@[simp] theorem lim_ok {n : Nat} {m : M R} (h : n ≤ 100000) : lim n m = m := if_pos h
section
variable {Z : Cx} {g : Cf} {W : XK}
def eqPy (neg : Bool) (d1 d2 : D) : M R :=
  match d1.py, d2.py with
  | some x, some y => if x.depth ≤ 60 ∧ y.depth ≤ 60 then .ret (.at (.bl (neg != PyData.eqv x y))) else .fail
  | _, _ => .fail
theorem zc7_ {neg : Bool} {T : List Addr} {H : Hp} {v1 v2 : V} {d1 d2 : D} {Q : VK} (f : FdOk g T H) (r1 : Rp1 g T H v1 d1) (r2 : Rp1 g T H v2 d2) {E : XD} (w : (eqPy neg d1 d2).wp E (fun z => ∀ v H', Ext g.fd H H' → RpR g T H H' v z → Q v H')) :
    ∃ d e, Dp g.K H v1 d ∧ Dp g.K H v2 e ∧ SeqAt.shaped d = true ∧ SeqAt.shaped e = true ∧ Q (.bl (neg != PyData.eqv d e)) H := by
  unfold eqPy at w
  cases e1 : d1.py with
  | none => rw [e1] at w; exact w.elim
  | some x =>
    cases e2 : d2.py with
    | none => rw [e1, e2] at w; exact w.elim
    | some y =>
      rw [e1, e2] at w
      simp only at w
      split at w
      · rename_i hd
        obtain ⟨p1, c1⟩ := Rp.dp _ r1.on e1
        obtain ⟨p2, c2⟩ := Rp.dp _ r2.on e2
        exact ⟨x, y, p1, p2, by unfold SeqAt.shaped; rw [c1, decide_eq_true (by omega)]; rfl, by unfold SeqAt.shaped; rw [c2, decide_eq_true (by omega)]; rfl, w _ H f.refl (.bl _)⟩
      · exact w.elim
theorem pr_eq : Pr2 g (rEqD g.K) (eqPy false) := fun T H v1 v2 d1 d2 Q f r1 r2 _ w => by
  obtain ⟨d, e, h1, h2, h3, h4, q⟩ := zc7_ f r1 r2 w
  exact ⟨d, e, h1, h2, h3, h4, by simpa using q⟩
theorem pr_ne : Pr2 g (rNeD g.K) (eqPy true) := fun T H v1 v2 d1 d2 Q f r1 r2 _ w => by
  obtain ⟨d, e, h1, h2, h3, h4, q⟩ := zc7_ f r1 r2 w
  exact ⟨d, e, h1, h2, h3, h4, by simpa using q⟩
def D.isN : D → Bool
  | .non => true
  | _ => false
def isND (neg : Bool) : D → D → M R
  | d, .non => .ret (.at (.bl (neg != d.isN)))
  | _, _ => .fail
theorem Rp.isN {H : Hp} {v : V} {d : D} (r : Rp g H v d) : decide (v = .non) = d.isN := by cases r <;> simp [D.isN]
theorem pr_isN : Pr2 g (fun x y H Q => y = .non ∧ Q (.bl (decide (x = .non))) H) (isND false) := fun T H v1 v2 d1 d2 Q f r1 r2 _ w => by
  cases d2 <;> first | exact w.elim | skip
  refine ⟨r2.non, ?_⟩
  rw [r1.on.isN]
  simpa using w _ H f.refl (.bl _)
def isBD (neg : Bool) : D → D → M R
  | .bl a, .bl b => .ret (.at (.bl (neg != decide (a = b))))
  | _, _ => .fail
theorem Rp.flat {H : Hp} {v : V} {d : D} (r : Rp g H v d) (h : d.flat = true) : flatV v = true := by cases r <;> first | rfl | cases h
theorem RpA.flat {H : Hp} : ∀ {vs : List V} {ds : List D}, RpA g H vs ds → ds.all D.flat = true → vs.all flatV = true
  | _, _, .nil, _ => rfl
  | _, _, .cons h t, e => by
    rw [List.all_cons, Bool.and_eq_true] at e ⊢
    exact ⟨h.flat e.1, t.flat e.2⟩
def sgn (c : Nat) : Str := ⟨#[c]⟩
def ixD : D → D → M R
  | .lst ds, .int i => .of ((atI ds i).map .dt)
  | .tup ds, .int i => .of ((atI ds i).map .dt)
  | .str z, .int i => lim z.length (.of ((atI z.cps.toList i).map fun c => .at (.str (sgn c))))
  | _, _ => .fail
theorem RpA.atI {H : Hp} {vs : List V} {ds : List D} {i : Int} {d : D} (r : RpA g H vs ds) (h : atI ds i = some d) : ∃ v, L2.atI vs i = some v ∧ Rp g H v d := by
  unfold L2.atI at h ⊢
  rw [r.length]
  cases q : ixN ds.length i with
  | none => rw [q] at h; cases h
  | some j => rw [q] at h; exact r.get h
theorem strOk_sgn {z : Str} {c : Nat} (h : PyData.strOk z = true) (hc : c ∈ z.cps.toList) : PyData.strOk (sgn c) = true := by
  unfold PyData.strOk at h ⊢
  rw [Array.all_eq_true_iff_forall_mem] at h
  have := h c (by simpa using hc)
  simpa [sgn] using this
theorem atI_mem {α : Type} {xs : List α} {i : Int} {x : α} (h : atI xs i = some x) : x ∈ xs := by
  unfold L2.atI at h
  cases q : ixN xs.length i with
  | none => rw [q] at h; cases h
  | some j => rw [q] at h; exact List.mem_of_getElem? h
theorem pr_ix : Pr2 g (rIx g.K) ixD := fun T H v1 v2 d1 d2 Q f r1 r2 _ w => by
  cases d1 <;> cases d2 <;> first | exact w.elim | skip
  · rename_i z i
    obtain ⟨hz, w⟩ := lim_wp w
    obtain ⟨rfl, ok⟩ := r1.str
    cases e : atI z.cps.toList i with
    | none => rw [e] at w; exact w.elim
    | some c =>
      rw [e] at w
      exact .inr (.inr ⟨z, i, c, rfl, r2.int, big hz, e, w _ H f.refl (.str _ (strOk_sgn ok (atI_mem e)))⟩)
  · rename_i ds i
    obtain ⟨a, vs, rfl, h1, q1⟩ := r1.lst
    unfold ixD at w
    simp only at w
    cases e : atI ds i with
    | none => rw [e] at w; exact w.elim
    | some d =>
      rw [e] at w
      obtain ⟨v, h2, h3⟩ := q1.atI e
      exact .inl ⟨a, vs, i, v, rfl, r2.int, SqL.of h1, h2, w _ H f.refl h3⟩
  · rename_i ds i
    obtain ⟨a, vs, rfl, h1, q1, _⟩ := r1.tup
    unfold ixD at w
    simp only at w
    cases e : atI ds i with
    | none => rw [e] at w; exact w.elim
    | some d =>
      rw [e] at w
      obtain ⟨v, h2, h3⟩ := q1.atI e
      exact .inr (.inl ⟨a, vs, i, v, rfl, r2.int, h1, h2, w _ H f.refl h3⟩)
end
section
variable {Z : Cx} {g : Cf} {W : XK} {T : List Addr} {He : Hp} {a b c : Expr} {f1 f2 f3 : Se X} {fs : Se (List X)} {pos p2 : Pos}
theorem ev_ix (hK : Z.K = g.K) (ha : EV Z g W T He a f1) (hb : EV Z g W T He b f2) (hs : PlainIx b := by exact fun _ _ => rfl) : EV Z g W T He (.Subscript a b pos) (s2 ixD f1 f2) :=
  pe_w (pe_ix (hK ▸ ix_seq) ha hb hs) fun _ _ _ ⟨_, _, rl, w⟩ => rd2 pr_ix rl w
def cutD {α : Type} (xs : List α) (lo hi : Option Int) : List α := (xs.drop (HT.sIx xs.length 0 lo)).take (HT.sIx xs.length xs.length hi - HT.sIx xs.length 0 lo)
def slD (d : D) (lo hi : Option Int) : M R :=
  match d with
  | .lst ds => .ret (.nw (.l (cutD ds lo hi)))
  | .tup ds => .ret (.dt (.tup (cutD ds lo hi)))
  | .str z => lim z.length (.ret (.at (.str (cutS z lo hi))))
  | _ => .fail
def sPo (f : Option (Se X)) : Se (Option Int) := match f with
  | none => fun _ => .ret none
  | some f => fun Γ => (f Γ).bind fun x => match x.toD with | .int i => .ret (some i) | _ => .fail
def sSl (f : Se X) (lo hi : Option (Se X)) : Se X := fun Γ => (f Γ).bind fun x => (sPo lo Γ).bind fun l => (sPo hi Γ).bind fun h => (slD x.toD l h).bind fun z => .ret (z.fin x.tt)
theorem RpA.cut {H : Hp} {vs : List V} {ds : List D} (r : RpA g H vs ds) (lo hi : Option Int) : RpA g H (cutV vs lo hi) (cutD ds lo hi) := by
  unfold cutV cutD
  rw [r.length]
  exact (r.drop _).take _
end
end G
namespace G
open PySem PySem.Spec L2
open PyProof.Rows hiding St
theorem zcN_ {f : Str} {v : V} : ∀ {fv : List (Str × V)} {i : Nat}, (fv.map Prod.fst).Nodup → fv[i]? = some (f, v) → fv.lookup f = some v
  | [], _, _, e => by simp at e
  | (n, u) :: fv, 0, _, e => by
    simp only [List.getElem?_cons_zero, Option.some.injEq, Prod.mk.injEq] at e
    obtain ⟨rfl, rfl⟩ := e
    simp
  | (n, u) :: fv, i + 1, h, e => by
    simp only [List.map_cons, List.nodup_cons] at h
    simp only [List.getElem?_cons_succ] at e
    have hm : f ∈ fv.map Prod.fst := List.mem_map.mpr ⟨_, List.mem_of_getElem? e, rfl⟩
    have hne : (f == n) = false := by
      rw [beq_eq_false_iff_ne]
      intro q
      rw [q] at hm
      exact h.1 hm
    rw [List.lookup_cons, hne]
    exact zcN_ h.2 e
structure FlOk (g : Cf) (f : Str) (ix : Nat → Option Nat) : Prop where
  ok : ∀ C i, ix C = some i → Cls g.K (g.ad C) ∧ NoAttr g.K (g.ad C) f ∧ (g.fl C)[i]? = some f ∧ (g.fl C).Nodup
theorem FvOk.lookup {g : Cf} {C : Nat} {fv : List (Str × V)} {i : Nat} {f : Str} {v : V} (h : FvOk g C fv) (hi : (g.fl C)[i]? = some f) (nd : (g.fl C).Nodup) (hv : (fv.map Prod.snd)[i]? = some v) : fv.lookup f = some v := by
  rw [List.getElem?_map, Option.map_eq_some_iff] at hv
  obtain ⟨⟨n, u⟩, h1, rfl⟩ := hv
  have hn : n = f := by
    have e : (fv.map Prod.fst)[i]? = some n := by rw [List.getElem?_map, h1]; rfl
    unfold FvOk at h
    rw [h, List.getElem?_take] at e
    split at e
    · rw [hi] at e; cases e; rfl
    · cases e
  subst hn
  refine zcN_ ?_ h1
  unfold FvOk at h
  rw [h]
  exact nd.sublist (List.take_sublist _ _)
def flD (ix : Nat → Option Nat) : D → M R
  | .ins C fs => match ix C with
    | some i => .of (fs[i]?.map .dt)
    | none => .fail
  | _ => .fail
def sFl (ix : Nat → Option Nat) (f : Se X) : Se X := fun Γ => (f Γ).bind fun x => (flD ix x.toD).bind fun z => .ret (z.fin x.tt)
section
variable {Z : Cx} {g : Cf} {W : XK} {T : List Addr} {He : Hp} {a b c : Expr} {f1 f2 f3 : Se X} {fs : Se (List X)} {pos p2 : Pos}
theorem ev_cB {id : String} {x : Str} {e : Expr} {es : List Expr} {p : Pos} {r : List V → Hp → VK → Prop} {sem : List D → M R} (hc : CallR Z (.builtin id) r) (hp : PrN g r sem) (hg : Gl Z x) (hm : Z.mg x = none) (hv : bootBuiltins x = some (.builtin id)) (ha : EA Z g W T He (e :: es) fs)
    (hn : x ≠ "__name__" := by decide) (hdb : (x == ("__debug__" : Str)) = false := by decide) (he : starEach (e :: es) Z.env = (false, eval e Z.env) :: starEach es Z.env := by rfl) (hpl : (backTo pos (starEach es Z.env)).any (·.1) = false := by rfl) :
    EV Z g W T He (.Call (.Name x p) (e :: es) [] pos) (sN sem fs) :=
  pe_w (pe_callB hc hg hm hv ha hn hdb he hpl) fun _ _ _ ⟨_, _, rl, w⟩ => rdN hp rl w
theorem Rp1s.one {T : List Addr} {H : Hp} {vs : List V} {d : D} (r : Rp1s g T H vs [d]) : ∃ v, vs = [v] ∧ Rp1 g T H v d := by
  cases r with
  | cons h t => cases t; exact ⟨_, rfl, h⟩
def lenD : List D → M R
  | [.str z] => lim z.length (.ret (.at (.int z.length)))
  | [.lst ds] => .ret (.at (.int ds.length))
  | [.tup ds] => .ret (.at (.int ds.length))
  | _ => .fail
theorem pr_len : PrN g (fun xs H Q => ∃ x n, xs = [x] ∧ LenV g.K x H n ∧ Q (.int n) H) lenD := fun T H vs ds Q f r _ w => by
  match ds, r, w with
  | [.str z], r, w =>
    obtain ⟨v, rfl, r1⟩ := r.one
    obtain ⟨hz, w⟩ := lim_wp w
    exact ⟨v, z.length, rfl, by rw [r1.str.1]; exact ⟨big hz, rfl⟩, w _ H f.refl (.int _)⟩
  | [.lst ds], r, w =>
    obtain ⟨v, rfl, r1⟩ := r.one
    obtain ⟨a, vs, rfl, h1, h2⟩ := r1.lst
    exact ⟨_, _, rfl, .inl ⟨vs, SqL.of h1, rfl⟩, w _ H f.refl (by rw [h2.length]; exact .int _)⟩
  | [.tup ds], r, w =>
    obtain ⟨v, rfl, r1⟩ := r.one
    obtain ⟨a, vs, rfl, h1, h2, _⟩ := r1.tup
    exact ⟨_, _, rfl, .inr ⟨vs, h1, rfl⟩, w _ H f.refl (by rw [h2.length]; exact .int _)⟩
def D.bools : List D → Option (List Bool)
  | [] => some []
  | .bl b :: ds => (D.bools ds).map (b :: ·)
  | _ => none
theorem RpA.bools {H : Hp} : ∀ {vs : List V} {ds : List D} {bs : List Bool}, RpA g H vs ds → D.bools ds = some bs → vs = bs.map V.bl
  | _, _, bs, .nil, e => by cases e; rfl
  | _, _, bs, .cons h t, e => by
    cases h <;> first | (cases e; done) | skip
    simp only [D.bools, Option.map_eq_some_iff] at e
    obtain ⟨cs, e, rfl⟩ := e
    rw [RpA.bools t e]; rfl
def allD : List D → M R
  | [.lst ds] => .of ((D.bools ds).map fun bs => .at (.bl (bs.all id)))
  | _ => .fail
theorem pr_all : PrN g (rAll g.K) allD := fun T H vs ds Q f r _ w => by
  match ds, r, w with
  | [.lst ds], r, w =>
    obtain ⟨v, rfl, r1⟩ := r.one
    obtain ⟨a, vs, rfl, h1, h2⟩ := r1.lst
    unfold allD at w
    cases e : D.bools ds with
    | none => simp only [e] at w; exact w.elim
    | some bs =>
      simp only [e] at w
      rw [h2.bools e] at h1
      exact ⟨a, bs, rfl, SqL.of h1, w _ H f.refl (.bl _)⟩
end
end G
namespace G
open PySem PySem.Spec L2
open PyProof.Rows hiding St
section
variable {Z : Cx} {g : Cf} {W : XK} {T : List Addr} {He : Hp} {a b c : Expr} {f1 f2 f3 : Se X} {fs : Se (List X)} {pos p2 : Pos}
def D.tyv (g : Cf) : D → Value
  | .non => .type "NoneType"
  | .bl _ => .type "bool"
  | .int _ => .type "int"
  | .str _ => .type "str"
  | .lst _ => .type "list"
  | .tup _ => .type "tuple"
  | .ins C _ => .ref (g.ad C)
  | .feed => .none
  | .fn _ => .none
  | .dk _ _ => .none
  | .dn _ _ => .none
  | .dj _ _ => .none
structure TyF (g : Cf) (P : Nat → Bool) : Prop where
  ty : ∀ C, P C = true → ∀ {H : Hp} {a dx : Addr} {fs : List (Str × V)}, H a = some (.ins (g.ad C) dx fs) → TyOf g.K H (.ref a) (.ref (g.ad C))
theorem Rp.tyx {P : Nat → Bool} (tf : TyF g P) {H : Hp} {v : V} {d : D} (r : Rp g H v d) (h : ∀ C fs, d = .ins C fs → P C = true) (hf : d ≠ .feed) (hj : ∀ j, d ≠ .fn j) (hk : (∀ ks ds, d ≠ .dk ks ds) ∧ (∀ ks ds, d ≠ .dn ks ds) ∧ ∀ ks ds, d ≠ .dj ks ds) : TyX g.K H v (d.tyv g) := by
  cases r with
  | non => exact .base .non
  | bl b => exact .base (.bl b)
  | int i => exact .base (.int i)
  | str x _ => exact .base (.str x)
  | lst h1 _ => exact .base (.lst h1)
  | tup hs _ =>
    rcases hs with (h | ⟨o, h⟩) | ⟨o, its, n, h, hc, _⟩
    · exact .base (.tup h)
    · exact .fTuple h
    · exact .kTuple h hc
  | ins h1 _ _ => exact .base (tf.ty _ (h _ _ rfl) h1)
  | feed => exact absurd rfl hf
  | fn => exact absurd rfl (hj _)
  | dk => exact absurd rfl (hk.1 _ _)
  | dn => exact absurd rfl (hk.2.1 _ _)
  | dj => exact absurd rfl (hk.2.2 _ _)
structure IsK (g : Cf) (u : Value) (p : D → Option Bool) : Prop where
  ok : ∀ d b, p d = some b → PySem.W.kitOne g.K (d.tyv g) u = some b
  nf : p .feed = none
  nj : ∀ j, p (.fn j) = none
  nk : (∀ ks ds, p (.dk ks ds) = none) ∧ (∀ ks ds, p (.dn ks ds) = none) ∧ ∀ ks ds, p (.dj ks ds) = none
def sIsi (p : D → Option Bool) (f : Se X) : Se X := fun Γ => (f Γ).bind fun x => match p x.toD with | some b => .ret (.p (.bl b)) | none => .fail
theorem zcD_ {P : Nat → Bool} {e ce : Expr} {px : Pos} {cv : V} {u : Value} {p : D → Option Bool} (hK : Z.K = g.K) (tf : TyF g P) (hP : ∀ C fs, (p (.ins C fs)).isSome = true → P C = true) (ik : IsK g u p) (cl : ClsV cv u) (hg : Gl Z "isinstance") (hm : Z.mg "isinstance" = none)
    (he : EV Z g W T He e f1) (hce : PE Z ce (tC cv)) (hs : starEach (e :: [ce]) Z.env = (false, eval e Z.env) :: starEach [ce] Z.env := by rfl) (hs2 : starEach [ce] Z.env = (false, eval ce Z.env) :: starEach [] Z.env := by rfl) (hpl : (backTo pos (starEach [ce] Z.env)).any (·.1) = false := by rfl) :
    EV Z g W T He (.Call (.Name "isinstance" px) [e, ce] [] pos) (sIsi p f1) :=
  pe_w (pe_callB call_isi hg hm (by decide +kernel) (pa_cons he (pa_cons hce pa_nil hs2) hs) (by decide) (by decide) hs hpl) fun σ H Q ⟨Γ, S, rl, w⟩ => by
    simp only [sIsi, M.wp_bind] at w
    refine rdE.use rl (M.wp_mono (fun x w v1 H1 e1 l1 x1 => ?_) w)
    cases hb : p x.toD with
    | none => rw [hb] at w; exact w.elim
    | some b =>
      rw [hb] at w
      exact ⟨v1, cv, _, u, b, rfl, cl, hK ▸ x1.on.tyx tf (fun C fs e => hP C fs (by rw [← e, hb]; rfl)) (fun e => by rw [e, ik.nf] at hb; cases hb) (fun j e => by rw [e, ik.nj] at hb; cases hb) ⟨fun ks ds e => (by rw [e, ik.nk.1] at hb; cases hb), fun ks ds e => (by rw [e, ik.nk.2.1] at hb; cases hb), fun ks ds e => (by rw [e, ik.nk.2.2] at hb; cases hb)⟩, hK ▸ ik.ok _ _ hb, w _ H1 e1 (Rp.bl b)⟩
theorem ev_isi2 {P : Nat → Bool} {e c1 c2 : Expr} {kk : _} {px tp : Pos} {cv1 cv2 : V} {u1 u2 : Value} {p1 p2 : D → Option Bool} (hK : Z.K = g.K) (tf : TyF g P) (hP : ∀ C fs, (p1 (.ins C fs)).isSome = true → P C = true) (ik1 : IsK g u1 p1) (ik2 : IsK g u2 p2) (cl1 : ClsV cv1 u1) (cl2 : ClsV cv2 u2) (hg : Gl Z "isinstance") (hm : Z.mg "isinstance" = none)
    (he : EV Z g W T He e f1) (h1 : PE Z c1 (tC cv1)) (h2 : PE Z c2 (tC cv2)) (hs : starEach (e :: [.Tuple [c1, c2] kk tp]) Z.env = (false, eval e Z.env) :: starEach [.Tuple [c1, c2] kk tp] Z.env := by rfl)
    (hs2 : starEach [.Tuple [c1, c2] kk tp] Z.env = (false, eval (.Tuple [c1, c2] kk tp) Z.env) :: starEach [] Z.env := by rfl) (hs3 : starEach [c1, c2] Z.env = (false, eval c1 Z.env) :: starEach [c2] Z.env := by rfl) (hs4 : starEach [c2] Z.env = (false, eval c2 Z.env) :: starEach [] Z.env := by rfl) (hpl : (backTo pos (starEach [.Tuple [c1, c2] kk tp] Z.env)).any (·.1) = false := by rfl) :
    EV Z g W T He (.Call (.Name "isinstance" px) [e, .Tuple [c1, c2] kk tp] [] pos) (sIsi (fun d => match p1 d, p2 d with | some a, some b => some (a || b) | _, _ => none) f1) :=
  pe_w (pe_callB call_isiT hg hm (by decide +kernel) (pa_cons he (pa_cons (pe_tup (pa_cons h1 (pa_cons h2 pa_nil hs4) hs3)) pa_nil hs2) hs) (by decide) (by decide) hs hpl) fun σ H Q ⟨Γ, S, rl, w⟩ => by
    simp only [sIsi, M.wp_bind] at w
    refine rdE.use rl (M.wp_mono (fun x w v1 H1 e1 l1 x1 => ?_) w)
    cases hb : p1 x.toD with
    | none => rw [hb] at w; exact w.elim
    | some b =>
      cases hb2 : p2 x.toD with
      | none => rw [hb, hb2] at w; exact w.elim
      | some b2 =>
        rw [hb, hb2] at w
        refine ⟨by show 2 ≤ sizeLine; decide, fun q hq => ?_⟩
        have r := (x1.mono (l1.ext_new (o := .tup [cv1, cv2]) hq) l1.t).on
        refine ⟨v1, q, _, _, [u1, u2], b || b2, rfl, upd_same, .cons cl1 (.cons cl2 .nil), hK ▸ r.tyx tf (fun C fs e => hP C fs (by rw [← e, hb]; rfl)) (fun e => by rw [e, ik1.nf] at hb; cases hb) (fun j e => by rw [e, ik1.nj] at hb; cases hb) ⟨fun ks ds e => (by rw [e, ik1.nk.1] at hb; cases hb), fun ks ds e => (by rw [e, ik1.nk.2.1] at hb; cases hb), fun ks ds e => (by rw [e, ik1.nk.2.2] at hb; cases hb)⟩, ?_, w _ _ (e1.trans (l1.ext_new hq)) (Rp.bl _)⟩
        rw [hK]
        refine kitAny_cons (ik1.ok _ _ hb) (fun e => ?_) (fun e => by rw [e]; rfl)
        rw [e]
        refine kitAny_cons (ik2.ok _ _ hb2) (fun e2 => ?_) (fun e2 => by rw [e2]; rfl)
        rw [e2]; exact kitAny_nil
end
end G
namespace G
open PySem PySem.Spec L2
open PyProof.Rows hiding St
structure ItOk (g : Cf) (ok : Hp → List Addr → Prop) (J : It) (ds : List D) : Prop where
  go : ∀ H U, ok H U → ∀ i d, ds[i]? = some d → J.go i H ∧ ∀ x H', J.yld i H x H' → Same H H' ∧ Rp g (off H' U) x d
  stop : ∀ H U, ok H U → J.stop ds.length H
section
variable {Z : Cx} {g : Cf} {W : XK} {T : List Addr} {He : Hp} {a b c : Expr} {f1 f2 f3 : Se X} {fs : Se (List X)} {pos p2 : Pos} {tg : Expr}
theorem zc8_ {ok : Hp → List Addr → Prop} {ad : Addr} {vs : List V} {ds : List D} (h : ∀ H U, ok H U → SqL g.K H ad vs ∧ RpA g (off H U) vs ds) : ItOk g ok (Itl g.K ad) ds where
  go := fun H U q i d hd => by
    obtain ⟨h1, h2⟩ := h H U q
    obtain ⟨v, h3, h4⟩ := h2.get hd
    refine ⟨⟨vs, v, h1, h3⟩, fun x H' y => ?_⟩
    obtain ⟨rfl, y⟩ := y
    have := y vs h1
    rw [h3] at this; cases this
    exact ⟨Same.refl _, h4⟩
  stop := fun H U q => by
    obtain ⟨h1, h2⟩ := h H U q
    exact ⟨vs, h1, by rw [h2.length]; exact Nat.le_refl _⟩
theorem it_tup {ok : Hp → List Addr → Prop} {ad : Addr} {vs : List V} {ds : List D} (h : ∀ H U, ok H U → SqT g.K H ad vs ∧ RpA g (off H U) vs ds) : ItOk g ok (Itt g.K ad) ds where
  go := fun H U q i d hd => by
    obtain ⟨h1, h2⟩ := h H U q
    obtain ⟨v, h3, h4⟩ := h2.get hd
    refine ⟨⟨vs, v, h1, h3⟩, fun x H' y => ?_⟩
    obtain ⟨rfl, y⟩ := y
    have := y vs h1
    rw [h3] at this; cases this
    exact ⟨Same.refl _, h4⟩
  stop := fun H U q => by
    obtain ⟨h1, h2⟩ := h H U q
    exact ⟨vs, h1, by rw [h2.length]; exact Nat.le_refl _⟩
def rangeL (lo : Int) (n : Nat) : List D := (List.range n).map fun i => .int (lo + (i : Nat))
theorem it_rng {ok : Hp → List Addr → Prop} {lo : Int} {n : Nat} : ItOk g ok (Itr lo n) (rangeL lo n) where
  go := fun H U q i d hd => by
    unfold rangeL at hd
    rw [List.getElem?_map, Option.map_eq_some_iff] at hd
    obtain ⟨j, h1, rfl⟩ := hd
    obtain ⟨h2, h3⟩ := List.getElem?_eq_some_iff.mp h1
    simp at h2 h3
    subst h3
    exact ⟨h2, fun x H' y => by obtain ⟨rfl, rfl⟩ := y; exact ⟨Same.refl _, .int _⟩⟩
  stop := fun H U q => by
    unfold rangeL
    rw [List.length_map, List.length_range]
    exact Nat.le_refl n
def iSq (K : PySem.W.Frag) (tl : TE) : TI := fun σ H R => tl σ H fun x H1 => ∃ a, x = .ref a ∧ (((∃ xs, SqL K H1 a xs) ∧ R (Itl K a) H1) ∨ ((∃ xs, SqT K H1 a xs) ∧ R (Itt K a) H1))
theorem pi_sq {l : Expr} {tl : TE} (hl : PE Z l tl) : PI Z tg l (iSq Z.K tl) := by
  refine ⟨fun pins s σ H R I h => ?_⟩
  refine thn (hl.run pins s σ H _ I h) fun v s1 ⟨x, H1, I1, r1, q1⟩ => ?_
  obtain ⟨a, e, ⟨⟨xs, hq⟩, q⟩ | ⟨⟨xs, hq⟩, q⟩⟩ := q1
  · subst e
    cases r1
    obtain ⟨its, rv, p, hz⟩ := I1.list hq
    refine wpAny_pyIter_list p.isList ?_
    refine ⟨s1.heap.objs.size, [s1.heap.objs.size], _, _, H1, rfl, I1.kept (t' := s1.toks) fun b o e => Heap.get?_push_of_some _ e, turn_list a _, ⟨_, Heap.get?_push_size _ rfl, rfl, rfl⟩, fun b hb => ?_, q⟩
    have e : b = s1.heap.objs.size := by simpa using hb
    subst e
    exact I1.fpOk (Nat.le_refl _) (I1.hok.fresh (Nat.le_refl _))
  · subst e
    cases r1
    obtain ⟨its, rv, p, hz⟩ := I1.tuple hq
    refine wpAny_pyIter_tuple (show s1.heap.IsTuple a its.toArray from p) ?_
    refine ⟨s1.heap.objs.size, [s1.heap.objs.size], _, _, H1, rfl, I1.kept (t' := s1.toks) fun b o e => Heap.get?_push_of_some _ e, turn_tuple a _, ⟨_, Heap.get?_push_size _ rfl, rfl, rfl⟩, fun b hb => ?_, q⟩
    have e : b = s1.heap.objs.size := by simpa using hb
    subst e
    exact I1.fpOk (Nat.le_refl _) (I1.hok.fresh (Nat.le_refl _))
theorem pi_w {l : Expr} {t t' : TI} (h : PI Z tg l t) (k : ∀ σ H R, t' σ H R → t σ H R) : PI Z tg l t' := ⟨fun pins s σ H R I q => h.run pins s σ H R I (k _ _ _ q)⟩
def okC (g : Cf) (T S : List Addr) (H0 : Hp) : Hp → List Addr → Prop := fun H U => Ext g.fd H0 H ∧ Same (off H0 (T ++ S)) (off H U) ∧ ∀ b ∈ U, H b ≠ none
def okF (U0 : List Addr) (H0 : Hp) : Hp → List Addr → Prop := fun H U => Same (off H0 U0) (off H U) ∧ ∀ b ∈ U, H b ≠ none
def rdI (g : Cf) (W : XK) (T : List Addr) (He : Hp) (f : Se (Bool × List D)) : TI := fun σ H R => ∃ Γ S, Rl g T He S H Γ σ ∧ (f Γ).wp (xp g W T He) fun p => ∀ J H', Ext g.fd H H' → ItOk g (okC g T S H') J p.2 → (p.1 = false → ItOk g (okF (T ++ S) H') J p.2) → R J H'
abbrev EI (Z : Cx) (g : Cf) (W : XK) (T : List Addr) (He : Hp) (tg e : Expr) (f : Se (Bool × List D)) : Prop := PI Z tg e (rdI g W T He f)
def itSq (x : X) : M (Bool × List D) := match x with
  | .p (.lst ds) => .ret (false, ds)
  | .p (.tup ds) => .ret (false, ds)
  | .c (.l ds) => .ret (false, ds)
  | .b (.l ds) => .ret (true, ds)
  | _ => .fail
def sSq (f : Se X) : Se (Bool × List D) := fun Γ => (f Γ).bind itSq
theorem zcl_ {U0 U : List Addr} {H0 H : Hp} {ad : Addr} {vs : List V} {ds : List D} (q : okF U0 H0 H U) (h1 : off H0 U0 ad = some (.lst vs)) (h2 : RpA g (off H0 U0) vs ds) : SqL g.K H ad vs ∧ RpA g (off H U) vs ds :=
  ⟨SqL.of (zaD_ _ _ _ _ (q.1 _ _ h1)), RpA.mono q.1 _ h2⟩
theorem zde_ {U0 U : List Addr} {H0 H : Hp} {ad : Addr} {vs : List V} {ds : List D} (q : okF U0 H0 H U) (h1 : SqT g.K (off H0 U0) ad vs) (h2 : RpA g (off H0 U0) vs ds) : SqT g.K H ad vs ∧ RpA g (off H U) vs ds :=
  ⟨Same.seqTT (q.1.trans (zaD_ _ _)) h1, RpA.mono q.1 _ h2⟩
theorem okC_F {S : List Addr} {H0 H : Hp} {U : List Addr} (q : okC g T S H0 H U) : okF (T ++ S) H0 H U := q.2
theorem ei_sq {l : Expr} (hK : Z.K = g.K) (hl : EV Z g W T He l f1) : EI Z g W T He tg l (sSq f1) :=
  pi_w (hK ▸ pi_sq hl) fun σ H R ⟨Γ, S, rl, w⟩ => by
    simp only [sSq, M.wp_bind] at w
    refine rdE.use rl (M.wp_mono (fun x w v1 H1 e1 l1 x1 => ?_) w)
    unfold itSq at w
    split at w <;> first | exact w.elim | skip
    · cases x1 with
      | lst h1 h2 => exact ⟨_, rfl, .inl ⟨⟨_, SqL.of (zaD_ _ _ _ _ h1)⟩, w _ H1 e1 (zc8_ fun H U q => zcl_ (okC_F q) h1 h2) fun _ => zc8_ fun H U q => zcl_ q h1 h2⟩⟩
    · cases x1 with
      | tup h1 h2 => exact ⟨_, rfl, .inr ⟨⟨_, Same.seqTT (zaD_ _ _) h1⟩, w _ H1 e1 (it_tup fun H U q => zde_ (okC_F q) h1 h2) fun _ => it_tup fun H U q => zde_ q h1 h2⟩⟩
    · obtain ⟨ad, rfl, _, n, vs, h1, h2⟩ := x1
      have h1' : off H1 (T ++ S) ad = some (.lst vs) := by rw [za4_ n]; exact h1
      have h2' := RpA.mono (za9_ (H := H1) fun b hb => List.mem_cons_of_mem ad hb) _ h2
      exact ⟨_, rfl, .inl ⟨⟨_, SqL.of h1⟩, w _ H1 e1 (zc8_ fun H U q => zcl_ (okC_F q) h1' h2') fun _ => zc8_ fun H U q => zcl_ q h1' h2'⟩⟩
    · obtain ⟨ad, rfl, _, n, vs, h1, h2⟩ := x1
      exact ⟨_, rfl, .inl ⟨⟨_, SqL.of h1⟩, w _ H1 e1 (zc8_ fun H U q => ⟨SqL.of (q.1.at l1.t n h1), RpA.mono q.2.1 _ h2⟩) fun z => (by cases z)⟩⟩
def sRg1 (f : Se (List X)) : Se (Bool × List D) := fun Γ => (f Γ).bind fun xs => match xs.map X.toD with
  | [.int j] => if -(2 ^ 62) ≤ j ∧ j < 2 ^ 62 then .ret (false, rangeL 0 j.toNat) else .fail
  | _ => .fail
theorem RpXs.on {S : List Addr} {H0 H : Hp} {vs : List V} {xs : List X} (r : RpXs g T S H0 H vs xs) : RpA g H vs (xs.map X.toD) := RpA.mono (zaD_ _ _) _ r.toD
theorem ei_rg1 {e : Expr} {p : Pos} (hg : Gl Z "range") (hm : Z.mg "range" = none) (ha : EA Z g W T He [e] fs) (hs : starEach [e] Z.env = [(false, eval e Z.env)] := by rfl) : EI Z g W T He tg (.Call (.Name "range" p) [e] [] pos) (sRg1 fs) :=
  pi_w (pi_range1 hg hm ha hs) fun σ H R ⟨Γ, S, rl, w⟩ => by
    simp only [sRg1, M.wp_bind] at w
    refine rdA.use rl (M.wp_mono (fun xs w vs H1 e1 l1 xx => ?_) w)
    have q := xx.on
    split at w <;> first | exact w.elim | skip
    rename_i j e
    rw [e] at q
    split at w
    · rename_i hj
      cases q with
      | cons h t => cases h; cases t; exact ⟨j, rfl, hj.1, hj.2, w _ H1 e1 it_rng fun _ => it_rng⟩
    · exact w.elim
inductive Tg where
  | n (i : Nat) | t (is : List Nat)
def Tg.asg : Tg → D → Option (List (Nat × D))
  | .n i, d => some [(i, d)]
  | .t is, .tup ds => if is.length = ds.length then some (is.zip ds) else none
  | _, _ => none
def setG (Γ : List Sl) : List (Nat × D) → List Sl
  | [] => Γ
  | (i, d) :: as => setG (Γ.set i (.v d)) as
def setS (σ : St) : List (Nat × V) → St
  | [] => σ
  | (i, v) :: ws => setS (σ.set i (some v)) ws
theorem Rl.setAll {S : List Addr} {H : Hp} : ∀ {as : List (Nat × D)} {ws : List (Nat × V)} {Γ : List Sl} {σ : St}, Rl g T He S H Γ σ → (∀ i ∈ as.map Prod.fst, g.ok0 i) → ws.map Prod.fst = as.map Prod.fst → RpA g (off H (T ++ S)) (ws.map Prod.snd) (as.map Prod.snd) → Rl g T He S H (setG Γ as) (setS σ ws)
  | [], [], _, _, r, _, _, _ => r
  | [], _ :: _, _, _, _, _, e, _ => by cases e
  | _ :: _, [], _, _, _, _, e, _ => by cases e
  | (i, d) :: as, (j, v) :: ws, Γ, σ, r, z, e, q => by
    simp only [List.map_cons, List.cons.injEq] at e
    obtain ⟨rfl, e⟩ := e
    cases q with
    | cons h t =>
      show Rl g T He S H (setG (Γ.set _ (.v d)) as) (setS (σ.set _ (some v)) ws)
      exact Rl.setAll (r.set_v (z _ List.mem_cons_self) h) (fun i hi => z i (List.mem_cons_of_mem _ hi)) e t
def rdG (g : Cf) (T : List Addr) (He : Hp) (tgt : Tg) : TG := fun v σ H Q => ∃ Γ S d as, Rl g T He S H Γ σ ∧ Rp g (off H (T ++ S)) v d ∧ tgt.asg d = some as ∧ ∀ ws : List (Nat × V), ws.map Prod.fst = as.map Prod.fst → Rl g T He S H (setG Γ as) (setS σ ws) → Q (setS σ ws) H
abbrev EG (Z : Cx) (g : Cf) (T : List Addr) (He : Hp) (e : Expr) (t : Tg) : Prop := PG Z e (rdG g T He t)
theorem pg_w {l : Expr} {t t' : TG} (h : PG Z l t) (k : ∀ v σ H R, t' v σ H R → t v σ H R) : PG Z l t' := ⟨fun pins s σ H v u Q I r q => h.run pins s σ H v u Q I r (k _ _ _ _ q)⟩
theorem eg_n {i : Nat} {x : Str} (h0 : g.ok0 i) (hN : Z.N.Nodup) (hi : Z.N[i]? = some x) (hx : Loc Z.env.scope x) (hf : Z.fn x = true ∨ Z.env.scope.names.lookup x = some .local := by first | exact .inl rfl | exact .inr rfl | assumption) : EG Z g T He (.Name x pos) (.n i) :=
  pg_w (pg_name hN hi hx hf) fun v σ H Q ⟨Γ, S, d, as, rl, r, e, q⟩ => by
    simp only [Tg.asg, Option.some.injEq] at e
    subst e
    exact q [(i, v)] rfl (rl.setAll (ws := [(i, v)]) (fun j hj => by simp only [List.map_cons, List.map_nil, List.mem_singleton] at hj; rw [hj]; exact h0) rfl (.cons r .nil))
def wipeG (Γ : List Sl) : List Nat → List Sl
  | [] => Γ
  | v :: vs => (wipeG Γ vs).set v .no
theorem Rl.forget {S : List Addr} {H : Hp} {Γ : List Sl} {σ : St} {i : Nat} (r : Rl g T He S H Γ σ) (h0 : g.ok0 i) : Rl g T He S H (Γ.set i .no) (σ.set i none) where
  len := by rw [List.length_set, List.length_set]; exact r.len
  sl := fun j s e => by
    by_cases q : i = j
    · subst q
      have hi : i < Γ.length := by
        have := (List.getElem?_eq_some_iff.mp e).1
        simpa using this
      rw [List.getElem?_set_self hi] at e
      cases e
      trivial
    · rw [List.getElem?_set_ne q] at e ⊢
      exact r.sl j s e
  ne := fun j k o o' a h1 h2 h3 h4 => by
    have nj : i ≠ j := fun q => by
      subst q
      have hi : i < Γ.length := by have := (List.getElem?_eq_some_iff.mp h1).1; simpa using this
      rw [List.getElem?_set_self hi] at h1; cases h1
    have nk : i ≠ k := fun q => by
      subst q
      have hi : i < Γ.length := by have := (List.getElem?_eq_some_iff.mp h2).1; simpa using this
      rw [List.getElem?_set_self hi] at h2; cases h2
    rw [List.getElem?_set_ne nj] at h1 h3
    rw [List.getElem?_set_ne nk] at h2 h4
    exact r.ne j k o o' a h1 h2 h3 h4
  tk := r.tk
  nw := r.nw
  ft := r.ft
  tt := r.tt
  ex := r.ex
  s0 := s0_set h0 r.s0
theorem Rl.wipe {S : List Addr} {H : Hp} {Γ : List Sl} {σ : St} (r : Rl g T He S H Γ σ) : ∀ vs : List Nat, (∀ i ∈ vs, g.ok0 i) → Rl g T He S H (wipeG Γ vs) (L2.wipe σ vs)
  | [], _ => r
  | v :: vs, h => (r.wipe vs fun i hi => h i (List.mem_cons_of_mem _ hi)).forget (h v List.mem_cons_self)
theorem Rl.more {S : List Addr} {H : Hp} {Γ : List Sl} {σ : St} {d : Addr} (r : Rl g T He S H Γ σ) (hn : H d = none) (o : HO) (ho : ∀ φ, o ≠ .ext φ) : Rl g T He (d :: S) (upd H d o) Γ σ := by
  have ex := r.ext_new (o := o) hn
  have t' : ∀ p, g.fd.mv p → p ∈ T ++ (d :: S) := fun p h => List.mem_append_left _ (r.t p h)
  have sm : Same (off H (T ++ S)) (off (upd H d o) (T ++ (d :: S))) := (zbk_ hn).trans (ex.off t')
  refine ⟨r.len, fun i s h => ?_, r.ne, fun b hb => ?_, fun b hb => ?_, r.ft, r.tt, r.ex.trans ex, r.s0⟩
  · have q := r.sl i s h
    cases s with
    | no => trivial
    | v e => obtain ⟨v, h1, h2⟩ := q; exact ⟨v, h1, h2.mono sm⟩
    | c o' => obtain ⟨a, h1, h2, h3⟩ := q; exact ⟨a, h1, List.mem_cons_of_mem _ h2, h3.mono (fun o' h => ex.at r.t (r.nT h2) h) sm⟩
  · rcases List.mem_cons.mp hb with rfl | hb
    · exact ⟨o, upd_same, fun c q => ho _⟩
    · exact (r.mono ex).tk b hb
  · rcases List.mem_cons.mp hb with rfl | hb
    · exact r.ex.free hn fun h => r.okd.tk h hn
    · exact r.nw b hb
theorem zc4_ {σ σ' : St} (hl : σ.length = σ'.length) : ∀ {vs : List Nat}, (∀ i, i ∉ vs → σ[i]? = σ'[i]?) → L2.wipe σ vs = L2.wipe σ' vs := fun {vs} h => by
  have key : ∀ (τ : St) (us : List Nat) (i : Nat), (L2.wipe τ us)[i]? = if i ∈ us then (if i < τ.length then some none else none) else τ[i]? := by
    intro τ us
    induction us with
    | nil => intro i; simp [L2.wipe]
    | cons u us ih =>
      intro i
      unfold L2.wipe
      by_cases q : u = i
      · subst q
        simp only [List.mem_cons, true_or, if_true]
        by_cases z : u < τ.length
        · rw [List.getElem?_set_self (by rw [wipe_length]; exact z), if_pos z]
        · rw [List.getElem?_eq_none (by rw [List.length_set, wipe_length]; omega), if_neg z]
      · rw [List.getElem?_set_ne q, ih]
        have : (i ∈ u :: us) ↔ i ∈ us := by simp only [List.mem_cons]; exact ⟨fun h => h.elim (fun e => absurd e.symm q) id, .inr⟩
        simp only [this]
  apply List.ext_getElem?
  intro i
  rw [key, key, hl]
  by_cases q : i ∈ vs
  · rw [if_pos q, if_pos q]
  · rw [if_neg q, if_neg q]; exact h i q
theorem zc1_ : ∀ {ws : List (Nat × V)} {σ : St} {i : Nat}, i ∉ ws.map Prod.fst → (setS σ ws)[i]? = σ[i]?
  | [], _, _, _ => rfl
  | (j, v) :: ws, σ, i, h => by
    simp only [List.map_cons, List.mem_cons, not_or] at h
    show (setS (σ.set j (some v)) ws)[i]? = _
    rw [zc1_ h.2, List.getElem?_set_ne (Ne.symm h.1)]
theorem zdb_ : ∀ {ws : List (Nat × V)} {σ : St}, (setS σ ws).length = σ.length
  | [], _ => rfl
  | (j, v) :: ws, σ => by
    show (setS (σ.set j (some v)) ws).length = _
    rw [zdb_, List.length_set]
theorem wipe_idem {σ : St} {vs : List Nat} {ws : List (Nat × V)} (h : ∀ i ∈ ws.map Prod.fst, i ∈ vs) : L2.wipe (setS (L2.wipe σ vs) ws) vs = L2.wipe σ vs := by
  have e1 : L2.wipe (setS (L2.wipe σ vs) ws) vs = L2.wipe (L2.wipe σ vs) vs := zc4_ (by rw [zdb_]) fun i hi => zc1_ fun z => hi (h i z)
  have e2 : L2.wipe (L2.wipe σ vs) vs = L2.wipe σ vs := zc4_ (by rw [wipe_length]) fun i hi => by
    have key : ∀ (us : List Nat), i ∉ us → (L2.wipe σ us)[i]? = σ[i]? := by
      intro us
      induction us with
      | nil => intro _; rfl
      | cons u us ih =>
        intro hu
        simp only [List.mem_cons, not_or] at hu
        unfold L2.wipe
        rw [List.getElem?_set_ne (Ne.symm hu.1), ih hu.2]
    exact key vs hi
  exact e1.trans e2
def mapC (tgt : Tg) (vs : List Nat) (tt : Se Bool) (te : Se X) (Γ : List Sl) : List D → M (List D)
  | [] => .ret []
  | d :: ds => match tgt.asg d with
    | none => .fail
    | some as => (tt (setG (wipeG Γ vs) as)).cut.bind fun b => if b then (te (setG (wipeG Γ vs) as)).cut.bind fun x => if x.tn then .fail else (mapC tgt vs tt te Γ ds).bind fun r => .ret (x.toD :: r)
        else mapC tgt vs tt te Γ ds
def sLc (fi : Se (Bool × List D)) (tgt : Tg) (vs : List Nat) (tt : Se Bool) (te : Se X) : Se X := fun Γ => (fi Γ).bind fun p => if p.2.length ≤ 100000 then (mapC tgt vs tt te Γ p.2).bind fun r => .ret (.c (.l r)) else .fail
def Tg.slots : Tg → List Nat
  | .n i => [i]
  | .t is => is
theorem Tg.asg_slots {t : Tg} {d : D} {as : List (Nat × D)} (h : t.asg d = some as) : as.map Prod.fst = t.slots := by
  cases t with
  | n i => simp only [Tg.asg, Option.some.injEq] at h; subst h; rfl
  | t is =>
    cases d <;> first | (simp only [Tg.asg] at h; cases h; done) | skip
    simp only [Tg.asg] at h
    split at h
    · cases h; rw [List.map_fst_zip]; rfl; omega
    · cases h
def tYesB : Se Bool := fun _ => .ret true
theorem rdLc {fi : Se (Bool × List D)} {tgt : Tg} {vs : List Nat} {tt : Se Bool} {te : Se X} {σ : St} {H : Hp} {Q : VK} (h0 : ∀ i ∈ vs, g.ok0 i) (hv : ∀ i ∈ tgt.slots, i ∈ vs) (h : rdE g W T He (sLc fi tgt vs tt te) σ H Q) : tLc (rdI g W T He fi) (rdG g T He tgt) (rdT g XN T He tt) (rdE g XN T He te) vs σ H Q := by
  obtain ⟨Γ, S, rl, w⟩ := h
  simp only [sLc, M.wp_bind] at w
  refine ⟨Γ, S, rl, M.wp_mono (fun p w J H1 e1 itc _ D hD => ?_) w⟩
  split at w
  rotate_left
  · exact w.elim
  rename_i hz
  simp only [M.wp_bind, M.wp_ret] at w
  have l1 := rl.mono e1
  have nTS : D ∉ T ++ S := l1.freeTS hD
  have nfd : ¬ g.fd.mv D := fun h => nTS (List.mem_append_left _ (l1.t D h))
  have nl : ∀ p l, g.fd.f = some (p, l) → l ≠ D := fun p l hp z => (l1.feed hp).tkl (by rw [z]; exact hD)
  have ok : ∀ {H2 : Hp}, Ext g.fd H1 H2 → H2 D ≠ none → okC g T S H1 H2 (T ++ (D :: S)) := fun {H2} e hd => ⟨e, (zbk_ hD).trans (e.off fun p h => List.mem_append_left _ (l1.t p h)), fun b hb => by
    rcases List.mem_append.mp hb with z | z
    · exact (l1.mono e).tkT z
    · rcases List.mem_cons.mp z with rfl | z
      · exact hd
      · exact ((l1.mono e).tk b z).ne⟩
  refine ⟨fun i m H2 => m = p.2.length - i ∧ i ≤ p.2.length ∧ Ext g.fd H1 H2 ∧ Rl g T He (D :: S) H2 Γ σ ∧ ∃ vacc acc, H2 D = some (.lst vacc) ∧ RpA g (off H2 (T ++ (D :: S))) vacc acc ∧ acc.length ≤ i ∧
      (mapC tgt vs tt te Γ (p.2.drop i)).wp (xp g W T He) fun r => ∀ v H', Ext g.fd H H' → RpX g T S H H' v (.c (.l (acc ++ r))) → Q v H', ⟨p.2.length, by simp, Nat.zero_le _, l1.ext_new hD, l1.more hD _ (fun φ z => by cases z), [], [], upd_same, .nil, Nat.le_refl _, by simpa using w⟩, ?_⟩
  rintro i m H2 ⟨rfl, hi, e2, l2, vacc, acc, hD2, hacc, hlen, w2⟩
  by_cases hlt : i < p.2.length
  · obtain ⟨d, hd⟩ : ∃ d, p.2[i]? = some d := ⟨p.2[i], by simp [hlt]⟩
    obtain ⟨g1, g2⟩ := itc.go H2 _ (ok e2 (by rw [hD2]; intro z; cases z)) i d hd
    refine .inr ⟨g1, fun H' => Ext g.fd H1 H' ∧ Rl g T He (D :: S) H' Γ σ ∧ ∃ vacc acc, H' D = some (.lst vacc) ∧ RpA g (off H' (T ++ (D :: S))) vacc acc ∧ acc.length ≤ i + 1 ∧
      (mapC tgt vs tt te Γ (p.2.drop (i + 1))).wp (xp g W T He) fun r => ∀ v H', Ext g.fd H H' → RpX g T S H H' v (.c (.l (acc ++ r))) → Q v H', fun H' h => ⟨p.2.length - (i + 1), by omega, rfl, hlt, h⟩, fun x H3 y => ?_⟩
    obtain ⟨s3, r3⟩ := g2 x H3 y
    have e3 : Ext g.fd H2 H3 := l2.same s3
    have l3 := l2.mono e3
    rw [List.drop_eq_getElem_cons hlt] at w2
    have ed : p.2[i] = d := by rw [List.getElem?_eq_getElem hlt] at hd; exact Option.some.inj hd
    rw [ed] at w2
    simp only [mapC] at w2
    cases ha : tgt.asg d with
    | none => rw [ha] at w2; exact w2.elim
    | some as =>
      rw [ha] at w2
      simp only [M.wp_bind] at w2
      refine ⟨wipeG Γ vs, D :: S, d, as, l3.wipe vs h0, r3, ha, fun ws hws l4 => ⟨wipe_idem fun i hi => hv i (by rw [hws, Tg.asg_slots ha] at hi; exact hi), ?_⟩⟩
      refine ⟨_, D :: S, l4, M.cut_wp (M.wp_mono (fun b w3 H4 e4 => ?_) w2)⟩
      have nD : D ∉ T := fun z => nTS (List.mem_append_left _ z)
      have keep : ∀ {Ha Hb : Hp} {o : HO}, Ext g.fd Ha Hb → Ha D = some o → Hb D = some o := fun e h => e.at l1.t nD h
      have t' : ∀ p, g.fd.mv p → p ∈ T ++ (D :: S) := fun p h => List.mem_append_left _ (l1.t p h)
      cases b with
      | false =>
        simp only [Bool.false_eq_true, ↓reduceIte] at w3 ⊢
        have e24 := e3.trans e4
        exact ⟨e2.trans e24, l2.mono e24, vacc, acc, keep e24 hD2, RpA.mono (e24.off t') _ hacc, by omega, w3⟩
      | true =>
        simp only [↓reduceIte, M.wp_bind] at w3 ⊢
        refine rdE.use (l4.mono e4) (M.cut_wp (M.wp_mono (fun x w4 y H5 e5 l5 x5 => ?_) w3))
        have e25 := (e3.trans e4).trans e5
        split at w4
        · exact w4.elim
        rename_i htn
        have ry := x5.toD' (by simpa using htn)
        have hD5 := keep e25 hD2
        have hacc5 := RpA.mono (e25.off t') _ hacc
        have mem : D ∈ T ++ (D :: S) := List.mem_append_right _ List.mem_cons_self
        refine ⟨vacc, hD5, Nat.lt_of_le_of_lt (by rw [hacc.length]; omega : vacc.length ≤ 100000) (by decide), ?_, ?_, vacc ++ [y], acc ++ [x.toD], upd_same, by rw [zcM_ mem]; exact hacc5.append (.cons ry .nil), by rw [List.length_append]; show acc.length + 1 ≤ i + 1; omega, ?_⟩
        · refine ⟨fun b o n hb => ?_, (e2.trans e25).2.put nfd nl (noCode hD5 fun f z => by cases z)⟩
          have nb : b ≠ D := fun z => by rw [z, hD] at hb; cases hb
          rw [upd_ne nb]
          exact (e2.trans e25).1 b o n hb
        · have l5' := l2.mono e25
          refine ⟨l5'.len, fun j s h => ?_, l5'.ne, fun b hb => ?_, l5'.nw, l5'.ft, l5'.tt, ?_, l5'.s0⟩
          · have q := l5'.sl j s h
            cases s with
            | no => trivial
            | v e => obtain ⟨v, q1, q2⟩ := q; exact ⟨v, q1, by rw [zcM_ mem]; exact q2⟩
            | c o' =>
              obtain ⟨a, q1, q2, q3⟩ := q
              have na : a ≠ D := fun z => by
                obtain ⟨a', q1', q2', _⟩ := l1.sl j _ h
                rw [q1] at q1'
                cases q1'
                exact nTS (List.mem_append_right _ (z ▸ q2'))
              exact ⟨a, q1, q2, q3.mono (fun o h => by rw [upd_ne na]; exact h) (by rw [zcM_ mem]; exact Same.refl _)⟩
          · by_cases z : b = D
            · rw [z]; exact ⟨_, upd_same, fun c q z => by cases z⟩
            · obtain ⟨u, q, n⟩ := l5'.tk b hb
              exact ⟨u, by rw [upd_ne z]; exact q, n⟩
          · refine ⟨fun b o n hb => ?_, (e2.trans e25).2.put nfd nl (noCode hD5 fun f z => by cases z)⟩
            have nb : b ≠ D := fun z => by
              rw [z, l2.nw D List.mem_cons_self] at hb; cases hb
            rw [upd_ne nb]
            exact l5'.ex.1 b o n hb
        · simp only [M.wp_bind, M.wp_ret] at w4
          refine M.wp_mono (fun r q v H' e h => q v H' e ?_) w4
          rw [List.append_assoc] at h
          exact h
  · have e : i = p.2.length := by omega
    subst e
    refine .inl ⟨itc.stop H2 _ (ok e2 (by rw [hD2]; intro z; cases z)), ?_⟩
    rw [List.drop_length] at w2
    simp only [mapC, M.wp_ret, List.append_nil] at w2
    refine w2 _ H2 (e1.trans e2) ⟨D, rfl, e1.free hD nfd, nTS, vacc, hD2, RpA.mono (za9_ fun b hb => mem_mid.mp hb) _ hacc⟩
theorem ev_lc {elt iter : Expr} {ifs : List Expr} {scope : Scope} {own : List (Str × Nat)} {fi : Se (Bool × List D)} {tgt : Tg} {tt : Se Bool} {te : Se X} (hc : Z.calm = true) (hN : Z.N.Nodup) (hi : EI Z g W T He tg iter fi) (ok : BlkOk Z.N Z.env.scope scope own) (h0 : ∀ i ∈ own.map (·.2), g.ok0 i) (hv : ∀ i ∈ tgt.slots, i ∈ own.map (·.2))
    (hg : ∀ (s : Shared) (H : Hp) (C : Addr) (cl : List (Str × Addr)) (fp : List Addr), EG (Z.blk s H scope (compEnvC scope cl C Z.env) fp) g T He tg tgt) (ht : ∀ (s : Shared) (H : Hp) (C : Addr) (cl : List (Str × Addr)) (fp : List Addr), PTs (Z.blk s H scope (compEnvC scope cl C Z.env) fp) ifs (rdT g XN T He tt))
    (he : ∀ (s : Shared) (H : Hp) (C : Addr) (cl : List (Str × Addr)) (fp : List Addr), EV (Z.blk s H scope (compEnvC scope cl C Z.env) fp) g XN T He elt te) (hs : ∀ x, foldedSetIterable iter Z.env x = pure x := by intro _; rfl) :
    EV Z g W T He (.ListComp elt [⟨tg, iter, ifs, 0⟩] scope pos) (sLc fi tgt (own.map (·.2)) tt te) :=
  pe_w (pe_lc hc hN hi ok hg ht he hs) fun _ _ _ h => rdLc h0 hv h
theorem ets_nil : PTs Z [] (rdT g W T He tYesB) := ⟨fun pins s σ H Q I ⟨Γ, S, rl, w⟩ => pts_nil.run pins s σ H Q I (w H rl.fok.refl)⟩
end
end G
namespace G
open PySem PySem.Spec L2
open PyProof.Rows hiding St
inductive Fl where
  | nx | bk | ct | rt (z : R)
abbrev Sst := List Sl → M (Fl × List Sl)
def FrS (T S : List Addr) (H : Hp) (S' : List Addr) (H' : Hp) : Prop := Same (off H (T ++ S)) (off H' (T ++ S'))
def SPost (g : Cf) (T : List Addr) (He : Hp) (D : Ends) (S : List Addr) (H : Hp) (p : Fl × List Sl) : Prop :=
  match p.1 with
  | .nx => ∀ σ' S' H', Rl g T He S' H' p.2 σ' → FrS T S H S' H' → D.nx σ' H'
  | .bk => ∀ σ' S' H', Rl g T He S' H' p.2 σ' → FrS T S H S' H' → D.bk σ' H'
  | .ct => ∀ σ' S' H', Rl g T He S' H' p.2 σ' → FrS T S H S' H' → D.ct σ' H'
  | .rt z => ∀ v H', Ext g.fd He H' → RpR g T He H' v z → D.rt v H'
def rdS (g : Cf) (W : XK) (T : List Addr) (He : Hp) (f : Sst) : L2.TS := fun D σ H => ∃ Γ S, Rl g T He S H Γ σ ∧ (f Γ).wp (xp g W T He) (SPost g T He D S H)
abbrev ES (Z : Cx) (g : Cf) (W : XK) (T : List Addr) (He : Hp) (st : Stmt) (f : Sst) : Prop := PS Z st (rdS g W T He f)
abbrev ESs (Z : Cx) (g : Cf) (W : XK) (T : List Addr) (He : Hp) (st : List Stmt) (f : Sst) : Prop := PSs Z st (rdS g W T He f)
theorem ps_w {Z : Cx} {st : Stmt} {t t' : L2.TS} (h : PS Z st t) (k : ∀ D σ H, t' D σ H → t D σ H) : PS Z st t' := ⟨fun pins s σ H D I q => h.run pins s σ H D I (k _ _ _ q)⟩
theorem pss_w {Z : Cx} {st : List Stmt} {t t' : L2.TS} (h : PSs Z st t) (k : ∀ D σ H, t' D σ H → t D σ H) : PSs Z st t' := ⟨fun pins s σ H D I q => h.run pins s σ H D I (k _ _ _ q)⟩
def sSkip : Sst := fun Γ => .ret (.nx, Γ)
def sSeq (f1 f2 : Sst) : Sst := fun Γ => (f1 Γ).bind fun p => match p.1 with | .nx => f2 p.2 | _ => .ret p
def sIfS (t : Se Bool) (f1 f2 : Sst) : Sst := fun Γ => (t Γ).bind fun b => if b then f1 Γ else f2 Γ
def X.ret : X → R
  | .p d => .dt d
  | .c o => .nw o
  | .b o => .nw o
  | .t d => .dt d
def sRet (f : Se X) : Sst := fun Γ => (f Γ).bind fun x => .ret (.rt x.ret, Γ)
section
variable {Z : Cx} {g : Cf} {W : XK} {T : List Addr} {He : Hp} {a b c : Expr} {f1 f2 f3 : Se X} {fs : Se (List X)} {pos p2 : Pos} {st : Stmt} {rest : List Stmt} {u1 u2 : Sst}
theorem FrS.refl {S : List Addr} {H : Hp} : FrS T S H S H := Same.refl _
theorem FrS.trans {S S1 S2 : List Addr} {H H1 H2 : Hp} (a : FrS T S H S1 H1) (b : FrS T S1 H1 S2 H2) : FrS T S H S2 H2 := Same.trans a b
theorem Rl.frs {S : List Addr} {H H1 : Hp} {Γ : List Sl} {σ : St} (r : Rl g T He S H Γ σ) (e : Ext g.fd H H1) : FrS T S H S H1 := e.off fun p h => List.mem_append_left _ (r.t p h)
theorem SPost.from {D : Ends} {S S1 : List Addr} {H H1 : Hp} (f : FrS T S H S1 H1) {p : Fl × List Sl} (h : SPost g T He D S H p) : SPost g T He D S1 H1 p := by
  obtain ⟨fl, Γ⟩ := p
  cases fl with
  | nx => exact fun σ' S' H' r q => h σ' S' H' r (f.trans q)
  | bk => exact fun σ' S' H' r q => h σ' S' H' r (f.trans q)
  | ct => exact fun σ' S' H' r q => h σ' S' H' r (f.trans q)
  | rt z => exact h
theorem zbz_ : ESs Z g W T He [] sSkip := pss_w pss_nil fun D σ H ⟨Γ, S, rl, w⟩ => w σ S H rl FrS.refl
theorem zaR_ (h1 : ES Z g W T He st u1) (h2 : ESs Z g W T He rest u2) : ESs Z g W T He (st :: rest) (sSeq u1 u2) :=
  pss_w (pss_cons h1 h2) fun D σ H ⟨Γ, S, rl, w⟩ => by
    simp only [sSeq, M.wp_bind] at w
    refine ⟨Γ, S, rl, M.wp_mono (fun p w => ?_) w⟩
    obtain ⟨fl, Γ1⟩ := p
    cases fl with
    | nx => exact fun σ' S' H' r q => ⟨Γ1, S', r, M.wp_mono (fun p h => h.from q) w⟩
    | bk => exact w
    | ct => exact w
    | rt z => exact w
theorem zbh_ (h1 : ES Z g W T He st u1) : ESs Z g W T He [st] u1 := pss_one h1
theorem zcO_ {bd el : List Stmt} {t : Se Bool} (hc : EB Z g W T He c t) (ha : ESs Z g W T He bd u1) (hb : ESs Z g W T He el u2) : ES Z g W T He (.If c bd el pos) (sIfS t u1 u2) :=
  ps_w (ps_if hc ha hb) fun D σ H ⟨Γ, S, rl, w⟩ => by
    simp only [sIfS, M.wp_bind] at w
    refine rdT.use rl (M.wp_mono (fun x w H1 e1 l1 => ?_) w)
    cases x with
    | true => simp only [↓reduceIte] at w ⊢; exact ⟨Γ, S, l1, M.wp_mono (fun p h => h.from (rl.frs e1)) w⟩
    | false => simp only [Bool.false_eq_true, ↓reduceIte] at w ⊢; exact ⟨Γ, S, l1, M.wp_mono (fun p h => h.from (rl.frs e1)) w⟩
theorem RpX.ret {S : List Addr} {H H1 : Hp} {Γ : List Sl} {σ : St} {v : V} {x : X} (l : Rl g T He S H Γ σ) (r : RpX g T S H H1 v x) : RpR g T He H1 v x.ret := by
  cases x with
  | p d => exact zcq_ (fun b h => List.mem_append_left _ h) r
  | c o =>
    obtain ⟨a, rfl, h0, n, r⟩ := r
    have ha : He a = none := l.ex.free h0 fun h => n (List.mem_append_left _ (l.t a h))
    exact ⟨a, rfl, ha, fun z => n (List.mem_append_left _ z), r.sub fun b hb => by
      rcases List.mem_cons.mp hb with rfl | hb
      · exact List.mem_cons_self
      · exact List.mem_cons_of_mem _ (List.mem_append_left _ hb)⟩
  | b o =>
    obtain ⟨a, rfl, m, n, r⟩ := r
    exact ⟨a, rfl, l.nw a m, n, r.sub fun b hb => by
      rcases List.mem_cons.mp hb with rfl | hb
      · exact List.mem_append_right _ m
      · exact List.mem_append_left _ hb⟩
  | t d => exact r
theorem zbi_ (he : EV Z g W T He a f1) : ES Z g W T He (.Return (some a) pos) (sRet f1) :=
  ps_w (ps_ret he) fun D σ H ⟨Γ, S, rl, w⟩ => by
    simp only [sRet, M.wp_bind, M.wp_ret] at w
    exact rdE.use rl (M.wp_mono (fun x w v H1 e1 l1 x1 => w v H1 (rl.ex.trans e1) (x1.ret rl)) w)
def sNev : Sst := fun _ => .fail
def asgX (keep : Bool) (i : Nat) (x : X) (Γ : List Sl) : M (List Sl) :=
  match x with
  | .p d => .ret (Γ.set i (.v d))
  | .c o => .ret (Γ.set i (if keep then .c o else .v o.toD))
  | _ => .fail
def sAsg (keep : Bool) (i : Nat) (f : Se X) : Sst := fun Γ => (f Γ).bind fun x => (asgX keep i x Γ).bind fun Γ' => .ret (.nx, Γ')
theorem zdn_ {keep : Bool} {i : Nat} {x : X} {S : List Addr} {H H1 : Hp} {Γ : List Sl} {σ : St} {v : V} {D : Ends} (h0 : g.ok0 i) (rl : Rl g T He S H Γ σ) (e1 : Ext g.fd H H1) (x1 : RpX g T S H H1 v x)
    (w : ((asgX keep i x Γ).bind fun Γ' => M.ret (Fl.nx, Γ')).wp (xp g W T He) (SPost g T He D S H)) : D.nx (σ.set i (some v)) H1 := by
  have l1 := rl.mono e1
  cases x with
  | b o => exact w.elim
  | t d => exact w.elim
  | p d => exact w _ S H1 (l1.set_v h0 x1) (rl.frs e1)
  | c o =>
    cases keep with
    | false => exact w _ S H1 (l1.set_v h0 (x1.toD' rfl)) (rl.frs e1)
    | true =>
      obtain ⟨ad, rfl, hn, n, r⟩ := x1
      exact w _ (ad :: S) H1 (rl.set_c h0 e1 hn r) ((zbk_ hn).trans (e1.off fun p h => List.mem_append_left _ (rl.t p h)))
theorem es_set {keep : Bool} {i : Nat} {x : Str} {e : Expr} {pos' : Pos} (h0 : g.ok0 i) (hN : Z.N.Nodup) (hi : Z.N[i]? = some x) (hx : Loc Z.env.scope x) (he : EV Z g W T He e f1) (hs : swapsWith e (some (.Name x pos')) pos.line Z.env = pure false := by rfl) (hf : Z.fn x = true ∨ Z.env.scope.names.lookup x = some .local := by first | exact .inl rfl | exact .inr rfl | assumption) :
    ES Z g W T He (.Assign [.Name x pos'] e pos) (sAsg keep i f1) :=
  ps_w (ps_set hN hi hx he hs hf) fun D σ H ⟨Γ, S, rl, w⟩ => by
    simp only [sAsg, M.wp_bind] at w
    exact rdE.use rl (M.wp_mono (fun x w v H1 e1 l1 x1 => zdn_ h0 rl e1 x1 (M.wp_bind.mpr w)) w)
def X.fz (x : X) : M D := if x.tn then .fail else .ret x.toD
def sAsgT (tgt : Tg) (f : Se X) : Sst := fun Γ => (f Γ).bind fun x => x.fz.bind fun d => match tgt.asg d with | some as => .ret (.nx, setG Γ as) | none => .fail
theorem RpX.fz {S : List Addr} {H0 H : Hp} {v : V} {x : X} {E : XD} {P : D → Prop} (r : RpX g T S H0 H v x) (w : x.fz.wp E P) : Rp g (off H (T ++ S)) v x.toD ∧ P x.toD := by
  unfold X.fz at w
  split at w
  · exact w.elim
  · rename_i h; exact ⟨r.toD' (by simpa using h), w⟩
def putD (k : Nat) (d : D) (fs : List D) : List D := if k < fs.length then fs.set k d else fs ++ [d]
theorem zdm_ {f : Str} {v : V} : ∀ {fv : List (Str × V)}, f ∉ fv.map Prod.fst → putF f v fv = fv ++ [(f, v)]
  | [], _ => rfl
  | (n, u) :: r, h => by
    simp only [List.map_cons, List.mem_cons, not_or] at h
    unfold putF
    rw [if_neg (Ne.symm h.1), zdm_ h.2]; rfl
theorem putF_at {f : Str} {v : V} : ∀ {fv : List (Str × V)} {k : Nat}, (fv.map Prod.fst).Nodup → (fv.map Prod.fst)[k]? = some f → putF f v fv = fv.set k (f, v)
  | [], _, _, h => by simp at h
  | (n, u) :: r, 0, _, h => by
    simp only [List.map_cons, List.getElem?_cons_zero, Option.some.injEq] at h
    unfold putF
    rw [if_pos h, h]; rfl
  | (n, u) :: r, k + 1, nd, h => by
    simp only [List.map_cons, List.getElem?_cons_succ, List.nodup_cons] at h nd
    unfold putF
    have : n ≠ f := fun e => nd.1 (e ▸ List.mem_of_getElem? h)
    rw [if_neg this, putF_at nd.2 h]; rfl
theorem FvOk.put {C : Nat} {fv : List (Str × V)} {f : Str} {v : V} {k : Nat} {fs : List D} {d : D} {H : Hp} (h : FvOk g C fv) (hi : (g.fl C)[k]? = some f) (nd : (g.fl C).Nodup) (hk : k ≤ fv.length) (r : RpA g H (fv.map Prod.snd) fs) (rd : Rp g H v d) :
    FvOk g C (putF f v fv) ∧ RpA g H ((putF f v fv).map Prod.snd) (putD k d fs) ∧ (putF f v fv).length ≤ fv.length + 1 := by
  have hl : fs.length = fv.length := by rw [← r.length, List.length_map]
  have h' : fv.map Prod.fst = (g.fl C).take fv.length := h
  have ndf : (fv.map Prod.fst).Nodup := by rw [h']; exact nd.sublist (List.take_sublist _ _)
  by_cases q : k < fv.length
  · have hg : (fv.map Prod.fst)[k]? = some f := by rw [h', List.getElem?_take, if_pos q]; exact hi
    rw [putF_at ndf hg]
    refine ⟨?_, ?_, by rw [List.length_set]; omega⟩
    · unfold FvOk
      rw [List.length_set, List.map_set, h']
      apply List.ext_getElem?
      intro j
      by_cases z : k = j
      · subst z
        rw [List.getElem?_set_self (by rw [List.length_take]; have := (List.getElem?_eq_some_iff.mp hi).1; omega), List.getElem?_take, if_pos q, hi]
      · rw [List.getElem?_set_ne z]
    · rw [List.map_set]
      unfold putD
      rw [if_pos (by omega)]
      exact r.set rd k
  · have e : k = fv.length := by omega
    have hn : f ∉ fv.map Prod.fst := fun hm => by
      rw [h'] at hm
      obtain ⟨j, hj⟩ := List.mem_iff_getElem?.mp hm
      rw [List.getElem?_take] at hj
      split at hj
      · rename_i hjl
        obtain ⟨j1, j2⟩ := List.getElem?_eq_some_iff.mp hj
        obtain ⟨k1, k2⟩ := List.getElem?_eq_some_iff.mp hi
        have : j = k := (List.getElem_inj nd).mp (j2.trans k2.symm)
        omega
      · cases hj
    rw [zdm_ hn]
    refine ⟨?_, ?_, by rw [List.length_append]; exact Nat.le_refl _⟩
    · unfold FvOk
      rw [List.map_append, h', List.length_append, ← e]
      show (g.fl C).take k ++ [f] = (g.fl C).take (k + 1)
      rw [List.take_succ, hi]; rfl
    · rw [List.map_append]
      unfold putD
      rw [if_neg (by omega)]
      exact r.append (.cons rd .nil)
def sStF (ix : Nat → Option Nat) (i : Nat) (f : Se X) : Sst := fun Γ => (f Γ).bind fun x => x.fz.bind fun d => match Γ[i]? with
  | some (.c (.i C fs)) => match ix C with
    | some k => if k ≤ fs.length ∧ fs.length < 100 then .ret (.nx, Γ.set i (.c (.i C (putD k d fs)))) else .fail
    | none => .fail
  | _ => .fail
end
end G
namespace G
open PySem PySem.Spec L2
open PyProof.Rows hiding St
structure SameB (g B : Cf) : Prop where
  k : g.K = B.K
  ad : g.ad = B.ad
  fl : g.fl = B.fl
  ae : g.ae = B.ae
  xn : g.xn = B.xn
  dx : g.dx = B.dx
abbrev Cf.wf (B : Cf) (fd : Fdx) : Cf := { B with fd := fd, self := none }
def spC (B : Cf) (sem : List D → List D → M R) : Sp2 := fun vs zs H Q E => ∃ fd T ds es, FdOk (B.wf fd) T H ∧ RpA (B.wf fd) (off H T) vs ds ∧ RpA (B.wf fd) (off H T) zs es ∧ (sem ds es).wp (xp (B.wf fd) E T H) fun z => ∀ v H', Ext fd H H' → RpR (B.wf fd) T H H' v z → Q v H'
def spB (B : Cf) (sem : List D → M R) (n : Nat) : Sp := fun vs H Q E => vs.length = n ∧ ∃ fd T ds, FdOk (B.wf fd) T H ∧ RpA (B.wf fd) (off H T) vs ds ∧ (sem ds).wp (xp (B.wf fd) E T H) fun z => ∀ v H', Ext fd H H' → RpR (B.wf fd) T H H' v z → Q v H'
structure ClF (P : Program) (w : World) (K : PySem.W.Frag) (mg : Str → Option Value) (base : Heap) (CX : CXT) (k : Nat) (x : Str) (ks : List Str) (sp : Sp2) : Prop where
  ex : ∃ f, mg x = some (.ref f) ∧ PySem.W.keepIn K (.ref f) = true ∧ FnA P w K mg base CX k f ks sp
section
variable {X : Cx} {CX : CXT} {k : Nat} {ks : List Str} {sp : Sp2} {E : XK} {x : Str} {p pos : Pos} {e : Expr} {es : List Expr} {kws : List Keyword} {t tk : TA}
def tCalA (ks : List Str) (sp : Sp2) (E : XK) (t tk : TA) : TE := fun σ H Q => t σ H fun vs H1 => tk σ H1 fun zs H2 => zs.length = ks.length ∧ sp vs zs H2 Q E
theorem pe_cA (c : ClF X.prog X.w X.K X.mg X.base CX k x ks sp) (hr : Room k X.A) (hx : Passes CX X E) (hg : Gl X x) (ha : PA X (e :: es) t) (hkw : PK X kws tk)
    (hall : (backToKw pos (keywordEach kws X.env)).all (·.1.isSome) = true := by rfl) (hks : (backToKw pos (keywordEach kws X.env)).filterMap (·.1) = ks := by rfl)
    (hdb : (x == ("__debug__" : Str)) = false := by decide) (he : starEach (e :: es) X.env = (false, eval e X.env) :: starEach es X.env := by rfl)
    (hpl : ((backTo pos (starEach (e :: es) X.env)).any (·.1) || (backToKw pos (keywordEach kws X.env)).any (·.1.isNone)) = false := by rfl) :
    PE X (.Call (.Name x p) (e :: es) kws pos) (tCalA ks sp E t tk) := by
  refine ⟨fun pins s σ H Q I h => ?_⟩
  obtain ⟨f, hm, kp, F⟩ := c.ex
  refine wpAny_Call_Name_kw (ld_glob I hg hm ?_ hdb)
  refine PySem.W.callWith_KW (h₀ := X.base) I.ok.mod.kin kp hall (thn (ha.run pos pins s σ H _ I h) fun us s1 ⟨vs, H1, I1, r, q⟩ => ?_) hpl he
  refine thn (hkw.run pos pins s1 σ H1 _ I1 q) fun ws s2 ⟨zs, H2, I2, rz, l2, q2⟩ => ⟨I2.kIn, ?_⟩
  rw [hks]
  exact run_fnA F hr rfl hx I2 r rz l2 q2
theorem pe_cA0 (c : ClF X.prog X.w X.K X.mg X.base CX k x ks sp) (hr : Room k X.A) (hx : Passes CX X E) (hg : Gl X x) (hkw : PK X kws tk)
    (hall : (backToKw pos (keywordEach kws X.env)).all (·.1.isSome) = true := by rfl) (hks : (backToKw pos (keywordEach kws X.env)).filterMap (·.1) = ks := by rfl)
    (hdb : (x == ("__debug__" : Str)) = false := by decide) (hpl : ((backTo pos (starEach [] X.env)).any (·.1) || (backToKw pos (keywordEach kws X.env)).any (·.1.isNone)) = false := by rfl) :
    PE X (.Call (.Name x p) [] kws pos) (tCalA ks sp E tNil tk) := by
  refine ⟨fun pins s σ H Q I h => ?_⟩
  obtain ⟨f, hm, kp, F⟩ := c.ex
  refine wpAny_Call_Name_kw (ld_glob I hg hm ?_ hdb)
  refine PySem.W.callWith_KW0 (h₀ := X.base) I.ok.mod.kin kp hall ?_ hpl
  refine thn (hkw.run pos pins s σ H _ I h) fun ws s2 ⟨zs, H2, I2, rz, l2, q2⟩ => ⟨I2.kIn, ?_⟩
  rw [hks]
  exact run_fnA (us := []) (vs := []) F hr rfl hx I2 .nil rz l2 q2
end
structure RT (n : Nat) (Z : Cx) (W : XK) : Prop where
  room : Room n Z.A
  tk : Takes Z fun cls d _ H => W cls d H
theorem RT.mono {j k : Nat} {Z : Cx} {W : XK} (r : RT k Z W) (h : j ≤ k) : RT j Z W := ⟨r.room.mono h, r.tk⟩
theorem takesN {Z : Cx} : Takes Z fun cls d _ H => XN cls d H := fun _ _ x => by
  obtain ⟨_, _, _, _, _, _, _, _, _, _, _, _, _, _, _, _, z⟩ := x
  exact z.elim
theorem RT.blk {n : Nat} {Z Z' : Cx} {W : XK} (r : RT n Z W) (h : Z'.A = Z.A := by rfl) : RT n Z' XN := ⟨h ▸ r.room, takesN⟩
theorem RT.pass {n : Nat} {Z : Cx} {W : XK} (r : RT n Z W) : Passes (L2.CX Z.prog Z.w) Z W := passes_call r.tk fun _ _ _ _ h => h
theorem RT.units {n : Nat} {Z : Cx} {W : XK} (r : RT n Z W) : Z.A.units + 64 < cLine := r.room.units
abbrev EK (Z : Cx) (g : Cf) (W : XK) (T : List Addr) (He : Hp) (kws : List Keyword) (f : Se (List X)) : Prop := PK Z kws (rdA g W T He f)
def sCal (nk : Nat) (sem : List D → List D → M R) (fs ks : Se (List X)) : Se X := fun Γ => (fs Γ).bind fun xs => (ks Γ).bind fun ys => if ys.length ≠ nk then .fail else (sem (xs.map X.toD) (ys.map X.toD)).bind fun z => .ret (z.fin (xs.any X.tn || ys.any X.tn))
section
variable {Z : Cx} {g B : Cf} {W : XK} {T : List Addr} {He : Hp} {a b c : Expr} {f1 f2 f3 : Se X} {fs gs : Se (List X)} {pos p p2 : Pos} {kws : List Keyword} {e : Expr} {es : List Expr} {x : Str} {ks : List Str}
theorem pk_w {t t' : TA} (h : PK Z kws t) (k : ∀ σ H Q, t' σ H Q → t σ H Q) : PK Z kws t' := ⟨fun pos pins s σ H Q I q => h.run pos pins s σ H Q I (k _ _ _ q)⟩
theorem zb6_ : EK Z g W T He [] sNil := pk_w pk_nil fun _ H Q ⟨Γ, S, rl, w⟩ => w [] H rl.fok.refl .nil
theorem zcX_ {nm : Option Str} {kpos : Pos} (he : EV Z g W T He e f1) (hr : EK Z g W T He kws fs) : EK Z g W T He (⟨nm, e, kpos⟩ :: kws) (sCons f1 fs) :=
  pk_w (pk_cons he hr) fun σ H Q ⟨Γ, S, rl, w⟩ => by
    simp only [sCons, M.wp_bind, M.wp_ret] at w
    refine rdE.use rl (M.wp_mono (fun x w v1 H1 e1 l1 x1 => ?_) w)
    refine rdA.use l1 (M.wp_mono (fun xs w vs H2 e2 l2 xx => ?_) w)
    exact w (v1 :: vs) H2 (e1.trans e2) (.cons (x1.mono e2 l1.t) (xx.early e1 l1.t))
theorem RpA.toB {H : Hp} {vs : List V} {ds : List D} (hB : SameB g B) (r : RpA g H vs ds) : RpA (B.wf g.fd) H vs ds := RpA.cg (g' := B.wf g.fd) hB.k hB.ad hB.fl rfl hB.dx _ r
theorem RpO.cg {g' : Cf} (e1 : g.K = g'.K) (e2 : g.ad = g'.ad) (e3 : g.fl = g'.fl) (e4 : g.fd = g'.fd) (e5 : g.dx = g'.dx) {T : List Addr} {H : Hp} {a : Addr} {o : O} (r : RpO g T H a o) : RpO g' T H a o := by
  cases o with
  | l ds => obtain ⟨vs, h1, h2⟩ := r; exact ⟨vs, h1, RpA.cg e1 e2 e3 e4 e5 _ h2⟩
  | i C fs => obtain ⟨dx, fv, h1, hf, h2⟩ := r; exact ⟨dx, fv, by rw [← e2]; exact h1, by unfold FvOk at hf ⊢; rw [← e3]; exact hf, RpA.cg e1 e2 e3 e4 e5 _ h2⟩
  | d ks ds => obtain ⟨kvs, h1, hk, h2⟩ := r; exact ⟨kvs, h1, hk, RpA.cg e1 e2 e3 e4 e5 _ h2⟩
theorem RpR.ofB {H0 H : Hp} {v : V} {z : R} (hB : SameB g B) (r : RpR (B.wf g.fd) T H0 H v z) : RpR g T H0 H v z := by
  cases z with
  | «at» d => exact r
  | nw o => obtain ⟨a, e, h1, h2, r⟩ := r; exact ⟨a, e, h1, h2, RpO.cg (g := B.wf g.fd) hB.k.symm hB.ad.symm hB.fl.symm rfl hB.dx.symm r⟩
  | dt d => exact Rp.cg (g := B.wf g.fd) hB.k.symm hB.ad.symm hB.fl.symm rfl hB.dx.symm _ r
theorem XdOk.ofB {T' : List Addr} {H' : Hp} {d : Addr} {C : Nat} {fs : List D} (hB : SameB g B) (sub : ∀ b ∈ T, b ∈ T') (q : XdOk (B.wf g.fd) T' H' d C fs) : XdOk g T H' d C fs := by
  obtain ⟨fv, h1, h2, h3⟩ := q
  refine ⟨fv, h1, by rw [hB.xn]; exact h2, fun i f hf => ?_⟩
  obtain ⟨v, e, a, b, c⟩ := h3 i f (by rw [hB.xn] at hf; exact hf)
  exact ⟨v, e, a, b, zcq_ sub (Rp.cg (g := B.wf g.fd) hB.k.symm hB.ad.symm hB.fl.symm rfl hB.dx.symm _ c)⟩
theorem xp_sub {T' : List Addr} {H : Hp} {C : Nat} {fs : List D} (hB : SameB g B) (ex : Ext g.fd He H) (sub : ∀ b ∈ T, b ∈ T') (h : xp g W T He C fs) : xp (B.wf g.fd) W T' H C fs := fun d H' e q => by
  have := h d H' (ex.trans e) (q.ofB hB sub)
  rw [hB.ae] at this
  exact this
theorem FdOk.toB {H : Hp} (f : FdOk g T H) : FdOk (B.wf g.fd) T H := ⟨f.tk, f.fd⟩
end
end G
namespace G
open PySem PySem.Spec L2
open PyProof.Rows hiding St
section
variable {Z : Cx} {g B : Cf} {W : XK} {T : List Addr} {He : Hp} {a b c : Expr} {f1 f2 f3 : Se X} {fs gs : Se (List X)} {pos p p2 : Pos} {kws : List Keyword} {e : Expr} {es : List Expr} {x : Str} {ks : List Str}
theorem RpXs.full {S : List Addr} {H0 H : Hp} {tt : Bool} : ∀ {vs : List V} {xs : List X}, RpXs g T S H0 H vs xs → (xs.any X.tn = true → tt = true) → RpA g (off H (G.TS T S tt)) vs (xs.map X.toD)
  | _, _, r, h => by
    cases tt with
    | true => exact r.toD
    | false => exact r.toD' (by cases q : List.any _ X.tn with | true => exact absurd (h q) (by decide) | false => rfl)
theorem cal_use {sem : List D → List D → M R} {S : List Addr} {H H1 H2 : Hp} {Γ : List Sl} {σ : St} {vs zs : List V} {xs ys : List X} {Q : VK} (hB : SameB g B) (l1 : Rl g T He S H1 Γ σ) (l2 : Rl g T He S H2 Γ σ) (e1 : Ext g.fd H H1) (e2 : Ext g.fd H1 H2) (xx : RpXs g T S H H1 vs xs) (yy : RpXs g T S H1 H2 zs ys)
    (w : (sem (xs.map X.toD) (ys.map X.toD)).wp (xp g W T He) fun z => ∀ v H', Ext g.fd H H' → RpX g T S H H' v (z.fin (xs.any X.tn || ys.any X.tn)) → Q v H') : spC B sem vs zs H2 Q W := by
  refine ⟨g.fd, G.TS T S (xs.any X.tn || ys.any X.tn), _, _, (l2.fokB _).toB, ((xx.mono e2 l1.t).full fun h => by rw [h]; rfl).toB hB, (yy.full fun h => by rw [h, Bool.or_true]).toB hB, M.wp_monoE (fun z w v H' e r => ?_) (fun C fs h => xp_sub hB l2.ex (fun b hb => (by cases (xs.any X.tn || ys.any X.tn) <;> first | exact hb | exact List.mem_append_left _ hb)) h) w⟩
  exact w v H' ((e1.trans e2).trans e) ((r.ofB hB).fin.early (e1.trans e2) l2.t)
theorem rdCal {nk : Nat} {sem : List D → List D → M R} {S : List Addr} {σ : St} {H : Hp} {Γ : List Sl} {Q : VK} (hn : ks.length = nk) (hB : SameB g B) (rl : Rl g T He S H Γ σ) (w : (sCal nk sem fs gs Γ).wp (xp g W T He) fun x => ∀ v H', Ext g.fd H H' → RpX g T S H H' v x → Q v H') :
    tCalA ks (spC B sem) W (rdA g W T He fs) (rdA g W T He gs) σ H Q := by
  simp only [sCal, M.wp_bind] at w
  refine rdA.use rl (M.wp_mono (fun xs w vs H1 e1 l1 xx => ?_) w)
  refine rdA.use l1 (M.wp_mono (fun ys w zs H2 e2 l2 yy => ?_) w)
  split at w
  · exact w.elim
  rename_i hy
  refine ⟨by rw [yy.length, hn]; simpa using hy, cal_use hB l1 l2 e1 e2 xx yy ?_⟩
  simpa only [M.wp_bind, M.wp_ret] using w
theorem zcV_ {n nk : Nat} {sem : List D → List D → M R} (hB : SameB g B) (c : ClF Z.prog Z.w Z.K Z.mg Z.base (L2.CX Z.prog Z.w) n x ks (spC B sem)) (hr : RT n Z W) (hg : Gl Z x) (ha : EA Z g W T He (e :: es) fs) (hkw : EK Z g W T He kws gs) (hn : ks.length = nk := by rfl)
    (hall : (backToKw pos (keywordEach kws Z.env)).all (·.1.isSome) = true := by rfl) (hks : (backToKw pos (keywordEach kws Z.env)).filterMap (·.1) = ks := by rfl)
    (hdb : (x == ("__debug__" : Str)) = false := by decide) (he : starEach (e :: es) Z.env = (false, eval e Z.env) :: starEach es Z.env := by rfl)
    (hpl : ((backTo pos (starEach (e :: es) Z.env)).any (·.1) || (backToKw pos (keywordEach kws Z.env)).any (·.1.isNone)) = false := by rfl) :
    EV Z g W T He (.Call (.Name x p) (e :: es) kws pos) (sCal nk sem fs gs) :=
  pe_w (pe_cA (E := W) c hr.room hr.pass hg ha hkw hall hks hdb he hpl) fun _ _ _ ⟨_, _, rl, w⟩ => rdCal hn hB rl w
theorem rdNil {σ : St} {H : Hp} {R : List V → Hp → Prop} (h : rdA g W T He sNil σ H R) : tNil σ H R := by
  obtain ⟨Γ, S, rl, w⟩ := h
  exact w [] H rl.fok.refl .nil
theorem ev_cal0 {n nk : Nat} {sem : List D → List D → M R} (hB : SameB g B) (c : ClF Z.prog Z.w Z.K Z.mg Z.base (L2.CX Z.prog Z.w) n x ks (spC B sem)) (hr : RT n Z W) (hg : Gl Z x) (hkw : EK Z g W T He kws gs) (hn : ks.length = nk := by rfl)
    (hall : (backToKw pos (keywordEach kws Z.env)).all (·.1.isSome) = true := by rfl) (hks : (backToKw pos (keywordEach kws Z.env)).filterMap (·.1) = ks := by rfl)
    (hdb : (x == ("__debug__" : Str)) = false := by decide) (hpl : ((backTo pos (starEach [] Z.env)).any (·.1) || (backToKw pos (keywordEach kws Z.env)).any (·.1.isNone)) = false := by rfl) :
    EV Z g W T He (.Call (.Name x p) [] kws pos) (sCal nk sem sNil gs) :=
  pe_w (pe_cA0 (E := W) c hr.room hr.pass hg hkw hall hks hdb hpl) fun _ _ _ ⟨_, _, rl, w⟩ => rdNil (rdCal hn hB rl w)
abbrev MSem := Nat → Option (List D → List D → M R)
structure MtOk (P : Program) (w : World) (K : PySem.W.Frag) (mg : Str → Option Value) (base : Heap) (B : Cf) (n : Nat) (m : Str) (ks : List Str) (sem : MSem) : Prop where
  ok : ∀ C f, sem C = some f → MtC P w K mg base (L2.CX P w) n (B.ad C) m ks (spC B f) ∧ m ∉ B.fl C
def sMth (nk : Nat) (sem : MSem) (f1 : Se X) (fs ks : Se (List X)) : Se X := fun Γ => (f1 Γ).bind fun x => match x.toD with
  | .ins C ds => match sem C with
    | some f => (fs Γ).bind fun xs => (ks Γ).bind fun ys => if ys.length ≠ nk then .fail else (f (.ins C ds :: xs.map X.toD) (ys.map X.toD)).bind fun z => .ret (z.fin (x.tn || xs.any X.tn || ys.any X.tn))
    | none => .fail
  | _ => .fail
theorem FvOk.none_of {C : Nat} {fv : List (Str × V)} {m : Str} (h : FvOk g C fv) (hm : m ∉ g.fl C) : fv.lookup m = none := by
  have h' : m ∉ fv.map Prod.fst := fun z => by
    have e : fv.map Prod.fst = (g.fl C).take fv.length := h
    rw [e] at z
    exact hm (List.mem_of_mem_take z)
  clear h
  induction fv with
  | nil => rfl
  | cons p r ih =>
    obtain ⟨n, u⟩ := p
    simp only [List.map_cons, List.mem_cons, not_or] at h'
    rw [List.lookup_cons, beq_eq_false_iff_ne.mpr h'.1]
    exact ih h'.2
variable {o : Expr} {m : Str} {apos : Pos} {pl : Sem Bool}
def sNew (nk : Nat) (sem : List D → List D → M O) (fs ks : Se (List X)) : Se X := fun Γ => (fs Γ).bind fun xs => (ks Γ).bind fun ys => if ys.length ≠ nk then .fail else (sem (xs.map X.toD) (ys.map X.toD)).bind fun o => .ret ((R.nw o).fin (xs.any X.tn || ys.any X.tn))
def sNew0 (C : Nat) : Se X := fun _ => .ret (.c (.i C []))
end
end G
namespace L2
open PySem PySem.Spec
open PyProof.Rows hiding St
section
variable {prog : Program} {w : World} {A A₀ : Around} {E : Value → Shared → Prop} {s : Shared} {K : PySem.W.Frag} {x C L f : Addr} {ox : Obj} {od : Option Obj}
end
end L2
namespace G
open PySem PySem.Spec L2
open PyProof.Rows hiding St
section
variable {Z : Cx} {g B : Cf} {W : XK} {T : List Addr} {He : Hp} {a b c : Expr} {f1 f2 f3 : Se X} {fs gs : Se (List X)} {pos p p2 : Pos} {kws : List Keyword} {e : Expr} {es : List Expr} {x : Str} {ks : List Str}
def boolR : R → M Bool
  | .at (.bl b) => .ret b
  | .dt (.bl b) => .ret b
  | _ => .fail
def eqPyB (d1 d2 : D) : M Bool :=
  match d1.py, d2.py with
  | some x, some y => if x.depth ≤ 60 ∧ y.depth ≤ 60 then .ret (PyData.eqv x y) else .fail
  | _, _ => .fail
def okTy (P : Nat → Bool) : D → Bool
  | .ins C _ => P C
  | .feed => false
  | .fn _ => false
  | .dk _ _ => false
  | .dn _ _ => false
  | .dj _ _ => false
  | _ => true
def eqB (P : Nat → Bool) (sem : MSem) : D → D → M Bool := fun d1 d2 => match d1 with
  | .ins C ds => match sem C with
    | some f => if okTy P d2 then (f [.ins C ds, d2] []).bind boolR else .fail
    | none => .fail
  | d => eqPyB d d2
structure EqOk (Pr : Program) (w : World) (K : PySem.W.Frag) (mg : Str → Option Value) (base : Heap) (B : Cf) (n : Nat) (P : Nat → Bool) (sem : MSem) : Prop where
  mt : MtOk Pr w K mg base B n "__eq__" [] sem
  tf : TyF B P
  nf : ∀ C f, sem C = some f → (∀ t, t ∈ ["NoneType", "bool", "int", "str", "list", "tuple"] → PySem.W.notFirst K (B.ad C) (.type t) = true) ∧ ∀ C', P C' = true → PySem.W.notFirst K (B.ad C) (.ref (B.ad C')) = true
  ne : ∀ C f, sem C = some f → NoNe K (B.ad C)
  nn : ∀ C f, sem C = some f → PySem.W.subIn K (.ref (B.ad C)) (.type "NoneType") = some false
theorem SameB.tf {P : Nat → Bool} (hB : SameB g B) (t : TyF B P) : TyF g P := ⟨fun C h => by rw [hB.ad, hB.k]; exact t.ty C h⟩
theorem RpR.bool {T : List Addr} {H0 H : Hp} {v : V} {z : R} {E : XD} {P : Bool → Prop} (r : RpR g T H0 H v z) (w : (boolR z).wp E P) : ∃ b, v = .bl b ∧ P b := by
  cases z with
  | nw o => exact w.elim
  | «at» d =>
    cases d <;> first | exact w.elim | skip
    cases r
    exact ⟨_, rfl, w⟩
  | dt d =>
    cases d <;> first | exact w.elim | skip
    cases (show Rp g _ v _ from r)
    exact ⟨_, rfl, w⟩
theorem spC.mono {f : List D → List D → M R} {vs zs : List V} {H : Hp} {Q Q' : VK} {E : XK} (h : ∀ v H', Q v H' → Q' v H') (q : spC B f vs zs H Q E) : spC B f vs zs H Q' E := by
  obtain ⟨fd, T, ds, es, h1, h2, h3, w⟩ := q
  exact ⟨fd, T, ds, es, h1, h2, h3, M.wp_mono (fun z w v H' e r => h v H' (w v H' e r)) w⟩
def eqG (neg : Bool) (P : Nat → Bool) (sem : MSem) (d1 d2 : D) : M Bool := match neg, d1, d2 with
  | false, .non, .ins C ds => match sem C with
    | some f => (f [.ins C ds, .non] []).bind boolR
    | none => .fail
  | _, d1, d2 => eqB P sem d1 d2
def sEq (neg : Bool) (P : Nat → Bool) (sem : MSem) (f1 f2 : Se X) : Se X := fun Γ => (f1 Γ).bind fun x => (f2 Γ).bind fun y => (eqG neg P sem x.toD y.toD).bind fun b => .ret (.p (.bl (neg != b)))
def sUnI (sem : MSem) (chk : R → M D) (f1 : Se X) : Se X := fun Γ => (f1 Γ).bind fun x => match x.toD with
  | .ins C ds => match sem C with
    | some f => (f [.ins C ds] []).bind fun z => (chk z).bind fun d => .ret (.p d)
    | none => .fail
  | _ => .fail
def fin1 (p : Fl × List Sl) : M R :=
  match p.1 with
  | .rt z => .ret z
  | .nx => .ret (.at .non)
  | _ => .fail
def frame (n : Nat) (ds : List D) : List Sl := ds.map .v ++ List.replicate (n - ds.length) .no
def runB (n : Nat) (fb : Sst) (ds : List D) : M R := (fb (frame n ds)).bind fin1
theorem start_get {N : List Str} {vs : List V} {i : Nat} {v : V} (h : vs[i]? = some v) : (L2.start N vs)[i]? = some (some v) := by
  unfold L2.start
  rw [List.getElem?_append_left (by rw [List.length_map]; exact (List.getElem?_eq_some_iff.mp h).1), List.getElem?_map, h]; rfl
theorem Rl.start {fd : Fdx} {H : Hp} {N : List Str} {vs : List V} {ds : List D} (hB : SameB g B) (hf : g.fd = fd) (hs : g.self = none) (fo : FdOk (B.wf fd) T H) (r : RpA (B.wf fd) (off H T) vs ds) : Rl g T H [] H (frame N.length ds) (L2.start N vs) := by
  have l := r.length
  subst hf
  refine ⟨by unfold frame L2.start; simp [l], fun i s h => ?_, fun i j o o' a h1 h2 h3 h4 => ?_, fun a h => (by cases h), fun a h => (by cases h), ⟨fo.fd.1, fun p l h => (fo.fd.2.fd p l h).tkl⟩, fo.tk, Ext.of_same (Same.refl _) fo.fd.2, fun a e => (by rw [hs] at e; cases e)⟩
  · unfold frame at h
    by_cases q : i < ds.length
    · rw [List.getElem?_append_left (by rw [List.length_map]; exact q), List.getElem?_map] at h
      obtain ⟨d, hd⟩ : ∃ d, ds[i]? = some d := ⟨ds[i], by simp [q]⟩
      rw [hd] at h
      cases h
      obtain ⟨v, h1, h2⟩ := r.get hd
      exact ⟨v, by rw [start_get h1]; rfl, by rw [List.append_nil]; exact Rp.cg (g := B.wf g.fd) hB.k.symm hB.ad.symm hB.fl.symm rfl hB.dx.symm _ h2⟩
    · rw [List.getElem?_append_right (by rw [List.length_map]; omega), List.getElem?_replicate] at h
      split at h
      · cases h; trivial
      · cases h
  · unfold frame at h1
    exfalso
    by_cases q : i < ds.length
    · rw [List.getElem?_append_left (by rw [List.length_map]; exact q), List.getElem?_map, Option.map_eq_some_iff] at h1
      obtain ⟨d, _, e⟩ := h1
      cases e
    · rw [List.getElem?_append_right (by rw [List.length_map]; omega), List.getElem?_replicate] at h1
      split at h1 <;> cases h1
variable {P : Program} {w : World} {K : PySem.W.Frag} {mg : Str → Option Value} {base : Heap}
theorem fn_run {qual : Str} {st : Stmt} {dvs : List V} {kwd : List (Str × V)} {f : Addr} {N ps : List Str} {fb : Sst} {k : Nat} (D : Fd K x qual st dvs kwd f) (S : FnScope N ps (defScope st)) (hBK : B.K = K)
    (hb : ∀ (cdv : Value) (A : Around) (outer : List Env) (s : Shared) (H : Hp) (E : XK) (fd : Fdx) (T : List Addr), RT k (cxOf (L2.CX P w) P w K mg base N qual (defScope st) f cdv A outer s H E) E →
      PassesOwn (model P w) (A.deeper (envOfC qual (defScope st) s.heap.objs.size f cdv)) (envOfC qual (defScope st) s.heap.objs.size f cdv) (cxOf (L2.CX P w) P w K mg base N qual (defScope st) f cdv A outer s H E).xe →
      ESs (cxOf (L2.CX P w) P w K mg base N qual (defScope st) f cdv A outer s H E) (B.wf fd) E T H (defBody st) fb) :
    Fo P w K mg base (L2.CX P w) (k + 1) x qual st dvs kwd f ps (spB B (runB N.length fb) ps.length) :=
  fo_mkX D S (fun vs H Q E h => h.1) fun cdv A outer s H vs Q E hr ⟨hl, fd, T, ds, fo, r, w⟩ => ⟨_, hb cdv A outer s H E fd T ⟨hr, takes_of rfl rfl rfl rfl⟩ (passes_of rfl), by
    refine ⟨frame N.length ds, [], Rl.start ⟨rfl, rfl, rfl, rfl, rfl, rfl⟩ rfl rfl fo r, ?_⟩
    simp only [runB, M.wp_bind] at w
    refine M.wp_mono (fun p w => ?_) w
    obtain ⟨fl, Γ1⟩ := p
    cases fl with
    | nx => exact fun σ' S' H' rl fr => w .non H' rl.ex .non
    | bk => exact w.elim
    | ct => exact w.elim
    | rt z => exact w⟩
end
end G
namespace G
open PySem PySem.Spec L2
open PyProof.Rows hiding St
def permute {α : Type} (ix : List Nat) (xs : List α) : List α := ix.filterMap fun i => xs[i]?
theorem zbS_ {xs : List V} {us : List Value} (r : Vals xs us) : ∀ ix : List Nat, Vals (permute ix xs) (permute ix us)
  | [] => .nil
  | i :: ix => by
    have ih := zbS_ r ix
    unfold permute at ih ⊢
    rw [List.filterMap_cons, List.filterMap_cons]
    cases h : xs[i]? with
    | none => rw [r.none_of h]; exact ih
    | some x => obtain ⟨u, h1, h2⟩ := r.get h; rw [h1]; exact .cons h2 ih
theorem zcw_ {g : Cf} {H : Hp} {xs : List V} {us : List D} (r : RpA g H xs us) : ∀ ix : List Nat, RpA g H (permute ix xs) (permute ix us)
  | [] => .nil
  | i :: ix => by
    have ih := zcw_ r ix
    unfold permute at ih ⊢
    rw [List.filterMap_cons, List.filterMap_cons]
    cases h : xs[i]? with
    | none =>
      have : us[i]? = none := by
        rw [List.getElem?_eq_none_iff] at h ⊢
        rw [← r.length]; exact h
      rw [this]; exact ih
    | some x => obtain ⟨u, h1, h2⟩ := r.getV h; rw [h1]; exact .cons h2 ih
theorem zca_ {α : Type} {xs : List α} : ∀ {ix : List Nat}, (∀ i ∈ ix, i < xs.length) → (permute ix xs).length = ix.length
  | [], _ => rfl
  | i :: ix, h => by
    have ih := zca_ (xs := xs) (ix := ix) fun j hj => h j (List.mem_cons_of_mem _ hj)
    unfold permute at ih ⊢
    rw [List.filterMap_cons, List.getElem?_eq_getElem (h i List.mem_cons_self)]
    exact congrArg Nat.succ ih
def runF {α : Type} (n : Nat) (ix : List Nat) (dd : List D) (sem : List D → M α) (ds es : List D) : M α := if ds.length = n then sem (permute ix (ds ++ es ++ dd)) else .fail
section
variable {B : Cf} {P : Program} {w : World} {K : PySem.W.Frag} {mg : Str → Option Value} {base : Heap} {k n : Nat} {x qual : Str} {st : Stmt} {dvs : List V} {kwd : List (Str × V)} {f : Addr} {ps ks : List Str} {sem : List D → M R} {ix : List Nat} {dv : List V} {dd : List D}
def KbOk (K : PySem.W.Frag) (x qual : Str) (st : Stmt) (dvs : List V) (kwd : List (Str × V)) (f : Addr) (ps : List Str) (n : Nat) (ks : List Str) (ix : List Nat) (dv : List V) : Prop :=
  ∀ fd, FunD K x qual (defArgs st) (defBody st) (defScope st) dvs kwd f fd → ∃ xv : List Value, KBn K fd ps n ks (fun us ws => permute ix (us ++ ws ++ xv)) (fun vs zs => permute ix (vs ++ zs ++ dv))
theorem zc6_ (o : Fo P w K mg base (L2.CX P w) k x qual st dvs kwd f ps (spB B sem ps.length)) (kb : KbOk K x qual st dvs kwd f ps n ks ix dv) (hd : ∀ fd H, RpA (B.wf fd) H dv dd) (hix : ix.length = ps.length) (hlt : ∀ i ∈ ix, i < n + ks.length + dv.length) :
    FnA P w K mg base (L2.CX P w) k f ks (spC B (runF n ix dd sem)) := by
  obtain ⟨fd, F, ok⟩ := o.ex
  obtain ⟨xv, kbn⟩ := kb fd F
  refine ⟨fun A outer s H us ws vs zs Q E hr he r1 r2 l hs => ?_⟩
  obtain ⟨fo, T, ds, es, h1, h2, h3, h4⟩ := hs
  unfold runF at h4
  split at h4
  rotate_left
  · exact h4.elim
  rename_i hn
  have lv : vs.length = n := by rw [h2.length]; exact hn
  have hlen : (permute ix (vs ++ zs ++ dv)).length = ps.length := by
    rw [zca_ fun i hi => ?_, hix]
    have := hlt i hi
    simp only [List.length_append]
    omega
  exact (ok.toK kbn).run A outer s H us ws vs zs Q E hr he r1 r2 l ⟨lv, hlen, fo, T, _, h1, zcw_ ((h2.append h3).append (hd fo _)) ix, h4⟩
theorem kbA (h : ∀ (kV doc pm : Value) (an : Option Addr) (cdv ct : Value) (us ws : List Value), us.length = n → ws.length = ks.length →
      bindArgs (PySem.W.fnOf x qual (defArgs st) (defBody st) (defScope st) .none kV doc pm an cdv ct) ⟨us, ks.zip ws⟩ = pure (ps.zip (permute ix (us ++ ws ++ [])))) : KbOk K x qual st [] kwd f ps n ks ix [] := fun fd F => by
  obtain ⟨oc, od, dV, kV, doc, pm, an, cdv, ct, osl, rfl, lk, hcd, hD, hK⟩ := F.ex
  rcases hD with ⟨_, rfl⟩ | ⟨e, _⟩
  · exact ⟨[], fun s us ws _ l1 l2 => .of_eq (h kV doc pm an cdv ct us ws l1 l2), fun r1 r2 => zbS_ ((r1.append r2).append .nil) ix⟩
  · exact absurd rfl e
def finI (p : Fl × List Sl) : M O :=
  match p.1, (p.2[0]? : Option Sl) with
  | Fl.nx, some (Sl.c o) => .ret o
  | _, _ => .fail
def runI (C n : Nat) (fb : Sst) (ds : List D) : M O := (fb (.c (.i C []) :: frame (n - 1) ds)).bind finI
theorem XdOk.cg {g g' : Cf} (e1 : g.K = g'.K) (e2 : g.ad = g'.ad) (e3 : g.fl = g'.fl) (e4 : g.fd = g'.fd) (e5 : g.xn = g'.xn) (e7 : g.dx = g'.dx) {T : List Addr} {H : Hp} {d : Addr} {C : Nat} {fs : List D} (q : XdOk g T H d C fs) : XdOk g' T H d C fs := by
  obtain ⟨fv, h1, h2, h3⟩ := q
  refine ⟨fv, h1, e5 ▸ h2, fun i f hf => ?_⟩
  obtain ⟨v, e, a, b, c⟩ := h3 i f (e5 ▸ hf)
  exact ⟨v, e, a, b, Rp.cg e1 e2 e3 e4 e7 _ c⟩
def semTake (ds es : List D) : M R := match ds, es with
  | [.feed, .int m], [] => if 0 < m ∧ m < 1000 then .draw m.toNat fun r => .ret (.at (.int (r : Nat))) else .fail
  | _, _ => .fail
theorem FnOk.up {fd : FuncData} {ps : List Str} {sp : Sp} (F : FnOk P w K mg base CX0 k f fd ps sp) : FnOk P w K mg base (L2.CX P w) k f fd ps sp :=
  ⟨F.len, fun A outer s H args us vs Q E hr he hb hv hs => codeAny_mono (F.run A outer s H args us vs Q E hr he hb hv hs) fun r s' h => by
    cases r with
    | ok fl =>
      cases fl with
      | ret u => exact h
      | next => exact (show False from h).elim
      | brk => exact (show False from h).elim
      | cont => exact (show False from h).elim
    | error e => exact (show False from h).elim⟩
theorem FnOk.toTake {fd : FuncData} {ps : List Str} {ds : List Value} (F : FnOk P w K mg base CX0 k f fd ps spTake) (hb : Binds K fd ps ds) (hd : Vals [] ds) : FnA P w K mg base (L2.CX P w) k f [] (spC B semTake) :=
  ((FnOk.up F).toA hb hd).imp fun vs zs H Q E ⟨fdd, T, ds, es, fo, r1, r2, w⟩ => by
    unfold semTake at w
    split at w <;> first | exact w.elim | skip
    rename_i m
    split at w <;> first | exact w.elim | skip
    rename_i hm
    cases r1 with
    | cons h t =>
      cases h with
      | @feed p l hp =>
        cases t with
        | cons h t =>
          cases h
          cases t
          have hfd : fdd.f = some (p, l) := hp
          have hF := fo.fd.2.fd p l hp
          refine ⟨p, l, m, rfl, hF, hm.1, hm.2, fun r H' h0 h1 mv => ?_⟩
          have e : r = ((r.toNat : Nat) : Int) := (Int.toNat_of_nonneg h0).symm
          rw [e]
          refine w r.toNat (by omega) _ H' ⟨fun b o n hb => mv.1 b o (fun z => n (by rw [z]; exact .inl ⟨l, hfd⟩)) hb, fun p' l' h => ?_, ?_⟩ (.int _)
          · rw [hfd] at h
            cases h
            exact mv.2
          · obtain ⟨_, _, _, _, hl, _⟩ := hF
            exact Fdx.tabs_but fo.fd.2.tb (fun q z => by rw [hl] at z; cases z) (noCode hl fun f z => by cases z) mv.1
end
end G
namespace G
open PySem PySem.Spec L2
open PyProof.Rows hiding St
def starD : X → M (List D)
  | .p (.lst ds) => .ret ds
  | .p (.tup ds) => .ret ds
  | .c (.l ds) => .ret ds
  | .b (.l ds) => .ret ds
  | _ => .fail
def sStar (f1 : Se X) (fs : Se (List X)) : Se (List X) := fun Γ => (f1 Γ).bind fun x => (starD x).bind fun ds => (fs Γ).bind fun xs => .ret (ds.map X.p ++ xs)
section
variable {Z : Cx} {g : Cf} {W : XK} {T : List Addr} {He : Hp} {e : Expr} {es : List Expr} {f1 : Se X} {fs : Se (List X)}
theorem RpA.xs {S : List Addr} {H0 H : Hp} : ∀ {vs : List V} {ds : List D}, RpA g (off H (T ++ S)) vs ds → RpXs g T S H0 H vs (ds.map X.p)
  | _, _, .nil => .nil
  | _, _, .cons h t => .cons h (RpA.xs t)
end
def runStarI {α : Type} (sem : List D → M α) (ds es : List D) : M α := if es.length = 0 ∧ ds.length ≤ 100000 then sem [.tup ds] else .fail
section
variable {P : Program} {w : World} {K : PySem.W.Frag} {mg : Str → Option Value} {base : Heap} {k : Nat} {x qual : Str} {st : Stmt} {f : Addr} {B : Cf}
end
section
variable {Z : Cx} {g : Cf} {W : XK} {T S : List Addr} {H0 He H : Hp} {a : Addr} {Γ : List Sl} {σ : St}
theorem Rl.ext_c (r : Rl g T He S H0 Γ σ) (e : Ext g.fd H0 H) (hn : H0 a = none) (ht : Tkd H a) : Rl g T He (a :: S) H Γ σ := by
  have t' : ∀ p, g.fd.mv p → p ∈ T ++ (a :: S) := fun p h => List.mem_append_left _ (r.t p h)
  have sm : Same (off H0 (T ++ S)) (off H (T ++ (a :: S))) := (zbk_ hn).trans (e.off t')
  refine ⟨r.len, fun j s q => ?_, r.ne, fun b h => ?_, fun b h => ?_, r.ft, r.tt, r.ex.trans e, r.s0⟩
  · have y := r.sl j s q
    cases s with
    | no => trivial
    | v d => obtain ⟨v, h1, h2⟩ := y; exact ⟨v, h1, h2.mono sm⟩
    | c o' => obtain ⟨b, h1, h2, h3⟩ := y; exact ⟨b, h1, List.mem_cons_of_mem _ h2, h3.mono (fun o' h => e.at r.t (r.nT h2) h) sm⟩
  · rcases List.mem_cons.mp h with rfl | h
    · exact ht
    · obtain ⟨u, q, n⟩ := r.tk b h
      exact ⟨u, e.at r.t (r.nT h) q, n⟩
  · rcases List.mem_cons.mp h with rfl | h
    · exact r.ex.free hn fun h => r.okd.tk h hn
    · exact r.nw b h
theorem RpO.tk {o : O} (r : RpO g T H a o) : H a ≠ none := by
  cases o with
  | l ds => obtain ⟨vs, h1, _⟩ := r; rw [h1]; intro z; cases z
  | i C fs => obtain ⟨dx, fv, h1, _⟩ := r; rw [h1]; intro z; cases z
  | d ks ds => obtain ⟨kvs, h1, _⟩ := r; rw [h1]; intro z; cases z
def sPar2 (kx ky : Bool) (i j : Nat) (f1 f2 : Se X) : Sst := fun Γ => (f1 Γ).bind fun x => (f2 Γ).bind fun y => (asgX kx i x Γ).bind fun Γ1 => (asgX ky j y Γ1).bind fun Γ2 => M.ret (Fl.nx, Γ2)
theorem es_par2 {kx ky : Bool} {i j : Nat} {x y : Str} {a b : Expr} {f1 f2 : Se X} {px py pt pos : Pos} {kt k2 pt2} (h0 : g.ok0 i) (h0' : g.ok0 j) (hc : Z.calm = true) (hN : Z.N.Nodup) (hi : Z.N[i]? = some x) (hj : Z.N[j]? = some y) (hij : i ≠ j)
    (hx : Z.env.scope.names.lookup x = some .local) (hy : Z.env.scope.names.lookup y = some .local) (ha : EV Z g W T He a f1) (hb : EV Z g W T He b f2)
    (hw : swappedStores [.Tuple [.Name x px, .Name y py] kt pt] (.Tuple [a, b] k2 pt2) Z.env = pure (some [x, y]))
    (hs : swapsWithSole [.Tuple [.Name x px, .Name y py] kt pt] (.Tuple [a, b] k2 pt2) pos.line Z.env = pure false := by rfl)
    (hs1 : starEach [a, b] Z.env = (false, eval a Z.env) :: starEach [b] Z.env := by rfl) (hs2 : starEach [b] Z.env = (false, eval b Z.env) :: starEach [] Z.env := by rfl) :
    ES Z g W T He (.Assign [.Tuple [.Name x px, .Name y py] kt pt] (.Tuple [a, b] k2 pt2) pos) (sPar2 kx ky i j f1 f2) :=
  ps_w (ps_par hc hN hi hj hij hx hy (pa_cons ha (pa_cons hb pa_nil hs2) hs1) hw hs) fun D σ H ⟨Γ, S, rl, w⟩ => by
    simp only [sPar2, M.wp_bind] at w
    refine rdE.use rl (M.wp_mono (fun x w v1 H1 e1 l1 x1 => ?_) w)
    have fin : ∀ (Γ1 : List Sl) (S1 : List Addr), asgX kx i x Γ = .ret Γ1 → Rl g T He S1 H1 Γ σ → Rl g T He S1 H1 Γ1 (σ.set i (some v1)) → FrS T S H S1 H1 → ∃ Γ S, Rl g T He S H1 Γ σ ∧ (f2 Γ).wp (xp g W T He) fun y => ∀ v2 H2, Ext g.fd H1 H2 → RpX g T S H1 H2 v2 y → ∃ v w, [v1, v2] = [v, w] ∧ D.nx ((σ.set i (some v)).set j (some w)) H2 := by
      intro Γ1 S1 ea r1 r2 fr
      refine ⟨Γ, S1, r1, M.wp_mono (fun y w v2 H2 e2 x2 => ⟨_, _, rfl, ?_⟩) w⟩
      rw [ea] at w
      refine zdn_ (W := W) (keep := ky) h0' r2 e2 x2 ?_
      refine M.wp_mono (fun p w => SPost.from fr w) ?_
      simpa only [M.wp_bind, M.wp_ret] using w
    cases x with
    | b o => refine ⟨Γ, S, l1, M.wp_mono (fun y w => w.elim) w⟩
    | t d => refine ⟨Γ, S, l1, M.wp_mono (fun y w => w.elim) w⟩
    | p d => exact fin _ S rfl l1 (l1.set_v h0 x1) (rl.frs e1)
    | c o =>
      cases kx with
      | false => exact fin _ S rfl l1 (l1.set_v h0 (x1.toD' rfl)) (rl.frs e1)
      | true =>
        obtain ⟨ad, rfl, hn, n, r⟩ := x1
        exact fin _ (ad :: S) rfl (rl.ext_c e1 hn r.tkd) (rl.set_c h0 e1 hn r) ((zbk_ hn).trans (e1.off fun p h => List.mem_append_left _ (rl.t p h)))
theorem SameB.tyv {B : Cf} (h : SameB g B) (d : D) : d.tyv g = d.tyv B := by cases d <;> simp only [D.tyv, h.ad]
theorem SameB.ik {B : Cf} {u : Value} {p : D → Option Bool} (h : SameB g B) (o : IsK B u p) : IsK g u p := ⟨fun d b e => by rw [h.k, h.tyv]; exact o.ok d b e, o.nf, o.nj, o.nk⟩
end
def bStr : D → Option Bool
  | .str _ => some true
  | .ins _ _ => none
  | .feed => none
  | .fn _ => none
  | .dk _ _ => none
  | .dn _ _ => none
  | .dj _ _ => none
  | _ => some false
def bInt : D → Option Bool
  | .int _ => some true
  | .bl _ => some true
  | .ins _ _ => none
  | .feed => none
  | .fn _ => none
  | .dk _ _ => none
  | .dn _ _ => none
  | .dj _ _ => none
  | _ => some false
def bBool : D → Option Bool
  | .bl _ => some true
  | .ins _ _ => none
  | .feed => none
  | .fn _ => none
  | .dk _ _ => none
  | .dn _ _ => none
  | .dj _ _ => none
  | _ => some false
def bList : D → Option Bool
  | .lst _ => some true
  | .ins _ _ => none
  | .feed => none
  | .fn _ => none
  | .dk _ _ => none
  | .dn _ _ => none
  | .dj _ _ => none
  | _ => some false
def bTuple : D → Option Bool
  | .tup _ => some true
  | .ins _ _ => none
  | .feed => none
  | .fn _ => none
  | .dk _ _ => none
  | .dn _ _ => none
  | .dj _ _ => none
  | _ => some false
section
variable {g : Cf}
theorem ik_str : IsK g (.type "str") bStr := ⟨fun d b h => by cases d <;> first | (cases h; done) | (cases h; exact kit_ty rfl), rfl, fun _ => rfl, fun _ _ => rfl, fun _ _ => rfl, fun _ _ => rfl⟩
theorem ik_bool : IsK g (.type "bool") bBool := ⟨fun d b h => by cases d <;> first | (cases h; done) | (cases h; exact kit_ty rfl), rfl, fun _ => rfl, fun _ _ => rfl, fun _ _ => rfl, fun _ _ => rfl⟩
theorem zcR_ : IsK g (.type "list") bList := ⟨fun d b h => by cases d <;> first | (cases h; done) | (cases h; exact kit_ty rfl), rfl, fun _ => rfl, fun _ _ => rfl, fun _ _ => rfl, fun _ _ => rfl⟩
theorem zcc_ : IsK g (.type "tuple") bTuple := ⟨fun d b h => by cases d <;> first | (cases h; done) | (cases h; exact kit_ty rfl), rfl, fun _ => rfl, fun _ _ => rfl, fun _ _ => rfl, fun _ _ => rfl⟩
end
theorem FnA.none {P : Program} {w : World} {K : PySem.W.Frag} {mg : Str → Option Value} {base : Heap} {k : Nat} {f : Addr} {ks : List Str} {B : Cf} {CX : CXT} {sem : List D → List D → M R} (h : ∀ ds es, sem ds es = .fail) : FnA P w K mg base CX k f ks (spC B sem) :=
  ⟨fun A outer s H us ws vs zs Q E hr he r1 r2 l hs => by
    obtain ⟨fd, T, ds, es, _, _, _, z⟩ := hs
    rw [h] at z
    exact z.elim⟩
theorem runF_fail {α : Type} {n : Nat} {ix : List Nat} {dd : List D} {sem : List D → M α} (h : ∀ ds, sem ds = .fail) (ds es : List D) : runF n ix dd sem ds es = .fail := by
  unfold runF
  split
  · exact h _
  · rfl
section
variable {K : PySem.W.Frag} {x qual : Str} {st : Stmt} {dvs : List V} {kwd : List (Str × V)} {f : Addr} {ps : List Str} {n : Nat} {ks : List Str} {ix : List Nat}
end
end G
namespace G
open PySem PySem.Spec L2
open PyProof.Rows hiding St
mutual
def D.eqb : D → D → Bool
  | .non, .non => true
  | .bl a, .bl b => a == b
  | .int a, .int b => a == b
  | .str a, .str b => decide (a = b)
  | .lst a, .lst b => D.eqbs a b
  | .tup a, .tup b => D.eqbs a b
  | .ins c a, .ins d b => c == d && D.eqbs a b
  | .feed, .feed => true
  | .fn i, .fn j => i == j
  | .dk a x, .dk b y => decide (a = b) && D.eqbs x y
  | .dn a x, .dn b y => D.eqbs a b && D.eqbs x y
  | .dj a x, .dj b y => decide (a = b) && D.eqbs x y
  | _, _ => false
def D.eqbs : List D → List D → Bool
  | [], [] => true
  | a :: as, b :: bs => D.eqb a b && D.eqbs as bs
  | _, _ => false
end
def O.eqb : O → O → Bool
  | .l a, .l b => D.eqbs a b
  | .i c a, .i e b => c == e && D.eqbs a b
  | .d a x, .d b y => decide (a = b) && D.eqbs x y
  | _, _ => false
def R.eqb : R → R → Bool
  | .at a, .at b => D.eqb a b
  | .nw a, .nw b => O.eqb a b
  | .dt a, .dt b => D.eqb a b
  | _, _ => false
def M.chk {α : Type} (p : α → Bool) : M α → Bool
  | .ret a => p a
  | .fail => false
  | .draw m k => (List.range m).all fun r => M.chk p (k r)
  | .thr _ _ => false
def X0 : XD := fun _ _ => False
def M.val {α : Type} : M α → Option α
  | .ret a => some a
  | _ => none
def R.is (d : D) : R → Bool
  | .at e => D.eqb e d
  | .nw o => D.eqb o.toD d
  | .dt e => D.eqb e d
def R.toD : R → D
  | .at d => d
  | .nw o => o.toD
  | .dt d => d
@[irreducible] def M.ok {α : Type} (m : M α) (Q : α → Prop) : Prop := m.wp X0 Q
theorem M.ok_iff {α : Type} {m : M α} {Q : α → Prop} : m.ok Q ↔ m.wp X0 Q := by unfold M.ok; exact Iff.rfl
@[simp] theorem M.ok_ret {α : Type} {a : α} {Q : α → Prop} : (M.ret a).ok Q = Q a := propext M.ok_iff
@[simp] theorem M.ok_fail {α : Type} {Q : α → Prop} : (M.fail : M α).ok Q = False := propext M.ok_iff
@[simp] theorem M.ok_thr {α : Type} {C : Nat} {fs : List D} {Q : α → Prop} : (M.thr C fs : M α).ok Q = False := propext M.ok_iff
@[simp] theorem M.ok_draw {α : Type} {m : Nat} {k : Nat → M α} {Q : α → Prop} : (M.draw m k).ok Q = ∀ r, r < m → (k r).ok Q := by
  refine propext (M.ok_iff.trans ?_)
  exact ⟨fun h r hr => M.ok_iff.mpr (h r hr), fun h r hr => M.ok_iff.mp (h r hr)⟩
theorem M.ok_bind {α β : Type} {m : M α} {f : α → M β} {Q : β → Prop} : (m.bind f).ok Q ↔ m.ok fun a => (f a).ok Q := by
  rw [M.ok_iff, M.ok_iff, M.wp_bind]
  exact ⟨fun h => M.wp_mono (fun a q => M.ok_iff.mpr q) h, fun h => M.wp_mono (fun a q => M.ok_iff.mp q) h⟩
theorem M.ok_mono {α : Type} {P Q : α → Prop} (h : ∀ a, P a → Q a) {m : M α} (q : m.ok P) : m.ok Q := M.ok_iff.mpr (M.wp_mono h (M.ok_iff.mp q))
theorem M.ok_of {α : Type} {m : M α} {a : α} {Q : α → Prop} (h : m = .ret a) (q : Q a) : m.ok Q := by rw [h, M.ok_ret]; exact q
@[simp] theorem tn_p {d : D} : (X.p d).tn = false := rfl
@[simp] theorem tn_c {o : O} : (X.c o).tn = false := rfl
@[simp] theorem tn_b {o : O} : (X.b o).tn = true := rfl
@[simp] theorem tn_t {d : D} : (X.t d).tn = true := rfl
@[simp] theorem ret_p {d : D} : (X.p d).ret = .dt d := rfl
@[simp] theorem ret_c {o : O} : (X.c o).ret = .nw o := rfl
@[simp] theorem ret_b {o : O} : (X.b o).ret = .nw o := rfl
@[simp] theorem ret_t {d : D} : (X.t d).ret = .dt d := rfl
@[simp] theorem RtoD_at {d : D} : (R.at d).toD = d := rfl
@[simp] theorem RtoD_nw {o : O} : (R.nw o).toD = o.toD := rfl
@[simp] theorem RtoD_dt {d : D} : (R.dt d).toD = d := rfl
@[simp] theorem fin_toD {z : R} {tt : Bool} : (z.fin tt).toD = z.toD := by
  cases z with
  | «at» d => rfl
  | nw o => cases tt <;> rfl
  | dt d => show X.toD (if (tt && !d.flat) = true then X.t d else X.p d) = d; split <;> rfl
@[simp] theorem fin_tn {z : R} : (z.fin false).tn = false := by cases z <;> rfl
@[simp] theorem fin_tt {z : R} : (z.fin false).tt = false := by cases z <;> rfl
@[simp] theorem atI_0 {α : Type} (x : α) (xs : List α) : atI (x :: xs) 0 = some x := by
  unfold atI ixN
  rw [if_pos (by decide), if_pos (by simp only [List.length_cons]; omega)]
  rfl
@[simp] theorem atI_1 {α : Type} (x y : α) (xs : List α) : atI (x :: y :: xs) 1 = some y := by
  unfold atI ixN
  rw [if_pos (by decide), if_pos (by simp only [List.length_cons]; omega)]
  rfl
@[simp] theorem atI_2 {α : Type} (x y z : α) (xs : List α) : atI (x :: y :: z :: xs) 2 = some z := by
  unfold atI ixN
  rw [if_pos (by decide), if_pos (by simp only [List.length_cons]; omega)]
  rfl
section
variable {Γ : List Sl} {Q : Fl × List Sl → Prop} {f1 f2 : Sst}
theorem w_seq (h : (f1 Γ).ok fun p => match p.1 with | .nx => (f2 p.2).ok Q | _ => Q p) : (sSeq f1 f2 Γ).ok Q := by
  unfold sSeq
  rw [M.ok_bind]
  refine M.ok_mono (fun p h => ?_) h
  obtain ⟨fl, Γ'⟩ := p
  cases fl with
  | nx => exact h
  | bk => exact M.ok_of rfl h
  | ct => exact M.ok_of rfl h
  | rt z => exact M.ok_of rfl h
theorem w_step (P : List Sl → Prop) (h : (f1 Γ).ok fun p => p.1 = .nx ∧ P p.2) (k : ∀ Γ', P Γ' → (f2 Γ').ok Q) : (sSeq f1 f2 Γ).ok Q := by
  refine w_seq (M.ok_mono (fun p h => ?_) h)
  obtain ⟨fl, Γ'⟩ := p
  obtain ⟨h1, h2⟩ := h
  cases h1
  exact k _ h2
end
end G
namespace PySem
namespace GXB
open Builtin Builtin.ObjectAttr PySem.HandSPX
structure ExB where
  nm : String
  newId : String
  initId : String
  tail : List Value
def refsT (tl : List Value) : List Value → Bool
  | .ref _ :: r => refsT tl r
  | l => l == tl
structure ExB.Ok (b : ExB) : Prop where
  F : ExcBaseFacts b.nm b.newId b.initId b.tail
  pass : ∀ self, refuseLoop self "__setattr__" b.tail = pure ()
  obj : b.tail.contains (.type "object") = true
  ne : b.tail.isEmpty = false
  kx : W.KxsFacts b.nm b.initId
theorem za8_ {tl : List Value} : ∀ l : List Value, refsT tl l = true → (∃ c r, l = .ref c :: r ∧ refsT tl r = true) ∨ l = tl
  | [], e => .inr (beq_iff_eq.mp e)
  | v :: r, e => by
    cases v with
    | ref c => exact .inl ⟨c, r, rfl, e⟩
    | _ => exact .inr (beq_iff_eq.mp e)
theorem zcB_ {b : ExB} (B : b.Ok) (self : Value) : ∀ l : List Value, refsT b.tail l = true → refuseLoop self "__setattr__" l = pure () := by
  intro l
  induction l with
  | nil =>
    intro e
    rcases za8_ [] e with ⟨c, r', q, h⟩ | q
    · cases q
    · rw [q]; exact B.pass self
  | cons a r ih =>
    intro e
    rcases za8_ (a :: r) e with ⟨c, r', q, h⟩ | q
    · obtain ⟨rfl, rfl⟩ := List.cons.inj q
      rw [refuseLoop_ref]; exact ih h
    · rw [q]; exact B.pass self
theorem refsT_contains {tl : List Value} (X : String) : ∀ l : List Value, refsT tl l = true → l.contains (.type X) = tl.contains (.type X) := by
  intro l
  induction l with
  | nil =>
    intro e
    rcases za8_ [] e with ⟨c, r', q, h⟩ | q
    · cases q
    · rw [← q]
  | cons a r ih =>
    intro e
    rcases za8_ (a :: r) e with ⟨c, r', q, h⟩ | q
    · obtain ⟨rfl, rfl⟩ := List.cons.inj q
      rw [List.contains_cons, ih h]; rfl
    · rw [q]
theorem zdg_ {b : ExB} (B : b.Ok) {l : List Value} (e : refsT b.tail l = true) : l.isEmpty = false := by
  rcases za8_ l e with ⟨c, r', q, h⟩ | q
  · rw [q]; rfl
  · rw [q]; exact B.ne
def vE : ExB := ⟨"ValueError", "ValueError.__new__", "ValueError.__init__", [.type "ValueError", .type "Exception", .type "BaseException", .type "object"]⟩
def lE : ExB := ⟨"LookupError", "LookupError.__new__", "LookupError.__init__", [.type "LookupError", .type "Exception", .type "BaseException", .type "object"]⟩
def iE : ExB := ⟨"IndexError", "IndexError.__new__", "IndexError.__init__", [.type "IndexError", .type "LookupError", .type "Exception", .type "BaseException", .type "object"]⟩
theorem vE_ok : vE.Ok := ⟨F.excBase_ValueError, F.store_ValueError.passes, by decide +kernel, rfl, W.kxs_ValueError⟩
theorem lE_ok : lE.Ok := ⟨F.excBase_LookupError, F.store_LookupError.passes, by decide +kernel, rfl, W.kxs_LookupError⟩
theorem iE_ok : iE.Ok := ⟨F.excBase_IndexError, F.store_IndexError.passes, by decide +kernel, rfl, W.kxs_IndexError⟩
section
variable {prog : Program} {w : World} {A : Around} {R : Result → Shared → Prop} {hp : Heap} {g : Array GenState} {d : Drawn} {t : Nat} {os : OsState} {K : W.Frag} {name : Str} {tk : Tok} {v : Value} {x C : Addr} {fv : Array Value} {cd : ClassData} {b : ExB}
theorem osa_new (B : b.Ok) (X : K.In hp) (hx : hp.get? x = some { cls := .ref C, data := .fields fv }) (hcd : W.clsIn K C = some cd) (hm : refsT b.tail cd.mro = true) (hh : cd.hasDict = true) (ha : W.findIn K (.ref C) name = some none)
    (hq : ∀ h' tk' dx, (∀ b o, b ≠ x → hp.get? b = some o → h'.get? b = some o) → hp.objs.size ≤ dx → dx ≠ x → h'.get? x = some { cls := .ref C, dict := some dx, data := .fields fv } →
      h'.Ns1 dx (fun y => if y = name then some v else none) → R (.ok (.ret .none)) ⟨h', g, d, tk', os⟩) :
    codeAny (model prog w) A (.call (.builtin "object.__setattr__") ⟨[.ref x, .str name tk, v], []⟩) R ⟨hp, g, d, t, os⟩ := by
  have I : W.InstAt hp x { cls := .ref C, data := .fields fv } C none := ⟨hx, rfl, rfl, trivial⟩
  have SF := F.store_object
  have ne := zdg_ B hm
  have hob : cd.mro.contains (.type "object") = true := (refsT_contains "object" _ hm).trans B.obj
  have hxs : x ≠ hp.objs.size := Nat.ne_of_lt (Heap.lt_size hx)
  have sub : W.Looks (model prog w) hp (isInstance (.ref x) (.type "object")) true := I.type.andThen (W.looks_mroIn X (by unfold W.mroIn; rw [hcd, Option.bind_some, if_neg (by rw [ne]; decide), hob]))
  refine codeAny_call_builtin SF.slot.plain SF.entry (@W.check_slot (model prog w) _ _ ⟨hp, g, d, t, os⟩ "object.__setattr__" "object" "__setattr__" (.ref x) [.str name tk, v] [] _ SF.kind SF.split sub (SF.args (.ref x) (.str name tk) v) ?_)
  have hmr : W.Looks (model prog w) hp (mroOf (.ref C)) cd.mro := (W.looks_clsIn X hcd).andThen .now
  have L3 : W.Looks (model prog w) hp (storeTaker? none) none := .now
  have hcls : W.Looks (model prog w) hp (classData C) cd := W.looks_clsIn X hcd
  rw [W.osa_eq, refuse_eq]
  refine wpAny_bind (wpAny_bind (I.type.at (wpAny_bind (hmr.at ?_))))
  rw [zcB_ B _ _ hm]
  refine wpAny_pure (wpAny_bind (I.type.at (wpAny_bind ((W.looks_findIn X ha).at (wpAny_bind (L3.at ?_))))))
  show wpAny _ _ (storeInOwnDict (.ref x) (.ref C) (.str name tk) name v false) _ _ _
  obtain ⟨nm, bs, mro, ns, qn, hd, sn, sb, ab, col, del⟩ := cd
  dsimp only at hh
  subst hh
  unfold storeInOwnDict ownDictForStores
  repeat (first | with_reducible refine store_in_new ?_ ?_ | with_reducible refine wpAny_loadPart_at hx ?_ | with_reducible refine hcls.at ?_ | wp_step)
  · exact ⟨_, #[], _, (Heap.get?_update_ne _ _ _ _ hxs.symm).trans (Heap.get?_push_at rfl rfl), rfl, fun e he => absurd he (by simp), fun _ => rfl⟩
  · intro h' tk' hn' hs
    have hx₁ : (hp.push { cls := .type "dict", data := .dict #[] }).get? x = some { cls := .ref C, data := .fields fv } := Heap.get?_push_of_some _ hx
    refine hq h' tk' hp.objs.size (fun b o hb ho => ?_) (Nat.le_refl _) hxs.symm ?_ hn'
    · exact (hs.2 b (Nat.ne_of_lt (Heap.lt_size ho))).trans ((Heap.get?_update_ne _ _ _ _ hb).trans (Heap.get?_push_of_some _ ho))
    · exact (hs.2 x hxs).trans (Heap.get?_update_self _ hx₁ rfl)
theorem osa_more {dx : Addr} {m0 : Str → Option Value} {nl : List Str} (B : b.Ok) (X : K.In hp) (hx : hp.get? x = some { cls := .ref C, dict := some dx, data := .fields fv }) (hns : hp.Ns1 dx m0) (hw : Within m0 nl) (hz : nl.length ≤ 1000) (hcd : W.clsIn K C = some cd)
    (hm : refsT b.tail cd.mro = true) (hh : cd.hasDict = true) (ha : W.findIn K (.ref C) name = some none)
    (hq : ∀ h' tk', (∀ b o, b ≠ dx → hp.get? b = some o → h'.get? b = some o) → h'.Ns1 dx (fun y => if y = name then some v else m0 y) → R (.ok (.ret .none)) ⟨h', g, d, tk', os⟩) :
    codeAny (model prog w) A (.call (.builtin "object.__setattr__") ⟨[.ref x, .str name tk, v], []⟩) R ⟨hp, g, d, t, os⟩ := by
  obtain ⟨oD, esD, epD, hoD, hdD, _⟩ := hns.count hw
  have I : W.InstAt hp x { cls := .ref C, dict := some dx, data := .fields fv } C (some oD) := ⟨hx, rfl, rfl, hoD⟩
  have SF := F.store_object
  have ne := zdg_ B hm
  have hob : cd.mro.contains (.type "object") = true := (refsT_contains "object" _ hm).trans B.obj
  have sub : W.Looks (model prog w) hp (isInstance (.ref x) (.type "object")) true := I.type.andThen (W.looks_mroIn X (by unfold W.mroIn; rw [hcd, Option.bind_some, if_neg (by rw [ne]; decide), hob]))
  refine codeAny_call_builtin SF.slot.plain SF.entry (@W.check_slot (model prog w) _ _ ⟨hp, g, d, t, os⟩ "object.__setattr__" "object" "__setattr__" (.ref x) [.str name tk, v] [] _ SF.kind SF.split sub (SF.args (.ref x) (.str name tk) v) ?_)
  have hmr : W.Looks (model prog w) hp (mroOf (.ref C)) cd.mro := (W.looks_clsIn X hcd).andThen .now
  have L3 : W.Looks (model prog w) hp (storeTaker? none) none := .now
  have hcls : W.Looks (model prog w) hp (classData C) cd := W.looks_clsIn X hcd
  rw [W.osa_eq, refuse_eq]
  refine wpAny_bind (wpAny_bind (I.type.at (wpAny_bind (hmr.at ?_))))
  rw [zcB_ B _ _ hm]
  refine wpAny_pure (wpAny_bind (I.type.at (wpAny_bind ((W.looks_findIn X ha).at (wpAny_bind (L3.at ?_))))))
  show wpAny _ _ (storeInOwnDict (.ref x) (.ref C) (.str name tk) name v false) _ _ _
  obtain ⟨nm, bs, mro, ns, qn, hd, sn, sb, ab, col, del⟩ := cd
  dsimp only at hh
  subst hh
  unfold storeInOwnDict ownDictForStores
  repeat (first | with_reducible refine PySem.OEX.store_in_old hns hw hz ?_ | with_reducible refine wpAny_loadPart_at hx ?_ | with_reducible refine hcls.at ?_ | wp_step)
  intro h' tk' hn' hs
  exact hq h' tk' (fun b o hb ho => (hs.2 b hb).trans ho) hn'
end
end GXB
end PySem
namespace G
open PySem PySem.Spec L2 NdefX PySem.GXB
open PyProof.Rows hiding St
def ClsB (K : PySem.W.Frag) (b : ExB) (C : Addr) : Prop := ∃ nm q N bs bm sn sub ab col dd k0 k1 k2 k3 k5, K.lookup C = some (excClassObj nm q C N bs bm true sn sub ab col dd k0 k1 k2 k3 k5 b.newId) ∧ refsT b.tail bm = true
structure OexC (K : PySem.W.Frag) (C : Addr) : Prop where
  cls : ∃ b : ExB, b.Ok ∧ ClsB K b C
  sa : PySem.W.findIn K (.ref C) "__setattr__" = some (some (.builtin "object.__setattr__"))
  exC : PySem.W.subIn K (.ref C) (.type "BaseException") = some true
  tyC : PySem.W.typeIn K (.ref C) = some (.type "type")
  kC : PySem.W.keepIn K (.ref C) = true
section
variable {X : Cx} {pins : List (Addr × Obj)} {σ : L2.St} {H : Hp} {s : Shared} {a C dx : Addr} {f : Str} {y : V} {u : Value} {fs : List (Str × V)} {Q : Unit → Shared → Prop} {E : Value → Shared → Prop} {A : Around}
theorem ost_new (T : OexC X.K C) (I : Inv X pins σ H s) (e : H a = some (exo a C none)) (hno : PySem.W.findIn X.K (.ref C) f = some none) (ry : RelV y u)
    (h : ∀ dx s', H dx = none → dx ≠ a → Inv X pins σ (upd (upd H dx (exd dx [(f, y)])) a (exo a C (some dx))) s' → Q () s') : wpAny (model X.prog X.w) A (setAttr (.ref a) f u) Q E s := by
  obtain ⟨b, B, nm, q, N, bs, bm, sn, sub, ab, col, dd, k0, k1, k2, k3, k5, hC, hbm⟩ := T.cls
  have hcl : PySem.W.clsIn X.K C = some { name := nm, bases := bs, mro := .ref C :: bm, ns := N, qualname := q, hasDict := true, slotNames := sn, subclasses := sub, abstract := ab, collection := col, hasDel := false } := by unfold PySem.W.clsIn; rw [hC] <;> rfl
  obtain ⟨t1, ho⟩ := exo_at I.hok e
  obtain ⟨hp, g, d, t, os⟩ := s
  refine PySem.W.set_plain I.kIn (ox := { cls := .ref C, dict := none, data := .fields #[.ref t1, .none, .none, .none, .bool false, .none] }) (od := none) ⟨ho, rfl, rfl, trivial⟩ T.sa ?_
  refine osa_new B I.kIn ho hcl (show refsT b.tail (.ref C :: bm) = true from hbm) rfl hno (fun h' tk' dx k dn dne hx hn => ?_)
  have hnd : H dx = none := I.hok.fresh dn
  have nd : ∀ {b : Addr} {o : Obj}, hp.get? b = some o → b ≠ dx := fun {b o} q => Nat.ne_of_lt (Nat.lt_of_lt_of_le (Heap.lt_size q) dn)
  have na : ∀ {b : Addr}, H b = none → b ≠ a := fun {b} n z => by
    rw [z, e] at n
    cases n
  have Un1 : Un X.fs [] H (upd (upd H dx (exd dx [(f, y)])) a (exo a C (some dx))) hp h' := {
    keep := fun b o q n _ _ => k b o (na n) q
    slot := fun b o q n _ _ => ⟨o.slots, k b o (na n) q⟩
    free := fun b o q n _ => by rw [upd_ne (na n), upd_ne (nd q)]; exact n
    there := fun b o q _ => by
      by_cases hb : b = a
      · exact ⟨_, by rw [hb]; exact hx⟩
      · exact ⟨o, k b o hb q⟩
    tups := fun b xs q => by rw [upd_ne (at_ne e q exo_tup), upd_ne (ne_of_none q hnd)]; exact q
    frzs := fun b o v q => by rw [upd_ne (at_ne e q exo_frz), upd_ne (ne_of_none q hnd)]; exact q
    tbls := fun b ps q => ⟨#[], by rw [upd_ne (at_ne e q exo_tbl), upd_ne (ne_of_none q hnd), q]; simp⟩ }
  refine h dx _ hnd dne (I.un (t' := tk') Un1 fun b o q => ?_)
  by_cases hb : b = a
  · subst hb
    rw [upd_same] at q
    cases q
    exact exo_ok hx
  · rw [upd_ne hb] at q
    by_cases hd : b = dx
    · subst hd
      rw [upd_same] at q
      cases q
      exact exd_ok hn (relO_put (fs := []) ry fun g => True.intro)
    · rw [upd_ne hd] at q
      exact (I.hok b o q).stay (fun c v hc z => k c v (by
          rcases hc with hc | hc
          · rw [hc]
            exact hb
          · exact at_ne e hc exo_own) z)
        (fun c hc => by rw [upd_ne (at_ne e hc exo_own), upd_ne (ne_of_none hc hnd)]; exact hc) (fun c xs hc => by rw [upd_ne (at_ne e hc exo_tup), upd_ne (ne_of_none hc hnd)]; exact hc)
theorem ost_old (T : OexC X.K C) (I : Inv X pins σ H s) (e : H a = some (exo a C (some dx))) (ed : H dx = some (exd dx fs)) (hl : fs.length ≤ 900) (hno : PySem.W.findIn X.K (.ref C) f = some none) (ry : RelV y u)
    (h : ∀ s', Inv X pins σ (upd H dx (exd dx ((f, y) :: fs))) s' → Q () s') : wpAny (model X.prog X.w) A (setAttr (.ref a) f u) Q E s := by
  obtain ⟨b, B, nm, q, N, bs, bm, sn, sub, ab, col, dd, k0, k1, k2, k3, k5, hC, hbm⟩ := T.cls
  have hcl : PySem.W.clsIn X.K C = some { name := nm, bases := bs, mro := .ref C :: bm, ns := N, qualname := q, hasDict := true, slotNames := sn, subclasses := sub, abstract := ab, collection := col, hasDel := false } := by unfold PySem.W.clsIn; rw [hC] <;> rfl
  obtain ⟨t1, ho⟩ := exo_at I.hok e
  obtain ⟨mA, hns, rel⟩ := exd_at I.hok ed
  have hw := within_of rel
  obtain ⟨hp, g, d, t, os⟩ := s
  obtain ⟨oD, _, _, hoD, _, _⟩ := hns.count hw
  refine PySem.W.set_plain I.kIn (ox := { cls := .ref C, dict := some dx, data := .fields #[.ref t1, .none, .none, .none, .bool false, .none] }) (od := some oD) ⟨ho, rfl, rfl, hoD⟩ T.sa ?_
  refine osa_more B I.kIn ho hns hw (by rw [List.length_map]; omega) hcl (show refsT b.tail (.ref C :: bm) = true from hbm) rfl hno (fun h' tk' k hn => ?_)
  have hd : ∃ o, h'.get? dx = some o := by
    obtain ⟨o, _, _, e', _⟩ := hn
    exact ⟨o, e'⟩
  exact h _ (I.write (t' := tk') (x := dx) (e := dx) (o := exd dx ((f, y) :: fs)) (by rw [ed]; exact True.intro) (.inl rfl) k hd (exd_ok hn (relO_put ry rel)))
def tOst (K : PySem.W.Frag) (f : Str) (to te : TE) : L2.TS := fun D σ H => te σ H fun y H1 => to σ H1 fun x H2 => ∃ a C : Addr, x = .ref a ∧ OexC K C ∧ PySem.W.findIn K (.ref C) f = some none ∧
  ((H2 a = some (exo a C none) ∧ ∀ dx, H2 dx = none → dx ≠ a → D.nx σ (upd (upd H2 dx (exd dx [(f, y)])) a (exo a C (some dx)))) ∨
    ∃ (dx : Addr) (fs : List (Str × V)), H2 a = some (exo a C (some dx)) ∧ H2 dx = some (exd dx fs) ∧ fs.length ≤ 900 ∧ D.nx σ (upd H2 dx (exd dx ((f, y) :: fs))))
theorem zcC_ {o e : Expr} {to te : TE} {p' pos : Pos} (ho : PE X o to) (he : PE X e te) (hs : swapsWith e (some (.Attribute o f p')) pos.line X.env = pure false := by rfl) : PS X (.Assign [.Attribute o f p'] e pos) (tOst X.K f to te) := by
  refine ⟨fun pins s σ H D I h => ?_⟩
  refine plainObj_wpAny_Assign_Attribute (thn (he.run pins s σ H _ I h) fun v s1 ⟨y, H1, I1, r1, q1⟩ => thn (ho.run pins s1 σ H1 _ I1 q1) fun u s2 ⟨x, H2, I2, r2, a, C, ex, T, hno, q⟩ => ?_) hs
  subst ex
  obtain rfl : u = Value.ref a := r2
  rcases q with ⟨ea, q⟩ | ⟨dx, fs, ea, ed, hl, q⟩
  · exact ost_new T I2 ea hno r1 fun dx s' n ne J => ⟨σ, _, J, q dx n ne⟩
  · exact ost_old T I2 ea ed hl hno r1 fun s' J => ⟨σ, _, J, q⟩
end
end G
namespace PySem
namespace GXS
open PySem.W PySem.Calls PyProof.Rows PySem.HandSPX
section
variable {prog : Program} {w : World} {A : Around} {E : Value → Shared → Prop} {h : Heap} {g : Array GenState} {d : Drawn} {t : Nat} {os : OsState}
variable {nm q : Str} {C N : Addr} {bs bm : List Value} {hdct : Bool} {sn : List Str} {sub : List Value} {ab : Bool} {col : Option Bool} {dd : Option Addr} {k0 k1 k2 k3 k5 : Option Value}
theorem mw_call {u e t0 : Addr} {rest : List Value} {Q : Value → Shared → Prop}
    {b : PySem.GXB.ExB} (B : b.Ok)
    (hC : h.get? C = some (excClassObj nm q C N bs bm hdct sn sub ab col dd k0 k1 k2 k3 k5 b.newId)) (he : h.get? e = some (HandSPX.excO C t0)) (hu : h.get? u = some (kxs_mw b.initId e)) (hrest : rest.length ≤ sizeLine)
    (hq : ∀ h' t1, (∀ b o, b ≠ e → h.get? b = some o → h'.get? b = some o) → h'.get? e = some (HandSPX.excO C t1) → Q .none ⟨h', g, d, t, os⟩) :
    wpAny (model prog w) A (call (.ref u) rest) Q E ⟨h, g, d, t, os⟩ := by
  refine wpAny_call (codeAny_of_tree ?_)
  show wpAny _ A.in1 (callAny (.ref u) ⟨rest, []⟩) _ _ _
  simp only [callAny]
  refine wpAny_bind (wpAny_load hu ?_)
  simp only [kxs_mw, show (Value.type "method-wrapper" == Value.type "method" || Value.type "method-wrapper" == Value.type "builtin_function_or_method" || Value.type "method-wrapper" == Value.type "method-wrapper") = true by decide, if_true]
  refine KFB.if_so (by decide) ?_
  refine wpAny_bind (W.check_bound_init B.F.toExcCallFacts hC he rfl ?_)
  refine wpAny_bind (wpAny_pure (wpAny_pure ?_))
  refine ⟨plainId_quiet B.F.init.plain _, codeAny_builtin B.F.initEntry ?_⟩
  exact exc_init_tree (cls := .ref C) (t0 := t0) (dv := none) (c2 := .none) (c3 := .none) (b4 := .bool false) he hrest fun h' k e' _ => hq h' _ k e'
end
end GXS
end PySem
namespace G
open PySem PySem.Spec L2 NdefX PySem.GXB
open PyProof.Rows hiding St
structure SxC (P : Program) (K : PySem.W.Frag) (C f cc : Addr) (F : NF) (N ps : List Str) : Prop where
  ox : OexC K C
  ini : PySem.W.findIn K (.ref C) "__init__" = some (some (.ref f))
  ity : PySem.W.typeIn K (.ref f) = some (.type "function")
  fn : ∃ oc od kV doc pm an ct osl, K.lookup f = some ⟨oc, od, .func (PySem.W.fnX F.name F.qual F.params F.body F.scope F.cl .none kV doc pm an (.ref F.c) ct), osl⟩
  cl : F.cl = [(("__class__" : Str), cc)]
  cell : ∃ o1 o2 o3, K.lookup cc = some ⟨o1, o2, .cell (some (.ref C)), o3⟩
  code : ∃ o1 o2 vs o3 t file tf, K.lookup F.c = some ⟨o1, o2, .fields vs, o3⟩ ∧ vs[1]? = some (.str F.qual t) ∧ vs[2]? = some (.str file tf) ∧ ((P.main.file : Str) == file) = true
  top : (P.main.scope.names.lookup ("super" : Str)).isSome = false
  opq : PySem.W.nsIn K cStatics "thirdparty.any" = some none
  bas : ∃ b : ExB, b.Ok ∧ ClsB K b C ∧ PySem.W.ks_superIn K C C "__init__" = some (some (.builtin b.initId)) ∧ PySem.W.subIn K (.ref C) (.type b.nm) = some true
  hcl : ∃ cd, PySem.W.clsIn K C = some cd
  mro : PySem.W.mroIn K C (.ref C) = some true
  sc : NScope N ps ["__class__"] F.scope
  ks : F.scope.names.lookup ("super" : Str) = some .globalImplicit
  hd : (F.params.posonlyargs ++ F.params.args).head?.map (·.arg) = some ("self" : Str)
  p0 : ps[0]? = some ("self" : Str)
section
variable {P : Program} {w : World} {K : PySem.W.Frag} {mg : Str → Option Value} {base : Heap} {C f cc e : Addr} {F : NF} {N ps : List Str}
def SupEv (p0 p1 p2 p3 p4 : Pos) (z : Str) (j : Nat) (env : Env) : Prop := ∃ pl : Sem Bool, eval (.Call (.Attribute (.Call (.Name "super" p0) [] [] p1) "__init__" p2) [.Constant (.str z) j p3] [] p4) env = (do
      let ov ← attributeBase (.Call (.Name "super" p0) [] [] p1) "__init__" env (eval (.Call (.Name "super" p0) [] [] p1) env)
      standAt p2.atName
      let (f, first) ← holding [ov] (getMethod ov "__init__" pl)
      callWith p4 f first (backTo p4 (starEach [.Constant (.str z) j p3] env)) [])
theorem sx_super {A : Around} {outer : List Env} {s0 s : Shared} {H0 H : Hp} {E : XK} {σ : St} {pins : List (Addr × Obj)} {p0 p1 p2 p3 p4 : Pos} {z : Str} {j : Nat} (T : SxC P K C f cc F N ps) (hmg : mg "super" = none)
    (I : Inv (ncx (L2.CX P w) P w K mg base N F f A outer s0 H0 E) pins σ H s) (hs : σ[0]? = some (some (.ref e))) (he : H e = some (exo e C none)) (hev : SupEv p0 p1 p2 p3 p4 z j (envF F f s0.heap.objs.size)) :
    _root_.PySem.wpAt (model P w) (A.deeper (envF F f s0.heap.objs.size)) (.func F.body (envF F f s0.heap.objs.size)) (eval (.Call (.Attribute (.Call (.Name "super" p0) [] [] p1) "__init__" p2) [.Constant (.str z) j p3] [] p4) (envF F f s0.heap.objs.size))
      (fun _ s' => Inv (ncx (L2.CX P w) P w K mg base N F f A outer s0 H0 E) pins σ H s') (ncx (L2.CX P w) P w K mg base N F f A outer s0 H0 E).xe s := by
  obtain ⟨hh, g, d, t, os⟩ := s
  have X : K.In hh := I.kIn
  obtain ⟨oc, od, kV, doc, pm, an, ct, osl, hf⟩ := T.fn
  obtain ⟨o1, o2, vs, o3, t', file, tf, hc, hv1, hv2, hfile⟩ := T.code
  obtain ⟨c1, c2, c3, hcell⟩ := T.cell
  obtain ⟨ar, har, hname⟩ : ∃ ar, (F.params.posonlyargs ++ F.params.args).head? = some ar ∧ ar.arg = "self" := by
    have h := T.hd
    cases q : (F.params.posonlyargs ++ F.params.args).head? with
    | none => rw [q] at h; cases h
    | some ar => rw [q] at h; exact ⟨ar, rfl, Option.some.inj h⟩
  obtain ⟨bB, B, hcb, hsup, hsubB⟩ := T.bas
  obtain ⟨cd, hcd⟩ := T.hcl
  obtain ⟨oD, hD1, hD2⟩ : ∃ oD, hh.get? C = some oD ∧ oD.data = .cls cd := by
    unfold PySem.W.clsIn at hcd
    split at hcd
    · rename_i c d cd' sl ho
      cases hcd
      exact ⟨_, X _ _ ho, rfl⟩
    · cases hcd
  obtain ⟨t1, hoe⟩ := exo_at I.hok he
  have hN0 : N[0]? = some ("self" : Str) := by
    have h := T.sc.pre
    have hp := T.p0
    have l1 : 0 < ps.length := (List.getElem?_eq_some_iff.mp hp).1
    have : (N.take (ps.length + [("__class__" : Str)].length))[0]? = some ("self" : Str) := by
      rw [h, List.getElem?_append_left l1]; exact hp
    rw [List.getElem?_take] at this
    split at this
    · exact this
    · cases this
  have hself : F.scope.names.lookup ("self" : Str) = some .local := T.sc.par _ (List.mem_of_getElem? T.p0)
  obtain ⟨m, hn, hl⟩ := I.loc
  obtain ⟨u, ru, lu⟩ := hl 0 ("self" : Str) (.ref e) hN0 hs (.inl hself)
  obtain rfl : u = Value.ref e := ru
  have hms : m ("self" : Str) = some (.ref e) := by
    rcases lu with ⟨_, h⟩ | ⟨hk, _⟩
    · exact h
    · have hk' : F.scope.names.lookup ("self" : Str) = some .cell ∨ F.scope.names.lookup ("self" : Str) = some .free := hk
      rw [hself] at hk'
      rcases hk' with z | z <;> cases z
  have hkc : F.scope.names.lookup ("__class__" : Str) = some .free := T.sc.frk _ (List.mem_singleton.mpr rfl)
  obtain ⟨mb, hb1, hb2⟩ := I.mod.blt
  obtain ⟨pl, hev⟩ := hev
  refine ks_wpAt_MethodCall (pl := pl) ?_ hev
  refine PySem.ks_wpAt_super_base (env := envF F f s0.heap.objs.size) T.ks hkc (by decide) rfl (X _ _ hf) rfl har rfl (X _ _ hc) rfl hv2 hfile T.top ?_
  refine PySem.W.ks_loadName_global T.sc.kind T.ks (Calls.loadGlobal_builtin (I.mod.glob.keeps I.bk) hmg (hb1.keeps I.bk) ((hb2 "super" (by decide)).trans PyProof.Rows.Boot.«super») ⟨rfl, ?_⟩)
  refine wpAny_loadName_free T.sc.kind hkc (by show List.lookup _ F.cl = _; rw [T.cl]; rfl) ⟨_, X _ _ hcell, rfl⟩ ?_
  rw [hname]
  refine wpAny_loadName_local T.sc.kind hself hn hms ?_
  refine ks_wpAny_isType_cls hD1 hD2 ⟨rfl, ?_⟩
  refine ks_wpAny_call_super hD1 hD2 hoe rfl (fun c h => by cases h) (PySem.W.looks_mroIn X T.mro) (fun h' hso k => ?_)
  have X' : K.In h' := X.keeps k
  have I0 : PySem.W.InstAt h' e _ C none := ⟨k _ _ hoe, rfl, rfl, trivial⟩
  have hm : PySem.W.alongIn K "__init__" ((cd.mro.dropWhile (· != .ref C)).drop 1) = some (some (.builtin bB.initId)) := by
    have h := hsup
    unfold PySem.W.ks_superIn at h
    rw [hcd] at h
    exact h
  refine PySem.W.kxs_getMethod B.kx hso (PySem.W.looks_opaque X' T.opq) (l₀ := cd.mro) (fun A Q E s k q => wpAny_bind ((PySem.W.looks_clsIn X' hcd) A _ E s k (wpAny_pure q))) rfl X' hm (I0.type.andThen (PySem.W.looks_subIn X' hsubB)) (PySem.W.ks_ne X' I0 hcd) (by decide) ?_
  have k2 : ∀ b o, hh.get? b = some o → (h'.push (PySem.W.kxs_mw bB.initId e)).get? b = some o := fun b o q => Heap.get?_push_of_some _ (k b o q)
  have hu : (h'.push (PySem.W.kxs_mw bB.initId e)).get? h'.objs.size = some (PySem.W.kxs_mw bB.initId e) := Heap.get?_push_size _ rfl
  obtain ⟨nm, q, N', bs, bm, sn, sub, ab, col, dd, k0, k1, k2', k3, k5, hC, hbm⟩ := hcb
  refine PySem.W.kxs_callWith (i := bB.initId) (x := e) (by rfl) (Calls.evalArgs_plain ?_)
  show wpAny _ _ (spliced ((false, eval (.Constant (.str z) j p3) (envF F f s0.heap.objs.size)) :: backTo p4 (starEach [] (envF F f s0.heap.objs.size)))) _ _ _
  refine Calls.spliced_cons (Calls.Constant_str (Calls.spliced_nil ⟨hu, ?_⟩))
  refine PySem.GXS.mw_call B (k2 _ _ (X _ _ hC)) (k2 _ _ hoe) hu (by show 1 ≤ sizeLine; decide) fun h3 t3 k3 he3 => ?_
  have J0 := I.kept (t' := t + 1 + 1) k2
  have J := J0.write (t' := t + 1 + 1) (x := e) (e := e) (o := exo e C none) (by rw [he]; exact True.intro) (.inl rfl) k3 ⟨_, he3⟩ (exo_ok he3)
  have eu : upd H e (exo e C none) = H := by
    funext b
    by_cases hb : b = e
    · rw [hb, upd_same, he]
    · rw [upd_ne hb]
  rw [eu] at J
  exact J
theorem sx_cells {A : Around} {outer : List Env} {s : Shared} {H : Hp} (T : SxC P K C f cc F N ps) (e0 : Env0 P w K mg base A outer s H) : CellsAt F.cl ["__class__"] [some (.ref C)] s.heap H := by
  obtain ⟨c1, c2, c3, hcell⟩ := T.cell
  have hb := e0.mod.kin _ _ hcell
  obtain ⟨h1, h2⟩ := e0.bs _ _ hb
  have look : ∀ {y : Str} {c : Addr}, F.cl.lookup y = some c → y = "__class__" ∧ c = cc := fun {y c} h => by
    rw [T.cl] at h
    rw [List.lookup_cons] at h
    split at h
    · rename_i q
      exact ⟨beq_iff_eq.mp q, (Option.some.inj h).symm⟩
    · cases h
  refine ⟨rfl, fun y c h => ?_, fun x y c h h' => (look h).1.trans (look h').1.symm, fun i y h => ?_⟩
  · obtain ⟨_, rfl⟩ := look h
    exact ⟨h2, _, _, h1, rfl⟩
  · cases i with
    | succ i => simp at h
    | zero =>
      simp only [List.getElem?_cons_zero, Option.some.injEq] at h
      subst h
      refine ⟨cc, by rw [T.cl]; rfl, fun v hv => ?_⟩
      simp only [List.getElem?_cons_zero, Option.some.injEq] at hv
      subst hv
      exact ⟨.ref C, rfl, _, h1, rfl⟩
def spSx (C : Addr) (N ps : List Str) (t : L2.TS) : Sp := fun vs H Q _ => vs.length = ps.length ∧ ∃ e ws, vs = .ref e :: ws ∧ H e = some (exo e C none) ∧ t { nx := fun _ H' => Q .non H', rt := Q } (startF N vs [some (.ref C)]) H
theorem sx_fn {p0 p1 p2 p3 p4 p5 : Pos} {z : Str} {j : Nat} {rest : List Stmt} {t : L2.TS} (T : SxC P K C f cc F N ps) (hmg : mg "super" = none) (hps : ps ≠ [])
    (hbody : F.body = .Expr (.Call (.Attribute (.Call (.Name "super" p0) [] [] p1) "__init__" p2) [.Constant (.str z) j p3] [] p4) p5 :: rest)
    (hev : ∀ L, SupEv p0 p1 p2 p3 p4 z j (envF F f L)) (hsw : ∀ L, swapsWith (.Call (.Attribute (.Call (.Name "super" p0) [] [] p1) "__init__" p2) [.Constant (.str z) j p3] [] p4) none p5.line (envF F f L) = pure false)
    (hin : ∀ L, interactive (envF F f L) = false) (hr : ∀ (A : Around) (outer : List Env) (s : Shared) (H : Hp) (E : XK), PSs (ncx (L2.CX P w) P w K mg base N F f A outer s H E) rest t) :
    ∃ fd, (∃ kV doc pm an ct, fd = PySem.W.fnX F.name F.qual F.params F.body F.scope F.cl .none kV doc pm an (.ref F.c) ct) ∧ FnOk P w K mg base (L2.CX P w) 1 f fd ps (spSx C N ps t) := by
  obtain ⟨oc, od, kV, doc, pm, an, ct, osl, hf⟩ := T.fn
  obtain ⟨o1, o2, vs', o3, t', file, tf, hc, hv1, hv2, hfile⟩ := T.code
  refine ⟨_, ⟨kV, doc, pm, an, ct, rfl⟩, fun vs H Q E h => h.1, fun A outer s H args us vs Q E hroom e0 hb r hsp => ?_⟩
  obtain ⟨hl, e, ws, ev, he, hq⟩ := hsp
  subst ev
  have X : K.In s.heap := kIn0 e0
  have lim : s.heap.NoLimit := e0.mod.nolimit.keeps fun b o e => (e0.bs b o e).1
  refine ks_codeAny_call_defAt hroom.depth (X _ _ hf) rfl lim ⟨F.c, _, vs', t', rfl, X _ _ hc, rfl, hv1⟩ rfl hb T.sc.nocell (fun ⟨n, _⟩ hy => T.sc.par n (List.of_mem_zip hy).1) (fun h₀ hns kp => ?_) T.sc.co T.sc.gen T.sc.kind
  have I : Inv (ncx (L2.CX P w) P w K mg base N F f A outer s H E) [] (startF N (.ref e :: ws) [some (.ref C)]) H { s with heap := h₀, toks := s.toks + (ps.zip us).length } := inv_startN T.sc hroom.hd e0 hl r (sx_cells T e0) hns kp
  show _root_.PySem.wpAt (model P w) (A.deeper (envF F f s.heap.objs.size)) (.func F.body (envF F f s.heap.objs.size)) (execs F.body (envF F f s.heap.objs.size)) _ _ _
  have hx := sx_super T hmg I (p0 := p0) (p1 := p1) (p2 := p2) (p3 := p3) (p4 := p4) (z := z) (j := j) rfl he (hev _)
  have go : ∀ (c : Code), _root_.PySem.wpAt (model P w) (A.deeper (envF F f s.heap.objs.size)) c (eval (.Call (.Attribute (.Call (.Name "super" p0) [] [] p1) "__init__" p2) [.Constant (.str z) j p3] [] p4) (envF F f s.heap.objs.size)) (fun _ s' => Inv (ncx (L2.CX P w) P w K mg base N F f A outer s H E) [] (startF N (.ref e :: ws) [some (.ref C)]) H s') (ncx (L2.CX P w) P w K mg base N F f A outer s H E).xe { s with heap := h₀, toks := s.toks + (ps.zip us).length } →
      _root_.PySem.wpAt (model P w) (A.deeper (envF F f s.heap.objs.size)) c (execs (.Expr (.Call (.Attribute (.Call (.Name "super" p0) [] [] p1) "__init__" p2) [.Constant (.str z) j p3] [] p4) p5 :: rest) (envF F f s.heap.objs.size))
        (fun f s' => CR (L2.CX P w) outer P w H s Q E (.ok (.ret (match f with | .ret v => v | _ => .none))) s') (ncx (L2.CX P w) P w K mg base N F f A outer s H E).xe { s with heap := h₀, toks := s.toks + (ps.zip us).length } := fun c hx => by
    refine ks_wpAt_execs_cons (ks_wpAt_Expr_any (PySem.wpAt_mono hx (fun v s' I' => ?_) fun _ _ h => h) (hin _) (hsw _))
    refine PySem.wpAt_of_wpAny (wpAny_mono ((hr A outer s H E).run [] s' _ H _ I' hq) (fun fl s2 hs => ?_) fun _ _ h => h)
    have fin : ∀ {σ' : L2.St} {H' : Hp} {v : V} {u : Value}, Inv (ncx (L2.CX P w) P w K mg base N F f A outer s H E) [] σ' H' s2 → L2.RelV v u → Q v H' → CE outer P w H s Q u s2 :=
      fun {σ' H' v u} J rv q => ⟨v, H', J.os, J.bare, J.base, J.hok, rv, q⟩
    cases fl with
    | ret u =>
      obtain ⟨v, σ', H', J, rv, q⟩ := hs
      exact fin J rv q
    | next =>
      obtain ⟨σ', H', J, q⟩ := hs
      exact fin (v := V.non) (u := Value.none) J rfl q
    | brk =>
      obtain ⟨_, _, _, q⟩ := hs
      exact False.elim q
    | cont =>
      obtain ⟨_, _, _, q⟩ := hs
      exact False.elim q
  have key := go (.func F.body (envF F f s.heap.objs.size)) hx
  rw [← hbody] at key
  exact key
end
end G
namespace G
open PySem PySem.Spec L2 NdefX
open PyProof.Rows hiding St
structure XMk (P : Program) (w : World) (K : PySem.W.Frag) (mg : Str → Option Value) (base : Heap) (x : Str) (Ca : Addr) (n : Nat) (mkV : List V → List (Str × V)) : Prop where
  nm : mg x = some (.ref Ca)
  ex : ∃ f fd ps sp, OexC K Ca ∧ PySem.W.findIn K (.ref Ca) "__init__" = some (some (.ref f)) ∧ PySem.W.typeIn K (.ref f) = some (.type "function") ∧ FnOk P w K mg base (L2.CX P w) 1 f fd ps sp ∧ L2.Binds K fd ps [] ∧
    ∀ (vs : List V) (a : Addr) (H : Hp) (Q : VK) (E : XK), vs.length = n → H a = some (exo a Ca none) → (∀ d, H d = none → d ≠ a → Q .non (upd (upd H d (exd d (mkV vs))) a (exo a Ca (some d)))) → sp (.ref a :: vs) H Q E
def FieldsOk (g : Cf) (H : Hp) (ns : List Str) (fv : List (Str × V)) (fs : List D) : Prop := ns.length = fs.length ∧ ∀ (i : Nat) (f : Str), ns[i]? = some f → ∃ v e, fv.lookup f = some v ∧ fs[i]? = some e ∧ Rp g H v e
section
variable {Z : Cx} {g B : Cf} {W : XK} {T : List Addr} {He : Hp} {e : Expr} {es : List Expr} {fs : Se (List X)} {x : Str} {p pos pos' : Pos}
end
section
variable {K : PySem.W.Frag} {C a d : Addr} {f : Str} {to te : TE} {σ : St} {H : Hp} {v : V} {D : Ends}
def RdAt (te : TE) (σ : St) (v : V) : Prop := ∀ (H : Hp) (Q : VK), Q v H → te σ H Q
theorem za0_ {i : Nat} (h : σ[i]? = some (some v)) : RdAt (tVar i) σ v := fun H Q q => ⟨v, h, q⟩
theorem rdAt_c : RdAt (tC v) σ v := fun H Q q => q
theorem sx_st1 (T : OexC K C) (hno : PySem.W.findIn K (.ref C) f = some none) (r0 : RdAt to σ (.ref a)) (r1 : RdAt te σ v) (he : H a = some (exo a C none)) (k : ∀ d, H d = none → d ≠ a → D.nx σ (upd (upd H d (exd d [(f, v)])) a (exo a C (some d)))) : tOst K f to te D σ H :=
  r1 H _ (r0 H _ ⟨a, C, rfl, T, hno, .inl ⟨he, k⟩⟩)
theorem sx_st2 {fs : List (Str × V)} (T : OexC K C) (hno : PySem.W.findIn K (.ref C) f = some none) (r0 : RdAt to σ (.ref a)) (r1 : RdAt te σ v) (ne : d ≠ a) (hl : fs.length ≤ 900) (k : D.nx σ (upd (upd H d (exd d ((f, v) :: fs))) a (exo a C (some d)))) : tOst K f to te D σ (upd (upd H d (exd d fs)) a (exo a C (some d))) :=
  r1 _ _ (r0 _ _ ⟨a, C, rfl, T, hno, .inr ⟨d, fs, upd_same, by rw [upd_ne ne, upd_same], hl, by
    have e : upd (upd (upd H d (exd d fs)) a (exo a C (some d))) d (exd d ((f, v) :: fs)) = upd (upd H d (exd d ((f, v) :: fs))) a (exo a C (some d)) := by
      funext b
      by_cases h : b = d
      · subst h; rw [upd_same, upd_ne ne, upd_same]
      · rw [upd_ne h]
        by_cases h2 : b = a
        · subst h2; rw [upd_same, upd_same]
        · rw [upd_ne h2, upd_ne h2, upd_ne h, upd_ne h]
    rw [e]
    exact k⟩⟩)
end
end G
namespace PySem.W
open PySem PySem.Spec PySem.Calls PyProof.Rows
section
variable {M : Model} {K : Frag}
end
end PySem.W
namespace G
open PySem PySem.Spec L2
open PyProof.Rows hiding St
structure ClT (X : Cx) (te : Expr) (cs : List Value) : Prop where
  run : ∀ (a : Addr) (q : List (Addr × Obj)) (pins : List (Addr × Obj)) (σ : St) (H : Hp) (s : Shared) (E : Value → Shared → Prop) (Q : Value → Shared → Prop), Inv (X.suite a q) pins σ H s →
    (∀ u h' t', (∀ b o, s.heap.get? b = some o → h'.get? b = some o) → (∀ (M : Model) (e : Addr) (cls : Value) (b : Bool), PySem.W.Looks M h' (typeOf (.ref e)) cls → PySem.W.exmAny X.K cls cs = some b → PySem.W.Looks M h' (excMatches (.ref e) u) b) → Q u { s with heap := h', toks := t' }) →
    wpAny (model X.prog X.w) (X.A.mark (some (.ref a))) (eval te X.env) Q E s
section
variable {X : Cx} {x : Str} {np : Pos} {c : Value}
inductive Nms (X : Cx) : List Expr → List Value → Prop
  | nil : Nms X [] []
  | cons {x : Str} {p : Pos} {c : Value} {es : List Expr} {cs : List Value} (hg : Gl X x) (hm : X.mg x = some c) (hd : (x == ("__debug__" : Str)) = false) (hs : starEach (.Name x p :: es) X.env = (false, eval (.Name x p) X.env) :: starEach es X.env) (r : Nms X es cs) : Nms X (.Name x p :: es) (c :: cs)
end
end G
namespace G
open PySem PySem.Spec L2
open PyProof.Rows hiding St
abbrev Clz := List Value × (Addr → Value → Option Addr → L2.TS)
inductive HdsT (X : Cx) (n : Str) : List ExceptHandler → List Clz → Prop
  | nil : HdsT X n [] []
  | cons {te : Expr} {cs : List Value} {ts : Addr → Value → Option Addr → L2.TS} {b₀ : Stmt} {suite : List Stmt} {pos' : Pos} {hds : List ExceptHandler} {l : List Clz} (hc : ClT X te cs)
      (hsu : ∀ (a : Addr) (oe : Obj) (cls : Value) (d : Option Addr) (pn : List (Addr × Obj)), Zc cls d oe → (∃ vs, oe.data = .fields vs) → PSs (X.suite a ((a, oe) :: pn)) (b₀ :: suite) (ts a cls d)) (r : HdsT X n hds l) :
      HdsT X n (.ExceptHandler (some te) (some n) (b₀ :: suite) pos' :: hds) ((cs, ts) :: l)
section
variable {X : Cx} {n : Str} {i : Nat} {body : List Stmt} {h₀ : ExceptHandler} {hds : List ExceptHandler} {l : List Clz} {pos : Pos} {tb : WX → L2.TS} {Wout : WX}
end
end G
namespace G
open PySem PySem.Spec L2 LamX
open PyProof.Rows hiding St
structure Lam where
  params : Arguments
  body : Expr
  scope : Scope
abbrev lamQ (X : Cx) : Str := X.env.qual ++ "<lambda>"
def LamO (X : Cx) (L : Lam) (f c' : Addr) : HO := .ext fun h => ∃ pm ctv, h.get? f = some (PySem.W.kla_obj "<lambda>" (lamQ X) L.params L.body L.scope (cloFrom X.env.cells L.scope.names []) pm c' ctv)
def LamOD (X : Cx) (L : Lam) (f c' T0 : Addr) : HO := .ext fun h => ∃ pm doc ctv, h.get? f = some (PySem.W.kdv_obj "<lambda>" (lamQ X) L.params (.expr L.body) L.scope (cloFrom X.env.cells L.scope.names []) (.ref T0) doc pm c' ctv)
def LamT (X : Cx) (L : Lam) (f : Addr) (H : Hp) : Prop := ∃ c', H c' = some (CodeO c' (lamQ X)) ∧ match L.params.defaults with
  | [] => H f = some (LamO X L f c')
  | _ => ∃ T0 d, H f = some (LamOD X L f c' T0) ∧ H T0 = some (.tup [.int d])
theorem LamT.mono {X : Cx} {L : Lam} {f : Addr} {H H' : Hp} (e : Same H H') (t : LamT X L f H) : LamT X L f H' := by
  obtain ⟨c', h1, h2⟩ := t
  refine ⟨c', e _ _ h1, ?_⟩
  revert h2
  cases L.params.defaults with
  | nil => exact fun h2 => e _ _ h2
  | cons x r => exact fun ⟨T0, d, h2, h3⟩ => ⟨T0, d, e _ _ h2, e _ _ h3⟩
section
variable {X : Cx} {pins : List (Addr × Obj)} {σ : L2.St} {H : Hp} {s : Shared}
end
section
variable {X : Cx} {g : Cf} {W : XK} {T : List Addr} {He : Hp}
end
end G
namespace G
open PySem PySem.Spec L2 LamX
open PyProof.Rows hiding St
section
variable {X : Cx} {pins : List (Addr × Obj)} {σ : L2.St} {H : Hp} {s : Shared}
end
end G
namespace G
open PySem PySem.Spec L2 LamX
open PyProof.Rows hiding St
structure LamP (N : List Str) (sc scope : Scope) (pa : Str) : Prop where
  kind : scope.kind = .function
  co : scope.isCoroutine = false
  gen : scope.isGenerator = false
  cell : ∀ y ∈ scope.names, y.2 ≠ .cell
  loc : ∀ y ∈ scope.names, y.2 = .local → y.1 = pa
  par : scope.names.lookup pa = some .local
  out : pa ∉ N
  free : ∀ y ∈ scope.names, y.2 = .free → sc.names.lookup y.1 = some .cell ∨ sc.names.lookup y.1 = some .free
section
variable {X : Cx} {pins : List (Addr × Obj)} {σ : L2.St} {H HZ : Hp} {s s1 : Shared}
end
end G
namespace G
open PySem PySem.Spec L2 LamX
open PyProof.Rows hiding St
section
variable {X : Cx} {pins : List (Addr × Obj)} {σ : L2.St} {H : Hp} {s : Shared}
end
end G
namespace G
open PySem PySem.Spec L2 LamX
open PyProof.Rows hiding St
section
variable {X : Cx} {pins : List (Addr × Obj)} {σ : L2.St} {H : Hp} {s : Shared}
end
structure LamOk (X : Cx) (k : Nat) (L : Lam) (t : XK → TE) : Prop where
  sc : match L.params.defaults with
    | [] => LamS X.env.scope L.scope ∧ ∀ (q : Str) (cl : List (Str × Addr)) (pm cv ctv : Value), bindArgs (PySem.W.kla_fn "<lambda>" q L.params L.body L.scope cl pm cv ctv) ⟨[], []⟩ = pure []
    | _ => ∃ pa, LamP X.N X.env.scope L.scope pa ∧ ∀ (q : Str) (cl : List (Str × Addr)) (T0 : Addr) (doc pm cv ctv u : Value), ∃ k, bindArgs (PySem.W.kdv_fn "<lambda>" q L.params (.expr L.body) L.scope cl (.ref T0) doc pm cv ctv) ⟨[], []⟩ = seqItems? (.ref T0) >>= k ∧ k (some #[u]) = pure [(pa, u)]
  body : ∀ (A : Around) (outer : List Env) (s : Shared) (H : Hp) (E : XK) (f c' : Addr), Room k (A.deeper (lamEnv X L.scope s.heap.objs.size f c')) → PE (lamCx X A outer s H E L.scope f c') L.body (t E)
section
variable {X : Cx}
end
end G
namespace G
open PySem PySem.Spec L2 LamX
open PyProof.Rows hiding St
inductive HV where
  | non | fld (f : Str) | tup (a b : HV)
inductive HvE (n : Str) : Expr → HV → Prop
  | non {j p} : HvE n (.Constant .none j p) .non
  | fld {p p' f} : HvE n (.Attribute (.Name n p) f p') (.fld f)
  | tup {e1 e2 h1 h2 k p} : HvE n e1 h1 → HvE n e2 h2 → HvE n (.Tuple [e1, e2] k p) (.tup h1 h2)
def tXfE (K : PySem.W.Frag) (a : Addr) (cls : Value) (d : Option Addr) (f : Str) (te : TE) : TE := fun σ H Q => te σ H fun x H1 => x = .ref a ∧ ∃ C : Addr, cls = .ref C ∧ XfC K C ∧ PySem.W.findIn K (.ref C) f = some none ∧ ∃ (dd : Addr) (fs : List (Str × V)) (v : V), d = some dd ∧ H1 dd = some (.xd fs) ∧ fs.lookup f = some v ∧ Q v H1
theorem pe_xfE {X : Cx} {a : Addr} {oe : Obj} {cls : Value} {d : Option Addr} {pn : List (Addr × Obj)} {e : Expr} {te : TE} {pos : Pos} {n : Str} (hz : Zc cls d oe) (hf : ∃ vs, oe.data = .fields vs) (he : PE (X.suite a ((a, oe) :: pn)) e te) (hb : attributeBase e n X.env (eval e X.env) = eval e X.env := by rfl) :
    PE (X.suite a ((a, oe) :: pn)) (.Attribute e n pos) (tXfE X.K a cls d n te) := by
  refine ⟨fun pins s σ H Q I h => ?_⟩
  refine attr_of hb (thn (he.run pins s σ H _ I h) fun u s1 ⟨x, H1, I1, rx, ex, C, ec, T, hno, dd, fs, v, ed, ea, l, q⟩ => ?_)
  subst ex
  obtain rfl : u = Value.ref a := rx
  subst ec
  subst ed
  obtain ⟨ha, _⟩ := I1.pin (a, oe) (List.mem_append_left _ List.mem_cons_self)
  obtain ⟨vs, hd⟩ := hf
  obtain ⟨mA, hns, hr⟩ : ObjOk X.prog X.w H1 s1.heap dd (.xd fs) := I1.hok dd _ ea
  obtain ⟨od, ho, hl⟩ := lookIn_ns hns
  obtain ⟨u, hu, ru⟩ := RelO.some_of (v := v) (o := mA n) (by rw [← l]; exact hr n)
  have J : PySem.W.InstAt s1.heap a oe C (some od) := ⟨ha, hz.1, by unfold PySem.W.notCls; rw [hd] <;> rfl, by rw [hz.2]; exact ho⟩
  exact HandSPX.exc_get I1.kIn J T.ga T.gg T.exC (PySem.W.findObj_own T.hdC hno rfl (by rw [hl, hu])) (handed_of ru) ⟨v, H1, I1.tok _, ru, q⟩
def HV.rd (K : PySem.W.Frag) (i : Nat) (a : Addr) (cls : Value) (d : Option Addr) : HV → TE
  | .non => tC .non
  | .fld f => tXfE K a cls d f (tVar i)
  | .tup x y => tTup (tCons (x.rd K i a cls d) (tCons (y.rd K i a cls d) tNil))
theorem HvE.star {n : Str} {e : Expr} {h : HV} (r : HvE n e h) (es : List Expr) (env : Env) : starEach (e :: es) env = (false, eval e env) :: starEach es env := by cases r <;> rfl
theorem HvE.pe {X : Cx} {n : Str} {i : Nat} {a : Addr} {oe : Obj} {cls : Value} {d : Option Addr} {pn : List (Addr × Obj)} (hz : Zc cls d oe) (hf : ∃ vs, oe.data = .fields vs) (hN : X.N[i]? = some n) (hv : Vis X.env.scope n) (hd : (n == ("__debug__" : Str)) = false) (hcd : (n == ("__classdict__" : Str)) = false) :
    ∀ {e : Expr} {h : HV}, HvE n e h → PE (X.suite a ((a, oe) :: pn)) e (h.rd X.K i a cls d)
  | _, _, .non => pe_non
  | _, _, .fld => pe_xfE hz hf (pe_var (X := X.suite a ((a, oe) :: pn)) hN hv hd hcd)
  | _, _, .tup r1 r2 => pe_tup (pa_cons (HvE.pe hz hf hN hv hd hcd r1) (pa_cons (HvE.pe hz hf hN hv hd hcd r2) pa_nil (r2.star _ _)) (r1.star _ _))
def HV.sem (ns : List Str) (fs : List D) : HV → Option D
  | .non => some .non
  | .fld f => (ns.zip fs).lookup f
  | .tup x y => match x.sem ns fs, y.sem ns fs with
    | some a, some b => some (.tup [a, b])
    | _, _ => none
def HV.names : HV → List Str
  | .non => []
  | .fld f => [f]
  | .tup x y => x.names ++ y.names
theorem zdk_ {f : Str} {e : D} : ∀ {ns : List Str} {fs : List D}, (ns.zip fs).lookup f = some e → ∃ i : Nat, ns[i]? = some f ∧ fs[i]? = some e
  | [], _, h => by simp at h
  | _ :: _, [], h => by simp at h
  | n :: ns, x :: fs, h => by
    rw [List.zip_cons_cons, List.lookup_cons] at h
    split at h
    · rename_i q
      cases h
      exact ⟨0, by rw [beq_iff_eq.mp q]; rfl, rfl⟩
    · obtain ⟨i, h1, h2⟩ := zdk_ h
      exact ⟨i + 1, h1, h2⟩
section
variable {g : Cf} {T : List Addr} {H0 : Hp} {C : Nat} {fs : List D} {d : Addr} {a : Addr} {i : Nat} {σ : St}
theorem HV.ok (hs : σ[i]? = some (some (.ref a))) (hx : XfC g.K (g.ae C)) (tk : ∀ a ∈ T, H0 a ≠ none) : ∀ {h : HV} {dd : D} {H : Hp} {Q : VK}, Same H0 H → XdOk g T H d C fs → (∀ f ∈ h.names, PySem.W.findIn g.K (.ref (g.ae C)) f = some none) → h.sem (g.xn C) fs = some dd →
    (∀ v H', Same H H' → Rp g (off H' T) v dd → Q v H') → h.rd g.K i a (.ref (g.ae C)) (some d) σ H Q
  | .non, dd, H, Q, sm, xd, hn, e, q => by
    cases e
    exact q _ _ (Same.refl _) .non
  | .fld f, dd, H, Q, sm, xd, hn, e, q => by
    obtain ⟨k, h1, h2⟩ := zdk_ e
    obtain ⟨fv, x1, x2, x3⟩ := xd
    obtain ⟨v, e', y1, y2, y3⟩ := x3 k f h1
    rw [h2] at y2
    cases y2
    exact ⟨.ref a, hs, rfl, g.ae C, rfl, hx, hn f (List.mem_singleton.mpr rfl), d, fv, v, rfl, x1, y1, q v H (Same.refl _) y3⟩
  | .tup x y, dd, H, Q, sm, xd, hn, e, q => by
    simp only [HV.sem] at e
    cases e1 : x.sem (g.xn C) fs with
    | none => rw [e1] at e; cases e
    | some d1 =>
      cases e2 : y.sem (g.xn C) fs with
      | none => rw [e1, e2] at e; cases e
      | some d2 =>
        rw [e1, e2] at e
        cases e
        refine HV.ok (h := x) hs hx tk sm xd (fun f hf => hn f (show f ∈ x.names ++ y.names from List.mem_append_left _ hf)) e1 fun v1 H1 s1 r1 => ?_
        have xd1 : XdOk g T H1 d C fs := by
          obtain ⟨fv, x1, x2, x3⟩ := xd
          refine ⟨fv, s1 _ _ x1, x2, fun k f hk => ?_⟩
          obtain ⟨v, e, y1, y2, y3⟩ := x3 k f hk
          exact ⟨v, e, y1, y2, y3.mono (s1.offT T) _⟩
        refine HV.ok (h := y) hs hx tk (sm.trans s1) xd1 (fun f hf => hn f (show f ∈ x.names ++ y.names from List.mem_append_right _ hf)) e2 fun v2 H2 s2 r2 => ?_
        refine ⟨by show 2 ≤ sizeLine; decide, fun p hp => ?_⟩
        have s3 : Same H2 (upd H2 p (.tup [v1, v2])) := Same.newT hp
        by_cases hpT : p ∈ T
        · obtain ⟨u, hu⟩ := Option.ne_none_iff_exists'.mp (tk p hpT)
          rw [(sm.trans s1).trans s2 p u hu] at hp
          cases hp
        · exact q _ _ ((s1.trans s2).trans s3) (.tup (SqT.of (by rw [za4_ hpT]; exact upd_same)) (.cons (r1.mono ((s2.trans s3).offT T) _) (.cons (r2.mono (s3.offT T) _) .nil)))
end
end G
namespace G
open PySem PySem.Spec L2 LamX
open PyProof.Rows hiding St
abbrev HvL := List (List Value × HV)
def Pick (K : PySem.W.Frag) (cls : Value) : HvL → HV → Prop
  | [], _ => False
  | (cs, h) :: r, hv => (PySem.W.exmAny K cls cs = some true ∧ h = hv) ∨ (PySem.W.exmAny K cls cs = some false ∧ Pick K cls r hv)
inductive HvH (X : Cx) (n : Str) : List ExceptHandler → HvL → Prop
  | nil : HvH X n [] []
  | cons {te : Expr} {cs : List Value} {e : Expr} {hv : HV} {p pos' : Pos} {hds : List ExceptHandler} {l : HvL} (hc : ClT X te cs) (he : HvE n e hv) (r : HvH X n hds l) : HvH X n (.ExceptHandler (some te) (some n) [.Return (some e) p] pos' :: hds) ((cs, hv) :: l)
def clzOf (K : PySem.W.Frag) (i : Nat) : HvL → List Clz
  | [] => []
  | (cs, hv) :: r => (cs, fun a cls d => tRet (hv.rd K i a cls d)) :: clzOf K i r
theorem HvH.hds {X : Cx} {n : Str} {i : Nat} (hN : X.N[i]? = some n) (hv : Vis X.env.scope n) (hd : (n == ("__debug__" : Str)) = false) (hcd : (n == ("__classdict__" : Str)) = false) : ∀ {hds : List ExceptHandler} {l : HvL}, HvH X n hds l → HdsT X n hds (clzOf X.K i l)
  | _, _, .nil => .nil
  | _, _, .cons hc he r => .cons hc (fun a oe cls d pn hz hf => pss_one (ps_ret (he.pe hz hf hN hv hd hcd))) (HvH.hds hN hv hd hcd r)
def X.mk (tt : Bool) (d : D) : X := if tt then .t d else .p d
structure HndOk (K : PySem.W.Frag) (g : Cf) (l : HvL) (hv : Nat → Option HV) : Prop where
  ok : ∀ C h, hv C = some h → Pick K (.ref (g.ae C)) l h ∧ XfC K (g.ae C) ∧ ∀ f ∈ h.names, PySem.W.findIn K (.ref (g.ae C)) f = some none
section
variable {g : Cf} {W : XK} {T S : List Addr} {He H : Hp} {Γ : List Sl} {σ : St}
variable {X : Cx}
end
end G
namespace G
open PySem PySem.Spec L2 NdefX
open PyProof.Rows hiding St
abbrev supS (p0 p1 p2 p3 p4 p5 : Pos) (z : Str) (j : Nat) : Stmt := .Expr (.Call (.Attribute (.Call (.Name "super" p0) [] [] p1) "__init__" p2) [.Constant (.str z) j p3] [] p4) p5
abbrev stN (p : Str) (q0 q1 q2 q3 : Pos) : Stmt := .Assign [.Attribute (.Name "self" q0) p q1] (.Name p q2) q3
abbrev stC (code : Str) (j : Nat) (q0 q1 q2 q3 : Pos) : Stmt := .Assign [.Attribute (.Name "self" q0) "code" q1] (.Constant (.str code) j q2) q3
section
variable {P : Program} {w : World} {K : PySem.W.Frag} {mg : Str → Option Value} {base : Heap} {C f cc : Addr} {F : NF} {x p q z code : Str} {j j' : Nat} {p0 p1 p2 p3 p4 p5 a0 a1 a2 a3 b0 b1 b2 b3 c0 c1 c2 c3 : Pos}
theorem xmk1 (T : SxC P K C f cc F ["self", p, "__class__"] ["self", p]) (hm : mg x = some (.ref C)) (hmg : mg "super" = none) (hbody : F.body = [supS p0 p1 p2 p3 p4 p5 z j, stN p a0 a1 a2 a3, stC code j' c0 c1 c2 c3])
    (hev : ∀ L, SupEv p0 p1 p2 p3 p4 z j (envF F f L)) (hd : (p == ("__debug__" : Str)) = false) (hcd : (p == ("__classdict__" : Str)) = false) (n1 : PySem.W.findIn K (.ref C) p = some none) (n2 : PySem.W.findIn K (.ref C) "code" = some none)
    (hb : ∀ kV doc pm an ct, L2.Binds K (PySem.W.fnX F.name F.qual F.params F.body F.scope F.cl .none kV doc pm an (.ref F.c) ct) ["self", p] []) : XMk P w K mg base x C 1 fun vs => [("code", .str code), (p, vs.headD .non)] := by
  have v0 : Vis F.scope "self" := .inl (T.sc.par _ (by simp))
  have v1 : Vis F.scope p := .inl (T.sc.par _ (by simp))
  obtain ⟨fd, ⟨kV, doc, pm, an, ct, rfl⟩, FO⟩ := sx_fn (w := w) (mg := mg) (base := base) (t := tSeq (tOst K p (tVar 0) (tVar 1)) (tOst K "code" (tVar 0) (tC (.str code)))) T hmg (by simp) hbody hev (fun L => rfl) (fun L => by simp [interactive, T.sc.kind]) (fun A outer s H E =>
    pss_cons (zcC_ (pe_var (x := "self") (i := 0) rfl v0) (pe_var (i := 1) rfl v1 hd hcd)) (pss_one (zcC_ (f := "code") (pe_var (x := "self") (i := 0) rfl v0) (pe_str (x := code) (j := j')))))
  refine ⟨hm, f, _, _, _, T.ox, T.ini, T.ity, FO, hb _ _ _ _ _, fun vs a H Q E hl ha k => ?_⟩
  obtain ⟨v, rfl⟩ : ∃ v, vs = [v] := by
    match vs, hl with
    | [v], _ => exact ⟨v, rfl⟩
  refine ⟨rfl, a, [v], rfl, ha, ?_⟩
  refine sx_st1 T.ox n1 (za0_ rfl) (za0_ rfl) ha fun d hd ne => ?_
  exact sx_st2 T.ox n2 (za0_ rfl) rdAt_c ne (by simp) (k d hd ne)
theorem xmk2 (T : SxC P K C f cc F ["self", p, q, "__class__"] ["self", p, q]) (hm : mg x = some (.ref C)) (hmg : mg "super" = none) (hbody : F.body = [supS p0 p1 p2 p3 p4 p5 z j, stN p a0 a1 a2 a3, stN q b0 b1 b2 b3, stC code j' c0 c1 c2 c3])
    (hev : ∀ L, SupEv p0 p1 p2 p3 p4 z j (envF F f L)) (hd : (p == ("__debug__" : Str)) = false) (hcd : (p == ("__classdict__" : Str)) = false) (hd' : (q == ("__debug__" : Str)) = false) (hcd' : (q == ("__classdict__" : Str)) = false)
    (n1 : PySem.W.findIn K (.ref C) p = some none) (n3 : PySem.W.findIn K (.ref C) q = some none) (n2 : PySem.W.findIn K (.ref C) "code" = some none)
    (hb : ∀ kV doc pm an ct, L2.Binds K (PySem.W.fnX F.name F.qual F.params F.body F.scope F.cl .none kV doc pm an (.ref F.c) ct) ["self", p, q] []) : XMk P w K mg base x C 2 fun vs => [("code", .str code), (q, (vs.drop 1).headD .non), (p, vs.headD .non)] := by
  have v0 : Vis F.scope "self" := .inl (T.sc.par _ (by simp))
  have v1 : Vis F.scope p := .inl (T.sc.par _ (by simp))
  have v2 : Vis F.scope q := .inl (T.sc.par _ (by simp))
  obtain ⟨fd, ⟨kV, doc, pm, an, ct, rfl⟩, FO⟩ := sx_fn (w := w) (mg := mg) (base := base) (t := tSeq (tOst K p (tVar 0) (tVar 1)) (tSeq (tOst K q (tVar 0) (tVar 2)) (tOst K "code" (tVar 0) (tC (.str code))))) T hmg (by simp) hbody hev (fun L => rfl) (fun L => by simp [interactive, T.sc.kind]) (fun A outer s H E =>
    pss_cons (zcC_ (pe_var (x := "self") (i := 0) rfl v0) (pe_var (i := 1) rfl v1 hd hcd)) (pss_cons (zcC_ (pe_var (x := "self") (i := 0) rfl v0) (pe_var (i := 2) rfl v2 hd' hcd')) (pss_one (zcC_ (f := "code") (pe_var (x := "self") (i := 0) rfl v0) (pe_str (x := code) (j := j'))))))
  refine ⟨hm, f, _, _, _, T.ox, T.ini, T.ity, FO, hb _ _ _ _ _, fun vs a H Q E hl ha k => ?_⟩
  obtain ⟨v, u, rfl⟩ : ∃ v u, vs = [v, u] := by
    match vs, hl with
    | [v, u], _ => exact ⟨v, u, rfl⟩
  refine ⟨rfl, a, [v, u], rfl, ha, ?_⟩
  refine sx_st1 T.ox n1 (za0_ rfl) (za0_ rfl) ha fun d hd ne => ?_
  refine sx_st2 T.ox n3 (za0_ rfl) (za0_ rfl) ne (by simp) ?_
  exact sx_st2 T.ox n2 (za0_ rfl) rdAt_c ne (by simp) (k d hd ne)
end
end G
namespace G
open PySem PySem.Spec L2 LamX
open PyProof.Rows hiding St
section
variable {K : PySem.W.Frag} {cls : Value} {C : Addr} {b b' : Bool} {cs : List Value} {c : Value}
end
theorem rel1 {g : Cf} {p code : Str} (hp : (p == ("code" : Str)) = false) (hc : PyData.strOk code = true) : ∀ (H : Hp) (vs : List V) (ds : List D), RpA g H vs ds → ds.length = 1 → FieldsOk g H [p, "code"] [("code", .str code), (p, vs.headD .non)] [ds.headD .non, .str code] := fun H vs ds r hl => by
  cases r with
  | nil => cases hl
  | @cons v d vs ds h t =>
    refine ⟨rfl, fun i f hf => ?_⟩
    match i, hf with
    | 0, hf => cases hf; exact ⟨v, d, by rw [List.lookup_cons, hp, List.lookup_cons_self]; rfl, rfl, h⟩
    | 1, hf => cases hf; exact ⟨.str code, .str code, by rw [List.lookup_cons_self], rfl, .str _ hc⟩
theorem rel2 {g : Cf} {p q code : Str} (hp : (p == ("code" : Str)) = false) (hq : (q == ("code" : Str)) = false) (hpq : (p == q) = false) (hc : PyData.strOk code = true) : ∀ (H : Hp) (vs : List V) (ds : List D), RpA g H vs ds → ds.length = 2 →
    FieldsOk g H [p, q, "code"] [("code", .str code), (q, (vs.drop 1).headD .non), (p, vs.headD .non)] [ds.headD .non, (ds.drop 1).headD .non, .str code] := fun H vs ds r hl => by
  match r, hl with
  | @RpA.cons _ _ v d _ _ h (@RpA.cons _ _ v2 d2 _ _ h2 .nil), _ =>
    refine ⟨rfl, fun i f hf => ?_⟩
    match i, hf with
    | 0, hf => cases hf; exact ⟨v, d, by rw [List.lookup_cons, hp, List.lookup_cons, hpq, List.lookup_cons_self]; rfl, rfl, h⟩
    | 1, hf => cases hf; exact ⟨v2, d2, by rw [List.lookup_cons, hq, List.lookup_cons_self]; rfl, rfl, h2⟩
    | 2, hf => cases hf; exact ⟨.str code, .str code, by rw [List.lookup_cons_self], rfl, .str _ hc⟩
abbrev LamL := Nat → Option (Lam × Bool × Se X)
structure LawFd (X : Cx) (g : Cf) (T : List Addr) (ls : LamL) : Prop where
  tab : ∃ cA PA, TabB X.base X.mg cA PA ∧ X.env.code = .ref cA ∧ (PA, lamQ X) ∈ g.fd.tb ∧ ∀ p ∈ g.fd.tb, p.1 = PA → p.2 = lamQ X
  mv : ∀ a ∈ T, g.fd.mv a
  lm : ∀ j L tt te, ls j = some (L, tt, te) → ∀ f H, g.fd.lm j f H ↔ LamT X L f H
section
variable {X : Cx} {g : Cf} {W : XK} {T : List Addr} {He : Hp}
end
end G
namespace G
open PySem PySem.Spec PySem.Calls L2 LamX
open PyProof.Rows hiding St
section
variable {g : Cf} {W : XK} {T S : List Addr} {He H : Hp} {Γ : List Sl} {σ : St} {X : Cx}
end
end G
namespace G
open PySem PySem.Spec PySem.Calls L2 LamX
open PyProof.Rows hiding St
section
variable {g : Cf} {W : XK} {T : List Addr} {He : Hp} {X : Cx}
end
end G
namespace G
open PySem PySem.Spec L2
open PyProof.Rows hiding St
def mulD : D → D → M R
  | .int i, .int j => if -(2 ^ 64) < i ∧ i < 2 ^ 64 then .ret (.at (.int (i * j))) else .fail
  | .lst a, .int k => if k ≤ 1000 ∧ -1000 ≤ k then lim (a.length * k.toNat) (.ret (.nw (.l (List.replicate k.toNat a).flatten))) else .fail
  | .tup a, .int k => if 2 ≤ k ∧ k ≤ 1000 ∧ a.length ≤ 1000 ∧ a ≠ [] then .ret (.dt (.tup (List.replicate k.toNat a).flatten)) else .fail
  | _, _ => .fail
section
variable {Z : Cx} {g : Cf} {H : Hp}
theorem RpA.rep {vs : List V} {ds : List D} (r : RpA g H vs ds) : ∀ n, RpA g H (List.replicate n vs).flatten (List.replicate n ds).flatten
  | 0 => .nil
  | n + 1 => by
    simp only [List.replicate_succ, List.flatten_cons]
    exact r.append (RpA.rep r n)
def rMul (K : PySem.W.Frag) : R2 := fun x y H Q => rI CMul (fun i j => .int (i * j)) x y H Q ∨ rRep x y H Q ∨ rRepT K x y H Q
theorem op_Mul : OpR Z (binaryOp .Mult) (rMul Z.K) := OpR.or op_mul (OpR.or op_rep op_repT)
theorem pr_mul : Pr2 g (rMul g.K) mulD := fun T H v1 v2 d1 d2 Q f r1 r2 _ w => by
  cases d1 <;> cases d2 <;> first | exact w.elim | skip
  · dsimp only [mulD] at w
    split at w
    · rename_i h
      exact .inl ⟨_, _, r1.int, r2.int, .inl h, w _ H f.refl (.int _)⟩
    · exact w.elim
  · dsimp only [mulD] at w
    split at w
    · rename_i h
      obtain ⟨hl, w⟩ := lim_wp w
      obtain ⟨a, vs, rfl, h1, q1⟩ := r1.lst
      exact .inr (.inl ⟨_, _, _, rfl, r2.int, h1, by omega, by omega, big (by rw [q1.length]; exact hl), fun p hp => w _ _ (f.new hp) (new_lst f hp (q1.rep _))⟩)
    · exact w.elim
  · dsimp only [mulD] at w
    split at w
    · rename_i h
      obtain ⟨a, vs, rfl, h1, q1, z1⟩ := r1.tup
      exact .inr (.inr ⟨_, _, _, rfl, r2.int, h1, fun e => h.2.2.2 (by have := q1.length; rw [e] at this; exact List.eq_nil_of_length_eq_zero this.symm), h.1, h.2.1, by rw [q1.length]; exact h.2.2.1, fun p hp => w _ _ (f.new hp) (zc9_ f hp (q1.rep _))⟩)
    · exact w.elim
end
end G
namespace G
open PySem PySem.Spec L2
open PyProof.Rows hiding St
structure SdOk (P : Program) (w : World) (K : PySem.W.Frag) (dx : Dx) : Prop where
  hk : dx.hk = (nestedKind P w).hash
  sd : ∀ a kvs, (a, kvs) ∈ dx.sd → (a == sysModules) = false ∧ ∃ o vs, K.lookup a = some o ∧ KV kvs vs ∧ ∀ h : Heap, h.get? a = some o → h.DictOf (mixKind P w) a vs
section
variable {Z : Cx} {g : Cf} {dx : Dx} {pins : List (Addr × Obj)} {σ : St} {H : Hp} {s : Shared} {a : Addr}
end
section
variable {Z : Cx} {g : Cf}
theorem Rp1.dk {T : List Addr} {H : Hp} {v : V} {ks : List Key} {ds : List D} (r : Rp1 g T H v (.dk ks ds)) : Rp g (off H T) v (.dk ks ds) := by
  cases r with
  | of r => exact r
theorem Rp1.dn {T : List Addr} {H : Hp} {v : V} {ks ds : List D} (r : Rp1 g T H v (.dn ks ds)) : Rp g (off H T) v (.dn ks ds) := by
  cases r with
  | of r => exact r
theorem DkAt.on {dx : Dx} {H : Hp} {T : List Addr} {a : Addr} {kvs : List (Key × V)} (h : DkAt dx (off H T) a kvs) : DkAt dx H a kvs := h.imp (fun ⟨o, e⟩ => ⟨o, zaD_ H T _ _ e⟩) id
theorem DnAt.on {dx : Dx} {H : Hp} {T : List Addr} {a : Addr} {xs : List (NestedKey × Addr)} {vs : List V} (h : DnAt dx (off H T) xs vs a) : DnAt dx H xs vs a := let ⟨o, e⟩ := h; ⟨o, zaD_ H T _ _ e⟩
end
end G
namespace G
open PySem PySem.Spec L2
open PyProof.Rows hiding St
def CFree (L : Addr) (Γ : List Sl) (σ : St) : Prop := ∀ (j : Nat) (o : O), Γ[j]? = some (.c o) → σ[j]? ≠ some (some (.ref L))
theorem CFree.set_no {L : Addr} {Γ : List Sl} {σ : St} {i : Nat} {s : Sl} {x : Option V} (hs : ∀ o, s ≠ .c o) (h : CFree L Γ σ) : CFree L (Γ.set i s) (σ.set i x) := fun j o e => by
  by_cases q : i = j
  · subst q
    have hi : i < Γ.length := by
      have := (List.getElem?_eq_some_iff.mp e).1
      simpa using this
    rw [List.getElem?_set_self hi] at e
    exact absurd (Option.some.inj e) (hs o)
  · rw [List.getElem?_set_ne q] at e ⊢
    exact h j o e
theorem CFree.wipe {L : Addr} {Γ : List Sl} {σ : St} (h : CFree L Γ σ) : ∀ vs : List Nat, CFree L (wipeG Γ vs) (L2.wipe σ vs)
  | [] => h
  | v :: vs => (h.wipe vs).set_no fun _ z => by cases z
theorem CFree.setAll {L : Addr} : ∀ {as : List (Nat × D)} {ws : List (Nat × V)} {Γ : List Sl} {σ : St}, ws.map Prod.fst = as.map Prod.fst → CFree L Γ σ → CFree L (setG Γ as) (setS σ ws)
  | [], [], _, _, _, h => h
  | [], _ :: _, _, _, e, _ => by simp at e
  | _ :: _, [], _, _, e, _ => by simp at e
  | (i, d) :: as, (j, v) :: ws, Γ, σ, e, h => by
    simp only [List.map_cons, List.cons.injEq] at e
    obtain ⟨rfl, e⟩ := e
    exact CFree.setAll (Γ := Γ.set j (.v d)) (σ := σ.set j (some v)) e (h.set_no fun _ z => by cases z)
section
variable {Z : Cx} {g : Cf} {W : XK} {T : List Addr} {He : Hp}
end
end G
namespace G
open PySem PySem.Spec L2
open PyProof.Rows hiding St
section
variable {Z : Cx} {g : Cf} {W : XK} {T : List Addr} {He : Hp} {pos : Pos} {tg tg1 : Expr}
end
end G
namespace G
open PySem PySem.Spec L2
open PyProof.Rows hiding St
def FxD (K : PySem.W.Frag) (H : Hp) (a : Addr) (o : Obj) : Prop := (∃ u, H a = some (.frz o u)) ∨ K.lookup a = some o
section
variable {X : Cx} {pins : List (Addr × Obj)} {σ : St} {H : Hp} {s : Shared} {a : Addr} {o : Obj}
theorem FxD.get (I : Inv X pins σ H s) (h : FxD X.K H a o) : s.heap.get? a = some o := by
  rcases h with ⟨u, h⟩ | h
  · exact (show ObjOk X.prog X.w H s.heap a (.frz o u) from I.hok a _ h).1
  · exact I.kIn _ _ h
end
section
variable {Z : Cx} {g : Cf} {W : XK} {T : List Addr} {He : Hp} {a b c : Expr} {f1 f2 f3 : Se X} {fs : Se (List X)} {pos p2 : Pos} {tg : Expr}
end
end G
namespace G
open PySem PySem.Spec L2
open PyProof.Rows hiding St
section
variable {Z : Cx} {g B : Cf} {W : XK} {T : List Addr} {He : Hp} {a b c : Expr} {f1 f2 f3 : Se X} {fs : Se (List X)} {pos p2 : Pos}
theorem SameB.so {P : Program} {w : World} {K : PySem.W.Frag} (h : SameB g B) (so : SdOk P w K B.dx) : SdOk P w K g.dx := h.dx.symm ▸ so
end
end G
namespace G
open PySem PySem.Spec L2
open PyProof.Rows hiding St
section
variable {X : Cx}
end
end G
namespace G
open PySem PySem.Spec L2
open PyProof.Rows hiding St
section
variable {Z : Cx} {g : Cf} {W : XK} {T : List Addr} {He : Hp} {pins : List (Addr × Obj)} {σ : St} {H : Hp} {s : Shared} {a : Addr}
end
section
variable {Z : Cx} {g : Cf} {W : XK} {T : List Addr} {He : Hp} {pos : Pos} {tg : Expr}
def hN : Nat → Heap
  | 0 => {}
  | n + 1 => (hN n).push { cls := .none, data := .fields #[] }
end
end G
namespace G
open PySem PySem.Spec L2
open PyProof.Rows hiding St
section
variable {Z : Cx} {g : Cf} {W : XK} {T : List Addr} {He : Hp} {pos : Pos} {tg : Expr}
end
end G
namespace G
open PySem PySem.Spec L2
open PyProof.Rows hiding St
section
variable {Z : Cx} {g : Cf} {W : XK} {T : List Addr} {He : Hp} {pos p2 : Pos} {f1 : Se X} {fs : Se (List X)} {tg : Expr}
end
end G
namespace G
open PySem PySem.Spec L2 NdefX
open PyProof.Rows hiding St
section
variable {X : Cx} {x : Str} {p pos : Pos}
end
section
variable {Z : Cx} {g B : Cf} {W : XK} {T : List Addr} {He : Hp} {x : Str} {p pos pos' : Pos}
end
section
variable {P : Program} {w : World} {K : PySem.W.Frag} {mg : Str → Option Value} {base : Heap} {C f cc : Addr} {F : NF} {x z code : Str} {j j' : Nat} {p0 p1 p2 p3 p4 p5 c0 c1 c2 c3 : Pos}
theorem xmk0 (T : SxC P K C f cc F ["self", "__class__"] ["self"]) (hm : mg x = some (.ref C)) (hmg : mg "super" = none) (hbody : F.body = [supS p0 p1 p2 p3 p4 p5 z j, stC code j' c0 c1 c2 c3])
    (hev : ∀ L, SupEv p0 p1 p2 p3 p4 z j (envF F f L)) (n2 : PySem.W.findIn K (.ref C) "code" = some none)
    (hb : ∀ kV doc pm an ct, L2.Binds K (PySem.W.fnX F.name F.qual F.params F.body F.scope F.cl .none kV doc pm an (.ref F.c) ct) ["self"] []) : XMk P w K mg base x C 0 fun _ => [("code", .str code)] := by
  have v0 : Vis F.scope "self" := .inl (T.sc.par _ (by simp))
  obtain ⟨fd, ⟨kV, doc, pm, an, ct, rfl⟩, FO⟩ := sx_fn (w := w) (mg := mg) (base := base) (t := tOst K "code" (tVar 0) (tC (.str code))) T hmg (by simp) hbody hev (fun L => rfl) (fun L => by simp [interactive, T.sc.kind]) (fun A outer s H E =>
    pss_one (zcC_ (f := "code") (pe_var (x := "self") (i := 0) rfl v0) (pe_str (x := code) (j := j'))))
  refine ⟨hm, f, _, _, _, T.ox, T.ini, T.ity, FO, hb _ _ _ _ _, fun vs a H Q E hl ha k => ?_⟩
  cases vs with
  | cons _ _ => cases hl
  | nil =>
    refine ⟨rfl, a, [], rfl, ha, ?_⟩
    exact sx_st1 T.ox n2 (za0_ rfl) rdAt_c ha fun d hd ne => k d hd ne
end
theorem rel0 {g : Cf} {code : Str} (hc : PyData.strOk code = true) : ∀ (H : Hp) (vs : List V) (ds : List D), RpA g H vs ds → ds.length = 0 → FieldsOk g H ["code"] [("code", .str code)] [.str code] := fun H vs ds r hl =>
  ⟨rfl, fun i f hf => match i, hf with
    | 0, hf => by cases hf; exact ⟨.str code, .str code, by rw [List.lookup_cons_self], rfl, .str _ hc⟩⟩
end G
namespace G
open PySem PySem.Spec L2
open PyProof.Rows hiding St
section
variable {X : Cx}
end
section
variable {Z : Cx} {g : Cf} {W : XK} {T : List Addr} {He : Hp} {pos : Pos} {tg : Expr}
end
end G
namespace G
open PySem PySem.Spec L2
open PyProof.Rows hiding St
section
variable {Z : Cx} {g : Cf}
end
end G
namespace G
open PySem PySem.Spec L2
open PyProof.Rows hiding St
section
variable {Z : Cx} {g : Cf}
end
end G
namespace G
open PySem PySem.Spec L2
open PyProof.Rows hiding St
section
variable {Z : Cx} {g : Cf} {W : XK} {T : List Addr} {He : Hp} {f1 : Se X} {pos : Pos}
end
end G
namespace G
open PySem PySem.Spec L2
open PyProof.Rows hiding St
structure StatOf (K : PySem.W.Frag) (C : Addr) (m : Str) (f : Addr) : Prop where
  cr : ClX.CRead K C (.type "type")
  ex : ∃ p, PySem.W.findCls K (.ref C) (.type "type") m = some (.get (.builtin "staticmethod.__get__") (.ref p) .none (.ref C)) ∧ ∃ more, PySem.W.recIn K p "staticmethod" = some (.ref f :: more)
  kp : PySem.W.keepIn K (.ref f) = true
section
variable {X : Cx} {CX : CXT} {k : Nat} {ks : List Str} {sp : Sp2} {E : XK} {x m : Str} {p pos apos : Pos} {e : Expr} {es : List Expr} {kws : List Keyword} {t tk : TA} {C f : Addr} {pl : Sem Bool}
end
section
variable {Z : Cx} {g B : Cf} {W : XK} {T : List Addr} {He : Hp} {fs gs : Se (List X)} {x m : Str} {p pos apos : Pos} {e : Expr} {es : List Expr} {kws : List Keyword} {ks : List Str} {C f : Addr} {pl : Sem Bool}
end
end G
namespace G
open PySem PySem.Spec L2
open PyProof.Rows hiding St
namespace Icl
open PySem.Calls
section
variable {M : Model} {A : Around} {E : Value → Shared → Prop} {s : Shared} {pos : Pos} {x : Addr} {Q : Value → Shared → Prop}
end
end Icl
section
variable {X : Cx} {CX : CXT} {k : Nat} {E : XK} {x : Str} {p pos : Pos} {e : Expr} {es : List Expr} {ta : TE} {t : TA}
end
section
variable {Z : Cx} {g B : Cf} {W : XK} {T : List Addr} {He : Hp} {f1 : Se X} {fs : Se (List X)} {x : Str} {p pos : Pos} {e : Expr} {es : List Expr}
end
end G
namespace G
open PySem PySem.Spec L2
open PyProof.Rows hiding St
structure PrC (P : Program) (w : World) (K : PySem.W.Frag) (mg : Str → Option Value) (base : Heap) (CX : CXT) (k : Nat) (C : Addr) (f : Str) (sp : Sp2) : Prop where
  ex : ∃ p q, PropOf K C f p q ∧ FnA P w K mg base CX k q [] sp
  cl : Cls K C
section
variable {X : Cx} {k : Nat} {f : Str} {e : Expr} {pos : Pos} {ta : TE}
end
structure PrOk (P : Program) (w : World) (K : PySem.W.Frag) (mg : Str → Option Value) (base : Heap) (B : Cf) (n : Nat) (m : Str) (sem : MSem) : Prop where
  ok : ∀ C f, sem C = some f → PrC P w K mg base (L2.CX P w) n (B.ad C) m (spC B f)
section
variable {Z : Cx} {g B : Cf} {W : XK} {T : List Addr} {He : Hp} {f1 : Se X} {e : Expr} {pos : Pos}
end
end G
namespace G
open PySem PySem.Spec L2
open PyProof.Rows hiding St
section
variable {Z : Cx} {g : Cf} {W : XK} {T : List Addr} {He : Hp} {x : Str} {pos : Pos} {d : D}
end
end G
namespace G
open PySem PySem.Spec L2
open PyProof.Rows hiding St
instance keyDec : DecidableEq Key := inferInstanceAs (DecidableEq (Int ⊕ Str))
instance keyMem (k : Key) (xs : List Key) : Decidable (k ∈ xs) := decidable_of_iff ((xs.any fun j => decide (j = k)) = true) (by simp)
def kOf : Value → Option Key
  | .int i _ => some (.inl i)
  | .str x _ => some (.inr x)
  | _ => none
def SGood (P : Program) (w : World) (e : Int × Value) : Prop := ∃ k, RelV (kV k) e.2 ∧ e.1 = (mixKind P w).hash k
abbrev ksOf (l : List (Int × Value)) : List (Option Key) := l.map fun e => kOf e.2
def ordOk (w : World) (t : SetTable) : Prop := w.params.followText "set-order" = true ∨ t.led = true
def SetX (P : Program) (w : World) (h : Heap) (a : Addr) (xs : List Key) : Prop := ∃ o es ep t, h.get? a = some o ∧ o.ExactSet ∧ o.data = .set es ep t ∧ (∀ e ∈ es.toList, SGood P w e) ∧ (ksOf es.toList).Perm (xs.map some) ∧ xs.Nodup ∧
  es.size < scanBound ∧ t.fits es.size = true ∧ Ris t.place.toList ∧ ordOk w t
section
variable {P : Program} {w : World} {h h' : Heap} {a : Addr} {xs : List Key} {l : List (Int × Value)}
theorem SetX.at_ (R : SetX P w h a xs) (k : ∀ o, h.get? a = some o → h'.get? a = some o) : SetX P w h' a xs := by
  obtain ⟨o, es, ep, t, ho, r⟩ := R
  exact ⟨o, es, ep, t, k o ho, r⟩
theorem SetX.size {o : Obj} {es : Array (Int × Value)} (p : (ksOf es.toList).Perm (xs.map some)) : es.size = xs.length := by
  have := p.length_eq
  rw [List.length_map, List.length_map, Array.length_toList] at this
  exact this
end
section
variable {P : Program} {w : World} {A : Around} {E : Value → Shared → Prop} {s : Shared} {a : Addr} {xs : List Key} {k : Key} {u : Value}
end
end G
namespace G
open PySem PySem.Spec L2
open PyProof.Rows hiding St
section
variable {P : Program} {w : World} {A : Around} {E : Value → Shared → Prop} {s : Shared}
end
end G
namespace G
open PySem PySem.Spec L2
open PyProof.Rows hiding St
section
variable {P : Program} {w : World} {A : Around} {E : Value → Shared → Prop} {s : Shared} {a : Addr}
end
section
variable {X : Cx}
end
end G
namespace G
open PySem PySem.Spec L2
open PyProof.Rows hiding St
theorem RpR.from {g : Cf} {T : List Addr} {H H1 H2 : Hp} {v : V} {o : O} (h : ∀ q, H1 q = none → H q = none) (r : RpR g T H1 H2 v (.nw o)) : RpR g T H H2 v (.nw o) := by
  obtain ⟨a, e, n, nT, r⟩ := r
  exact ⟨a, e, h a n, nT, r⟩
section
variable {g : Cf} {P : Program} {w : World}
end
section
variable {Z : Cx} {g : Cf} {W : XK} {T : List Addr} {He : Hp} {fs : Se (List X)} {e : Expr} {p1 p2 q pos : Pos}
end
end G
namespace G
open PySem PySem.Spec L2
open PyProof.Rows hiding St
section
variable {Z : Cx} {g : Cf} {W : XK} {T : List Addr} {He : Hp} {pos : Pos} {tg : Expr}
end
end G
namespace G
namespace Cmp
open PySem PySem.SeqAt
open AutoSeq1 (wpAny_loadPart')
open MeetsSeq MeetsSeq2 MeetsSeq3 SeqRoads2
section
variable {prog : Program} {w : World} {A : Around} {R : Result → Shared → Prop}
end
end Cmp
end G
namespace G
namespace Cmp
open PySem PySem.SeqAt
open AutoSeq1 (wpAny_loadPart')
open MeetsSeq MeetsSeq2 MeetsSeq3 SeqRoads2
section
variable {prog : Program} {w : World} {A : Around} {E : Value → Shared → Prop} {s : Shared}
end
end Cmp
end G
namespace G
open PySem PySem.Spec L2
open PyProof.Rows hiding St
section
variable {Z : Cx} {g B : Cf} {W : XK} {T : List Addr} {He : Hp} {a b : Expr} {f1 f2 : Se X} {pos : Pos}
mutual
def D.pl (P : Nat → Bool) : D → Bool
  | .non => true
  | .bl _ => true
  | .int _ => true
  | .str _ => true
  | .lst ds => D.pls P ds
  | .tup ds => D.pls P ds
  | .ins C fs => P C && D.pls P fs
  | .feed => false
  | .fn _ => false
  | .dk _ _ => false
  | .dn _ _ => false
  | .dj _ _ => false
def D.pls (P : Nat → Bool) : List D → Bool
  | [] => true
  | d :: ds => D.pl P d && D.pls P ds
end
section
variable {pins : List (Addr × Obj)} {σ : St} {H : Hp} {s : Shared} {P : Nat → Bool}
end
end
end G
namespace G
open PySem PySem.Spec L2
open PyProof.Rows hiding St
section
variable {Z : Cx} {g B : Cf} {W : XK} {T : List Addr} {He : Hp} {a b : Expr} {f1 f2 : Se X} {pos : Pos}
structure ItS (Z : Cx) where
  A : Around
  fr : A.frames = Z.A.frames
end
end G
namespace G
open PySem PySem.Spec L2
open PyProof.Rows hiding St
section
variable {Z : Cx} {g B : Cf} {W : XK} {T : List Addr} {He : Hp} {a b : Expr} {f1 f2 : Se X} {pos : Pos}
theorem FdOk.ext {T' : List Addr} {H H' : Hp} (f : FdOk g T' H) (e : Ext g.fd H H') : FdOk g T' H' := by
  refine ⟨fun a h => ?_, f.fd.1, e.2⟩
  by_cases m : g.fd.mv a
  · exact e.2.tk m
  · cases q : H a with
    | none => exact absurd q (f.tk a h)
    | some o =>
      rw [e.1 a o m q]
      intro z
      cases z
section
variable {n : Nat} {P : Nat → Bool} {sem : MSem} {A : Around} {pins : List (Addr × Obj)} {σ : St} {H : Hp} {s : Shared} {T' : List Addr} {ds es : List D} {xs ys : List V} {its its2 : List Value} {Q : Bool → Hp → Prop}
end
end
end G
namespace G
open PySem PySem.Spec L2
open PyProof.Rows hiding St
section
variable {X : Cx} {o e f : Expr} {apos cpos : Pos} {td ty tx : TE} {dx : Dx}
end
section
variable {Z : Cx} {g : Cf} {W : XK} {T : List Addr} {He : Hp} {o e f : Expr} {f1 f2 f3 : Se X} {apos cpos : Pos}
end
end G
namespace G
open PySem PySem.Spec L2
open PyProof.Rows hiding St
def putKD (kds : List (Key × D)) (k : Key) (d : D) : List (Key × D) := if kds.any (fun p => decide (p.1 = k)) then kds.map (fun p => if p.1 = k then (p.1, d) else p) else kds ++ [(k, d)]
def RpK (g : Cf) (H : Hp) (kvs : List (Key × V)) (kds : List (Key × D)) : Prop := kvs.map Prod.fst = kds.map Prod.fst ∧ RpA g H (kvs.map Prod.snd) (kds.map Prod.snd)
theorem RpK.put {g : Cf} {H : Hp} {k : Key} {v : V} {d : D} (r : Rp g H v d) : ∀ {kvs : List (Key × V)} {kds : List (Key × D)}, RpK g H kvs kds → RpK g H (putK kvs k v) (putKD kds k d) := by
  have anyE : ∀ {kvs : List (Key × V)} {kds : List (Key × D)}, kvs.map Prod.fst = kds.map Prod.fst → (kvs.any fun p => decide (p.1 = k)) = kds.any fun p => decide (p.1 = k) := fun {kvs kds} h => by
    have a : ∀ {α : Type} (l : List (Key × α)), (l.any fun p => decide (p.1 = k)) = (l.map Prod.fst).any fun j => decide (j = k) := fun l => by rw [List.any_map]; rfl
    rw [a, a, h]
  have mapE : ∀ {kvs : List (Key × V)} {kds : List (Key × D)}, RpK g H kvs kds → RpK g H (kvs.map fun p => if p.1 = k then (p.1, v) else p) (kds.map fun p => if p.1 = k then (p.1, d) else p) := by
    intro kvs
    induction kvs with
    | nil =>
      intro kds h
      cases kds with
      | nil => exact ⟨rfl, .nil⟩
      | cons _ _ => cases h.1
    | cons p kvs ih =>
      intro kds h
      cases kds with
      | nil => cases h.1
      | cons q kds =>
        obtain ⟨h1, h2⟩ := h
        simp only [List.map_cons, List.cons.injEq] at h1
        cases h2 with
        | cons r1 r2 =>
          obtain ⟨i1, i2⟩ := ih ⟨h1.2, r2⟩
          by_cases e : p.1 = k
          · have e2 : q.1 = k := by rw [← h1.1]; exact e
            simp only [List.map_cons, if_pos e, if_pos e2]
            exact ⟨by rw [List.map_cons, List.map_cons, i1, h1.1], .cons r i2⟩
          · have e2 : ¬ q.1 = k := by rw [← h1.1]; exact e
            simp only [List.map_cons, if_neg e, if_neg e2]
            exact ⟨by rw [List.map_cons, List.map_cons, i1, h1.1], .cons r1 i2⟩
  intro kvs kds h
  unfold putK putKD
  rw [anyE h.1]
  split
  · exact mapE h
  · exact ⟨by rw [List.map_append, List.map_append, h.1]; rfl, by rw [List.map_append, List.map_append]; exact h.2.append (.cons r .nil)⟩
theorem RpK.mono {g : Cf} {H H' : Hp} {kvs : List (Key × V)} {kds : List (Key × D)} (h : RpK g H kvs kds) (e : Same H H') : RpK g H' kvs kds := ⟨h.1, RpA.mono e _ h.2⟩
section
variable {Z : Cx} {g : Cf} {W : XK} {T : List Addr} {He : Hp} {pos : Pos}
end
end G
namespace G
open PySem PySem.Spec L2
open PyProof.Rows hiding St
structure GO (g : Cf) (U : List Addr) (H : Hp) (a b : Addr) (C j : Nat) (fs : List D) (kds : List (Key × D)) (dx : Addr) (fv : List (Str × V)) (kvs : List (Key × V)) : Prop where
  ia : H a = some (.ins (g.ad C) dx fv)
  fk : FvOk g C fv
  ln : fv.length = fs.length
  fj : (fv.map Prod.snd)[j]? = some (.ref b)
  rp : ∀ (i : Nat) (v : V) (d : D), i ≠ j → (fv.map Prod.snd)[i]? = some v → fs[i]? = some d → Rp g (off H U) v d
  ib : H b = some (.dK kvs)
  rk : RpK g (off H U) kvs kds
structure RlG (g : Cf) (T : List Addr) (He : Hp) (S : List Addr) (H : Hp) (Γ : List Sl) (σ : St) (i : Nat) (a b : Addr) (C j : Nat) (fs : List D) (kds : List (Key × D)) : Prop where
  rl : Rl g T He S H Γ σ
  sl : σ[i]? = some (some (.ref a))
  ma : a ∈ S
  mb : b ∈ S
  ca : CFree a Γ σ
  cb : CFree b Γ σ
  go : ∃ dx fv kvs, GO g (T ++ S) H a b C j fs kds dx fv kvs
section
variable {g : Cf} {U U' T S : List Addr} {H H' He : Hp} {a b dx : Addr} {C i j k : Nat} {fs : List D} {kds : List (Key × D)} {fv : List (Str × V)} {kvs : List (Key × V)} {Γ : List Sl} {σ : St} {f : Str} {v : V} {d : D}
theorem GO.mono (r : GO g U H a b C j fs kds dx fv kvs) (ka : ∀ o, H a = some o → H' a = some o) (kb : ∀ o, H b = some o → H' b = some o) (e : Same (off H U) (off H' U')) : GO g U' H' a b C j fs kds dx fv kvs :=
  ⟨ka _ r.ia, r.fk, r.ln, r.fj, fun i v d h1 h2 h3 => (r.rp i v d h1 h2 h3).mono e d, kb _ r.ib, r.rk.mono e⟩
theorem GO.ne (r : GO g U H a b C j fs kds dx fv kvs) : a ≠ b := ne_of r.ia r.ib fun z => by cases z
theorem RlG.mono (r : RlG g T He S H Γ σ i a b C j fs kds) (e : Ext g.fd H H') : RlG g T He S H' Γ σ i a b C j fs kds := by
  have t' : ∀ p, g.fd.mv p → p ∈ T ++ S := fun p h => List.mem_append_left _ (r.rl.t p h)
  obtain ⟨dx, fv, kvs, q⟩ := r.go
  exact ⟨r.rl.mono e, r.sl, r.ma, r.mb, r.ca, r.cb, dx, fv, kvs, q.mono (fun o h => e.at r.rl.t (r.rl.nT r.ma) h) (fun o h => e.at r.rl.t (r.rl.nT r.mb) h) (e.off t')⟩
end
abbrev Gt := List Sl × List D × List (Key × D)
abbrev Gst := Gt → M (Fl × Gt)
def GPost (g : Cf) (T : List Addr) (He : Hp) (i C j : Nat) (D : Ends) (S : List Addr) (H : Hp) (p : Fl × Gt) : Prop :=
  match p.1 with
  | .nx => ∀ σ' S' H' a b, RlG g T He S' H' p.2.1 σ' i a b C j p.2.2.1 p.2.2.2 → FrS T S H S' H' → D.nx σ' H'
  | .rt z => ∀ v H', Ext g.fd He H' → RpR g T He H' v z → D.rt v H'
  | _ => False
section
variable {Z : Cx} {g : Cf} {W : XK} {T : List Addr} {He : Hp} {i C j : Nat} {st : Stmt} {rest : List Stmt} {f1 f2 : Se X} {u1 u2 : Gst} {pos : Pos}
theorem GPost.from {D : Ends} {S S1 : List Addr} {H H1 : Hp} (f : FrS T S H S1 H1) {p : Fl × Gt} (h : GPost g T He i C j D S H p) : GPost g T He i C j D S1 H1 p := by
  obtain ⟨fl, q⟩ := p
  cases fl with
  | nx => exact fun σ' S' H' a b r y => h σ' S' H' a b r (f.trans y)
  | bk => exact h
  | ct => exact h
  | rt z => exact h
end
end G
namespace G
open PySem PySem.Spec L2
open PyProof.Rows hiding St
section
variable {g : Cf} {T S : List Addr} {H H' He : Hp} {a b x : Addr} {i : Nat} {Γ : List Sl} {σ : St}
theorem Rl.set_no (r : Rl g T He S H Γ σ) (h0 : g.ok0 i) (v : Option V) : Rl g T He S H (Γ.set i .no) (σ.set i v) := by
  have down : ∀ {m : Nat} {o : O}, (Γ.set i .no)[m]? = some (.c o) → i ≠ m ∧ Γ[m]? = some (.c o) := fun {m o} h => by
    by_cases z : i = m
    · subst z
      have hi : i < Γ.length := by have := (List.getElem?_eq_some_iff.mp h).1; simpa using this
      rw [List.getElem?_set_self hi] at h; cases h
    · rw [List.getElem?_set_ne z] at h; exact ⟨z, h⟩
  refine ⟨by rw [List.length_set, List.length_set]; exact r.len, fun m s h => ?_, fun m n o o' a h1 h2 h3 h4 => ?_, r.tk, r.nw, r.ft, r.tt, r.ex, s0_set h0 r.s0⟩
  · by_cases z : i = m
    · subst z
      have hi : i < Γ.length := by have := (List.getElem?_eq_some_iff.mp h).1; simpa using this
      rw [List.getElem?_set_self hi] at h
      cases h
      trivial
    · rw [List.getElem?_set_ne z] at h ⊢
      exact r.sl m s h
  · obtain ⟨z1, q1⟩ := down h1
    obtain ⟨z2, q2⟩ := down h2
    rw [List.getElem?_set_ne z1] at h3
    rw [List.getElem?_set_ne z2] at h4
    exact r.ne m n o o' a q1 q2 h3 h4
theorem CFree.none (r : Rl g T He S H Γ σ) (h : H a = none) : CFree a Γ σ := fun j o hj hs => by
  obtain ⟨c, q1, q2, _⟩ := r.sl j _ hj
  rw [hs] at q1
  cases q1
  exact (r.tk a q2).ne h
end
section
variable {Z : Cx} {g : Cf} {W : XK} {T : List Addr} {He : Hp} {C j : Nat} {pos : Pos} {tg : Expr}
end
section
variable {P : Program} {w : World} {K : PySem.W.Frag} {mg : Str → Option Value} {base : Heap} {k : Nat} {x qual : Str} {st : Stmt} {dvs : List V} {kwd : List (Str × V)} {f : Addr} {ps : List Str} {B : Cf} {n : Nat} {ix : List Nat} {ks : List Str} {dv : List V} {dd : List D}
end
section
variable {Z : Cx} {g B : Cf} {W : XK} {T : List Addr} {He : Hp} {i C j : Nat} {pos p2 p : Pos} {x y : Str} {e : Expr} {es : List Expr} {fs : Se (List X)}
end
end G
namespace G
open PySem PySem.Spec L2
open PyProof.Rows hiding St
section
variable {Pr : Program} {wo : World} {Ar : Around} {Rs : Result → Shared → Prop} {st : Shared} {ex ta ia tb ib : Expr} {fa fb : List Expr} {sc : Scope} {po : Pos} {iv av : Value} {en : Env}
end
section
variable {X : Cx}
end
end G
namespace G
open PySem PySem.Spec L2
open PyProof.Rows hiding St
section
variable {Z : Cx} {g : Cf} {W : XK} {T : List Addr} {He : Hp} {pos : Pos} {tg tg1 : Expr}
end
end G
namespace G
open PySem PySem.Spec L2
open PyProof.Rows hiding St
section
variable {Z : Cx} {g : Cf}
end
end G
namespace G
open PySem PySem.Spec L2
open PyProof.Rows hiding St
section
variable {Z : Cx} {g : Cf} {W : XK} {T : List Addr} {He : Hp} {pos : Pos} {f0 f1 : Se X}
end
end G
namespace G
open PySem PySem.Spec L2
open PyProof.Rows hiding St
theorem RpA.flatAny {g : Cf} {H H' : Hp} : ∀ {vs : List V} {ds : List D}, RpA g H vs ds → ds.all D.flat = true → RpA g H' vs ds
  | _, _, .nil, _ => .nil
  | _, _, .cons h t, q => by
    rw [List.all_cons, Bool.and_eq_true] at q
    exact .cons (Rp.flatAny h q.1) (RpA.flatAny t q.2)
section
variable {Z : Cx} {g B : Cf} {W : XK} {T : List Addr} {He : Hp} {f1 f2 : Se X} {fs gs : Se (List X)} {pos p p2 : Pos} {kws : List Keyword} {e : Expr} {es : List Expr} {x : Str} {ks : List Str}
variable {o : Expr} {m : Str} {apos : Pos} {pl : Sem Bool}
end
end G
namespace G
open PySem PySem.Spec L2
open PyProof.Rows hiding St
section
variable {Z : Cx} {g : Cf} {W : XK} {T : List Addr} {He : Hp} {pos : Pos} {f1 f2 : Se X} {fs : Se (List X)} {tg : Expr}
instance {i j c : Int} {n : Nat} : Decidable (RgC i j c n) := by unfold RgC; infer_instance
end
end G
namespace G
open PySem PySem.Spec L2 PySem.Calls PyProof.Rows
section
variable {prog : Program} {w : World} {A : Around} {E : Value → Shared → Prop} {s : Shared} {K : PySem.W.Frag} {x y C f : Addr} {ox oy : Obj} {od oe : Option Obj}
end
end G
namespace G
open PySem PySem.Spec L2
open PyProof.Rows hiding St
section
variable {Z : Cx} {g B : Cf} {W : XK} {T : List Addr} {He : Hp} {a b : Expr} {f1 f2 : Se X} {pos : Pos}
end
end G
namespace G
open PySem PySem.Spec L2
open PyProof.Rows hiding St
section
variable {Z : Cx} {g : Cf} {W : XK} {T : List Addr} {He : Hp} {a : Expr} {f1 : Se X} {pos : Pos}
end
end G
namespace G
open PySem PySem.Spec L2
open PyProof.Rows hiding St
section
variable {g : Cf}
end
section
variable {Z : Cx} {g : Cf} {W : XK} {T : List Addr} {He : Hp} {fs : Se (List X)} {pos : Pos}
end
end G
namespace G
open PySem PySem.Spec L2
open PyProof.Rows hiding St
namespace Icl
section
variable {M : Model} {A : Around} {E : Value → Shared → Prop} {s : Shared} {pos : Pos} {x : Addr} {Q : Value → Shared → Prop}
end
end Icl
section
variable {X : Cx} {CX : CXT} {k : Nat} {ks : List Str} {E : XK} {x : Str} {p pos : Pos} {kws : List Keyword} {ta : TE} {tk : TA}
end
section
variable {Z : Cx} {g B : Cf} {W : XK} {T : List Addr} {He : Hp} {f1 : Se X} {gs : Se (List X)} {x : Str} {p pos : Pos} {kws : List Keyword} {ks : List Str}
end
end G
namespace G
open PySem PySem.Spec L2
open PyProof.Rows hiding St
section
variable {P : Program} {w : World} {K : PySem.W.Frag} {mg : Str → Option Value} {base : Heap} {k : Nat} {x qual : Str} {st : Stmt} {f : Addr} {B : Cf}
end
end G
namespace G
open PySem PySem.Spec L2
open PyProof.Rows hiding St
section
variable {Z : Cx} {g : Cf} {W : XK} {T : List Addr} {He : Hp} {f1 fk : Se X} {pos p2 : Pos}
end
end G
namespace G
open PySem PySem.Spec L2
open PyProof.Rows hiding St
section
variable {Z : Cx} {g : Cf} {W : XK} {T : List Addr} {He : Hp}
theorem Rl.frz {i : Nat} {o : O} {S : List Addr} {H : Hp} {Γ : List Sl} {σ : St} (r : Rl g T He S H Γ σ) (h : Γ[i]? = some (.c o)) : ∃ S', Rl g T He S' H (Γ.set i (.v o.toD)) σ ∧ FrS T S H S' H := by
  obtain ⟨a, h1, h2, h3⟩ := r.sl i _ h
  have hi : i < Γ.length := (List.getElem?_eq_some_iff.mp h).1
  have sub : ∀ b ∈ T ++ S.filter (fun b => decide (b ≠ a)), b ∈ T ++ S := fun b hb => by
    rcases List.mem_append.mp hb with z | z
    · exact List.mem_append_left _ z
    · exact List.mem_append_right _ (List.mem_filter.mp z).1
  have nT := r.nT h2
  have na : a ∉ T ++ S.filter (fun b => decide (b ≠ a)) := fun hb => by
    rcases List.mem_append.mp hb with z | z
    · exact nT z
    · have := (List.mem_filter.mp z).2
      simp at this
  have js := zbP_ h1
  refine ⟨S.filter (fun b => decide (b ≠ a)), ⟨by rw [List.length_set]; exact r.len, fun j s q => ?_, fun j k o1 o2 b q1 q2 q3 q4 => ?_, fun b hb => r.tk b (List.mem_filter.mp hb).1, fun b hb => r.nw b (List.mem_filter.mp hb).1, r.ft, r.tt, r.ex, r.s0⟩, za9_ sub⟩
  · by_cases z : i = j
    · subst z
      rw [List.getElem?_set_self hi] at q
      cases q
      exact ⟨_, h1, h3.toD sub na⟩
    · rw [List.getElem?_set_ne z] at q
      have y := r.sl j s q
      cases s with
      | no => trivial
      | v d => obtain ⟨v, y1, y2⟩ := y; exact ⟨v, y1, zcq_ sub y2⟩
      | c o' =>
        obtain ⟨b, y1, y2, y3⟩ := y
        have nb : b ≠ a := fun e => z (r.ne i j o o' a h q js (by rw [← e]; exact zbP_ y1))
        exact ⟨b, y1, List.mem_filter.mpr ⟨y2, by simpa using nb⟩, y3.sub sub⟩
  · have nj : i ≠ j := fun z => by
      subst z
      rw [List.getElem?_set_self hi] at q1
      cases q1
    have nk : i ≠ k := fun z => by
      subst z
      rw [List.getElem?_set_self hi] at q2
      cases q2
    rw [List.getElem?_set_ne nj] at q1
    rw [List.getElem?_set_ne nk] at q2
    exact r.ne j k o1 o2 b q1 q2 q3 q4
theorem SPost.of {D : Ends} {S S' : List Addr} {H : Hp} (f : FrS T S H S' H) {p : Fl × List Sl} (h : SPost g T He D S H p) : SPost g T He D S' H p := SPost.from f h
end
end G
namespace G
open PySem PySem.Spec L2
open PyProof.Rows hiding St
section
variable {Z : Cx} {g : Cf} {W : XK} {T : List Addr} {He : Hp}
end
end G
namespace G
open PySem PySem.Spec L2
open PyProof.Rows hiding St
section
variable {Z : Cx} {g : Cf} {W : XK} {T : List Addr} {He : Hp} {fs : Se (List X)} {pos : Pos}
end
end G
namespace G
open PySem PySem.Spec L2
open PyProof.Rows hiding St
section
variable {Z : Cx} {g : Cf} {W : XK} {T : List Addr} {He : Hp}
end
end G
namespace G
open PySem PySem.Spec L2 NdefX
open PyProof.Rows hiding St
section
open PySem.W PySem.Calls PySem.Builtin PySem.Builtin.Str PySem.Builtin.Int PySem.Builtin.Float
set_option maxRecDepth 100000
section
variable {prog : Program} {w : World} {A : Around} {E : Value → Shared → Prop} {s : Shared} {t : Tok} {a : Int} {z y sp : Str} {Q : Value → Shared → Prop}
end
end
section
variable {Z : Cx} {g : Cf} {W : XK} {T : List Addr} {He : Hp} {f1 : Se X} {pos p1 p2 : Pos} {sp : Str}
end
end G
namespace G
open PySem PySem.Spec L2 NdefX
open PyProof.Rows hiding St
section
variable {Z : Cx} {g : Cf}
end
end G
namespace G
open PySem PySem.Spec L2
open PyProof.Rows hiding St
section
variable {Z : Cx} {g : Cf} {W : XK} {T : List Addr} {He : Hp} {f1 f2 : Se X} {o e : Expr} {apos cpos : Pos}
end
end G
namespace G
open PySem PySem.Spec L2
open PyProof.Rows hiding St
section
variable {X : Cx}
end
section
variable {Z : Cx} {g : Cf} {W : XK} {T : List Addr} {He : Hp} {fs : Se (List X)} {e : Expr} {p1 p2 q1 q2 : Pos}
end
end G
namespace G
open PySem PySem.Spec L2
open PyProof.Rows hiding St
section
variable {Z : Cx} {g : Cf} {W : XK} {T : List Addr} {He : Hp} {pos : Pos}
end
section
variable {Z : Cx} {g : Cf} {W : XK} {T : List Addr} {He : Hp} {fs : Se (List X)} {pos : Pos}
end
section
variable {Z : Cx} {g : Cf} {W : XK} {T : List Addr} {He : Hp}
end
section
variable {X : Cx} {o e f : Expr} {apos cpos : Pos} {td ty tx : TE}
end
section
variable {Z : Cx} {g : Cf} {W : XK} {T : List Addr} {He : Hp} {o e f : Expr} {f1 f2 f3 : Se X} {apos cpos : Pos}
end
end G
namespace G
open PySem PySem.Spec L2
open PyProof.Rows hiding St
section
variable {Z : Cx} {g B : Cf} {W : XK} {T : List Addr} {He : Hp} {pos : Pos}
theorem ev_v (i : Nat) {x : Str} (hN : Z.N[i]? = some x := by rfl) (hv : Vis Z.env.scope x := by first | exact .inl rfl | exact .inr (.inl rfl) | exact .inr (.inr rfl)) (hd : (x == ("__debug__" : Str)) = false := by decide) (hcd : (x == ("__classdict__" : Str)) = false := by decide) : EV Z g W T He (.Name x pos) (sNm i) := ev_nm hN hv hd hcd
end
end G
namespace G
open PySem PySem.Spec L2 LamX
open PyProof.Rows hiding St
inductive HW where
  | txt (x : Str) | fld (f : Str)
inductive HwA (n : Str) : List Expr → List HW → Prop
  | nil : HwA n [] []
  | txt {x j p es ws} : HwA n es ws → HwA n (.Constant (.str x) j p :: es) (.txt x :: ws)
  | fld {p p' f es ws} : HwA n es ws → HwA n (.Attribute (.Name n p) f p' :: es) (.fld f :: ws)
def HW.rd (K : PySem.W.Frag) (i : Nat) (a : Addr) (cls : Value) (d : Option Addr) : HW → TE
  | .txt x => tC (.str x)
  | .fld f => tXfE K a cls d f (tVar i)
def HW.rds (K : PySem.W.Frag) (i : Nat) (a : Addr) (cls : Value) (d : Option Addr) : List HW → TA
  | [] => tNil
  | w :: ws => tCons (w.rd K i a cls d) (HW.rds K i a cls d ws)
theorem HwA.pa {X : Cx} {n : Str} {i : Nat} {a : Addr} {oe : Obj} {cls : Value} {d : Option Addr} {pn : List (Addr × Obj)} (hz : Zc cls d oe) (hf : ∃ vs, oe.data = .fields vs) (hN : X.N[i]? = some n) (hv : Vis X.env.scope n) (hd : (n == ("__debug__" : Str)) = false) (hcd : (n == ("__classdict__" : Str)) = false) :
    ∀ {es : List Expr} {ws : List HW}, HwA n es ws → PA (X.suite a ((a, oe) :: pn)) es (HW.rds X.K i a cls d ws)
  | _, _, .nil => pa_nil
  | _, _, .txt r => pa_cons pe_str (HwA.pa hz hf hN hv hd hcd r)
  | _, _, .fld r => pa_cons (pe_xfE hz hf (pe_var (X := X.suite a ((a, oe) :: pn)) hN hv hd hcd)) (HwA.pa hz hf hN hv hd hcd r)
def HW.sem (ns : List Str) (fs : List D) : HW → Option D
  | .txt x => some (.str x)
  | .fld f => (ns.zip fs).lookup f
def HW.fit (K : PySem.W.Frag) (C : Addr) : HW → Prop
  | .txt x => PyData.strOk x = true
  | .fld f => PySem.W.findIn K (.ref C) f = some none
def HW.fits (K : PySem.W.Frag) (C : Addr) : List HW → Prop
  | [] => True
  | w :: ws => w.fit K C ∧ HW.fits K C ws
section
variable {g : Cf} {T : List Addr} {C : Nat} {fs : List D} {d : Addr} {a : Addr} {i : Nat} {σ : St}
theorem XdOk.same {H H' : Hp} (s1 : Same H H') (xd : XdOk g T H d C fs) : XdOk g T H' d C fs := by
  obtain ⟨fv, x1, x2, x3⟩ := xd
  refine ⟨fv, s1 _ _ x1, x2, fun k f hk => ?_⟩
  obtain ⟨v, e, y1, y2, y3⟩ := x3 k f hk
  exact ⟨v, e, y1, y2, y3.mono (s1.offT T) _⟩
end
section
variable {Z : Cx} {g : Cf} {W : XK} {T : List Addr} {He : Hp}
end
end G
namespace G
open PySem PySem.Spec L2
open PyProof.Rows hiding St
structure NwOk (g : Cf) (T S : List Addr) (H : Hp) (Γ : List Sl) (σ : St) (as : List Addr) (dss : List (List D)) : Prop where
  m : ∀ b ∈ as, b ∈ S ∧ CFree b Γ σ
  nd : as.Nodup
  ln : as.length = dss.length
  ob : ∀ (k : Nat) (b : Addr) (ds : List D), as[k]? = some b → dss[k]? = some ds → ∃ vs, H b = some (.lst vs) ∧ RpA g (off H (T ++ S)) vs ds
structure RlN (g : Cf) (T : List Addr) (He : Hp) (S : List Addr) (H : Hp) (Γ : List Sl) (σ : St) (i : Nat) (a : Addr) (as : List Addr) (dss : List (List D)) : Prop where
  rl : Rl g T He S H Γ σ
  sl : σ[i]? = some (some (.ref a))
  ma : a ∈ S
  ca : CFree a Γ σ
  ha : H a = some (.lst (as.map .ref))
  na : a ∉ as
  nw : NwOk g T S H Γ σ as dss
section
variable {g : Cf} {T S : List Addr} {He H H' : Hp} {Γ : List Sl} {σ : St} {i j : Nat} {a b : Addr} {as : List Addr} {dss : List (List D)}
theorem RlN.t' (r : RlN g T He S H Γ σ i a as dss) : ∀ p, g.fd.mv p → p ∈ T ++ S := fun p h => List.mem_append_left _ (r.rl.t p h)
theorem NwOk.mono (n : NwOk g T S H Γ σ as dss) (rl : Rl g T He S H Γ σ) (e : Ext g.fd H H') : NwOk g T S H' Γ σ as dss :=
  ⟨n.m, n.nd, n.ln, fun k b ds h1 h2 => by
    obtain ⟨vs, h3, h4⟩ := n.ob k b ds h1 h2
    exact ⟨vs, e.at rl.t (rl.nT (n.m b (List.mem_of_getElem? h1)).1) h3, RpA.mono (e.off fun p h => List.mem_append_left _ (rl.t p h)) _ h4⟩⟩
theorem NwOk.ext {d : Addr} (n : NwOk g T S H Γ σ as dss) (rl : Rl g T He S H Γ σ) (e : Ext g.fd H H') (hd : H d = none) : NwOk g T (d :: S) H' Γ σ as dss :=
  ⟨fun b h => ⟨List.mem_cons_of_mem _ (n.m b h).1, (n.m b h).2⟩, n.nd, n.ln, fun k b ds h1 h2 => by
    obtain ⟨vs, h3, h4⟩ := n.ob k b ds h1 h2
    have t' : ∀ p, g.fd.mv p → p ∈ T ++ (d :: S) := fun p h => List.mem_append_left _ (rl.t p h)
    exact ⟨vs, e.at rl.t (rl.nT (n.m b (List.mem_of_getElem? h1)).1) h3, RpA.mono ((zbk_ hd).trans (e.off t')) _ h4⟩⟩
theorem RlN.mono (r : RlN g T He S H Γ σ i a as dss) (e : Ext g.fd H H') : RlN g T He S H' Γ σ i a as dss :=
  ⟨r.rl.mono e, r.sl, r.ma, r.ca, e.at r.rl.t (r.rl.nT r.ma) r.ha, r.na, r.nw.mono r.rl e⟩
end
section
variable {Z : Cx} {g : Cf} {W : XK} {T : List Addr} {He : Hp} {i : Nat} {st : Stmt} {rest : List Stmt} {f1 f2 : Se X} {pos : Pos}
end
end G
namespace L2
open PySem PySem.Spec PySem.Calls
end L2
namespace G
open PySem PySem.Spec L2
open PyProof.Rows hiding St
section
variable {Z : Cx} {g B : Cf} {W : XK} {T : List Addr} {He : Hp} {a : Expr} {f1 : Se X} {pos : Pos}
end
end G
namespace G
open PySem PySem.Spec L2
open PyProof.Rows hiding St
section
variable {Z : Cx} {g : Cf} {W : XK} {T : List Addr} {He : Hp} {e : Expr} {es : List Expr} {f1 : Se X} {fs : Se (List X)}
end
end G
namespace G
open PySem PySem.Spec L2
open PyProof.Rows hiding St
def Agr (H H' : Hp) : Prop := ∀ b o, H b = some o → (∀ us, o ≠ .lst us) → H' b = some o
section
variable {g : Cf} {H H' : Hp}
theorem Agr.rd {a : Addr} {o : HO} (e : Agr H H') (h : Rd H a o) (n : ∀ us, o ≠ .lst us) : Rd H' a o := by
  rcases h with h | ⟨ob, h⟩
  · exact .inl (e _ _ h n)
  · exact .inr ⟨ob, e _ _ h fun us z => by cases z⟩
end
section
variable {Z : Cx} {g B : Cf} {W : XK} {T : List Addr} {He : Hp} {f1 f2 : Se X} {fs gs : Se (List X)} {pos p p2 : Pos} {kws : List Keyword} {e : Expr} {es : List Expr} {x : Str} {ks : List Str}
end
end G
namespace G
open PySem PySem.Spec L2
open PyProof.Rows hiding St
structure ClsOf (K : PySem.W.Frag) (C : Addr) (m : Str) (f : Addr) : Prop where
  cr : ClX.CRead K C (.type "type")
  ex : ∃ p, ClX.CMet K C (.type "type") m p f
section
variable {X : Cx} {CX : CXT} {k j i : Nat} {ks : List Str} {sp : Sp2} {E : XK} {x m : Str} {p pos apos : Pos} {e : Expr} {es : List Expr} {kws : List Keyword} {t tk : TA} {C f : Addr} {pl : Sem Bool}
end
section
variable {Z : Cx} {g B : Cf} {W : XK} {T : List Addr} {He : Hp} {fs gs : Se (List X)} {x y m : Str} {p pos apos : Pos} {e : Expr} {es : List Expr} {kws : List Keyword} {ks : List Str} {C f : Addr} {pl : Sem Bool}
end
section
variable {B : Cf}
theorem RpR.cg {g g' : Cf} (e1 : g.K = g'.K) (e2 : g.ad = g'.ad) (e3 : g.fl = g'.fl) (e4 : g.fd = g'.fd) (e5 : g.dx = g'.dx) {T : List Addr} {H0 H : Hp} {v : V} {z : R} (r : RpR g T H0 H v z) : RpR g' T H0 H v z := by
  cases z with
  | «at» d => exact r
  | nw o =>
    obtain ⟨a, h1, h2, h3, h4⟩ := r
    exact ⟨a, h1, h2, h3, RpO.cg e1 e2 e3 e4 e5 h4⟩
  | dt d => exact Rp.cg e1 e2 e3 e4 e5 _ r
variable {P : Program} {w : World} {K : PySem.W.Frag} {mg : Str → Option Value} {base : Heap} {k n : Nat} {x qual : Str} {st : Stmt} {dvs : List V} {kwd : List (Str × V)} {f : Addr} {ps ks : List Str} {ix : List Nat} {dv : List V} {dd : List D}
end
end G
namespace G
open PySem PySem.Spec L2
open PyProof.Rows hiding St
section
variable {g : Cf}
end
section
variable {Z : Cx} {g : Cf} {W : XK} {T S : List Addr} {He H0 H : Hp} {fs : Se (List X)} {pos : Pos}
end
end G
namespace G
open PySem PySem.Spec L2
open PyProof.Rows hiding St
section
variable {Z : Cx} {g : Cf} {W : XK} {T : List Addr} {He : Hp} {i : Nat} {st : Stmt} {rest body : List Stmt} {pos : Pos}
end
end G
namespace G
open PySem PySem.Spec L2
open PyProof.Rows hiding St
section
variable {Z : Cx} {g B : Cf} {W : XK} {T : List Addr} {He : Hp} {a b : Expr} {f1 f2 : Se X} {pos : Pos}
variable {n : Nat} {P : Nat → Bool} {sem : MSem} {A : Around} {pins : List (Addr × Obj)} {σ : St} {H : Hp} {s : Shared} {T' : List Addr} {ds es : List D} {xs ys : List V} {its its2 : List Value} {Q : Bool → Hp → Prop}
end
end G
namespace G
open PySem PySem.Spec L2
open PyProof.Rows hiding St
section
variable {Z : Cx} {g : Cf} {W : XK} {T : List Addr} {He : Hp} {i j : Nat} {pos : Pos}
end
end G
namespace G
open PySem PySem.Spec L2
open PyProof.Rows hiding St
section
variable {g : Cf} {T S : List Addr} {H0 H : Hp}
end
section
variable {Z : Cx} {g B : Cf} {W : XK} {T : List Addr} {He : Hp} {f1 f2 : Se X} {fs gs : Se (List X)} {pos p p2 : Pos} {kws : List Keyword} {e : Expr} {es : List Expr} {x : Str} {ks : List Str}
end
end G
namespace G
open PySem PySem.Spec PySem.Calls L2
open PyProof.Rows hiding St
section
variable {prog : Program} {w : World} {A : Around} {E : Value → Shared → Prop} {s : Shared}
end
section
variable {Z : Cx} {g : Cf} {W : XK} {T : List Addr} {He : Hp} {f1 : Se X} {pos : Pos}
end
end G
namespace G
open PySem PySem.Spec L2
open PyProof.Rows hiding St
section
variable {X : Cx} {pins : List (Addr × Obj)} {σ : St} {H : Hp} {s : Shared}
end
section
variable {Z : Cx} {g B : Cf} {W : XK} {T : List Addr} {He : Hp} {f1 : Se X} {x : Str} {p p2 pos : Pos} {e : Expr}
end
end G
namespace G
open PySem PySem.Spec L2
open PyProof.Rows hiding St
section
variable {g : Cf}
end
end G
namespace G
open PySem PySem.Spec L2
open PyProof.Rows hiding St
structure TbOk (g : Cf) (T : List Addr) (He : Hp) (S : List Addr) (H : Hp) (S2 : List Addr) (H2 : Hp) (Γ : List Sl) (σ : St) (a : Addr) (as : List Addr) (dss : List (List D)) : Prop where
  rl : Rl g T He S2 H2 Γ σ
  ma : a ∈ S2
  ca : CFree a Γ σ
  ha : H2 a = some (.lst (as.map .ref))
  na : a ∉ as
  nw : NwOk g T S2 H2 Γ σ as dss
  fr : FrS T S H S2 H2
section
variable {g : Cf} {W : XK} {T S : List Addr} {He H : Hp} {Γ : List Sl} {σ : St}
end
section
variable {Z : Cx} {g : Cf} {W : XK} {T : List Addr} {He : Hp} {i : Nat} {st : Stmt} {rest : List Stmt} {f1 f2 : Se X} {pos : Pos}
end
end G
namespace G
open PySem PySem.Spec L2
open PyProof.Rows hiding St
def NewT (g : Cf) (H0 H' : Hp) (v : V) (dss : List (List D)) : Prop := ∃ (a : Addr) (as : List Addr), v = .ref a ∧ H0 a = none ∧ H' a = some (.lst (as.map .ref)) ∧ a ∉ as ∧ as.Nodup ∧ as.length = dss.length ∧ (∀ b ∈ as, H0 b = none) ∧
  ∀ (k : Nat) (b : Addr) (ds : List D), as[k]? = some b → dss[k]? = some ds → ∃ vs, H' b = some (.lst vs) ∧ RpA g (fun _ => none) vs ds ∧ ds.all D.flat = true
section
variable {Z : Cx} {g : Cf} {W : XK} {T : List Addr} {He : Hp} {i : Nat} {st : Stmt} {rest : List Stmt} {pos : Pos}
end
section
variable {B g : Cf} {P : Program} {w : World} {K : PySem.W.Frag} {mg : Str → Option Value} {base : Heap} {k n : Nat} {x qual : Str} {st : Stmt} {dvs : List V} {kwd : List (Str × V)} {f : Addr} {ps ks : List Str} {semN : List D → M (List (List D))} {ix : List Nat} {dv : List V} {dd : List D} {T S : List Addr} {H H' : Hp}
end
section
variable {Z : Cx} {g B : Cf} {W : XK} {T S : List Addr} {He H H' : Hp} {Γ : List Sl} {σ : St} {i : Nat} {pos : Pos}
theorem RpA.cgN {B : Cf} {fd : Fdx} (hB : SameB g B) {H : Hp} {vs : List V} {ds : List D} (r : RpA (B.wf fd) H vs ds) (hf : g.fd = fd) : RpA g H vs ds := by
  subst hf
  exact RpA.cg (g := B.wf g.fd) hB.k.symm hB.ad.symm hB.fl.symm rfl hB.dx.symm _ r
theorem NewT.own {v : V} {dss : List (List D)} (hB : SameB g B) (rl : Rl g T He S H Γ σ) (e : Ext g.fd H H') (h : NewT (B.wf g.fd) H H' v dss) : ∃ a as S2, v = .ref a ∧ TbOk g T He S H S2 H' Γ σ a as dss := by
  obtain ⟨a, as, rfl, h1, h2, h3, h4, h5, h6, h7⟩ := h
  have rl1 := rl.mono e
  have trk : ∀ b ∈ a :: as, H b = none ∧ ∃ u, H' b = some (.lst u) := fun b hb => by
    rcases List.mem_cons.mp hb with rfl | hb
    · exact ⟨h1, _, h2⟩
    · obtain ⟨k, hk⟩ := List.getElem?_of_mem hb
      have hkl : k < dss.length := by rw [← h5]; exact (List.getElem?_eq_some_iff.mp hk).1
      obtain ⟨vs, q1, _, _⟩ := h7 k b _ hk (List.getElem?_eq_getElem hkl)
      exact ⟨h6 b hb, vs, q1⟩
  -- all of them, one after the other
  have grow : ∀ l : List Addr, (∀ b ∈ l, b ∈ a :: as) → Rl g T He (l ++ S) H' Γ σ ∧ Same (off H (T ++ S)) (off H' (T ++ (l ++ S))) := fun l => by
    induction l with
    | nil => exact fun _ => ⟨rl1, rl.frs e⟩
    | cons b l ih =>
      intro hl
      obtain ⟨r, f⟩ := ih fun c hc => hl c (List.mem_cons_of_mem _ hc)
      obtain ⟨hb0, u, hb1⟩ := trk b (hl b (List.mem_cons_self ..))
      have nbS : b ∉ S := fun z => by
        obtain ⟨u, q, _⟩ := rl.tk b z
        rw [hb0] at q
        cases q
      have nbT : b ∉ T := fun z => rl.tkT z hb0
      have nm : ¬ g.fd.mv b := fun z => nbT (rl.t b z)
      have sm : Same (off H (T ++ S)) (off H' (T ++ (b :: (l ++ S)))) := fun c o hc => by
        have h' := f c o hc
        by_cases z : c ∈ T ++ (b :: (l ++ S))
        · exfalso
          have nc : c ∉ T ++ S := fun y => by rw [zcz_ y] at hc; cases hc
          rw [za4_ nc] at hc
          rcases List.mem_append.mp z with z | z
          · exact nc (List.mem_append_left _ z)
          · rcases List.mem_cons.mp z with rfl | z
            · rw [hb0] at hc; cases hc
            · rcases List.mem_append.mp z with z | z
              · obtain ⟨q, _⟩ := trk c (hl c (List.mem_cons_of_mem _ z))
                rw [q] at hc; cases hc
              · exact nc (List.mem_append_right _ z)
        · rw [za4_ z]
          have nz : c ∉ T ++ (l ++ S) := fun y => z (by
            rcases List.mem_append.mp y with y | y
            · exact List.mem_append_left _ y
            · exact List.mem_append_right _ (List.mem_cons_of_mem _ y))
          rw [za4_ nz] at h'
          exact h'
      refine ⟨⟨rl.len, fun j s q => ?_, rl.ne, fun c hc => ?_, fun c hc => ?_, rl.ft, rl.tt, rl.ex.trans e, rl.s0⟩, sm⟩
      · have y := rl.sl j s q
        cases s with
        | no => trivial
        | v d => obtain ⟨v, y1, y2⟩ := y; exact ⟨v, y1, y2.mono sm⟩
        | c o =>
          obtain ⟨c, y1, y2, y3⟩ := y
          exact ⟨c, y1, List.mem_cons_of_mem _ (List.mem_append_right _ y2), y3.mono (fun o' h => e.at rl.t (rl.nT y2) h) sm⟩
      · rcases List.mem_cons.mp hc with rfl | hc
        · exact ⟨_, hb1, fun c q z => by cases z⟩
        · exact r.tk c hc
      · rcases List.mem_cons.mp hc with rfl | hc
        · exact rl.ex.free hb0 nm
        · exact r.nw c hc
  obtain ⟨r, f⟩ := grow (a :: as) fun b hb => hb
  refine ⟨a, as, (a :: as) ++ S, rfl, r, List.mem_append_left _ (List.mem_cons_self ..), CFree.none rl h1, h2, h3, ⟨fun b hb => ⟨List.mem_append_left _ (List.mem_cons_of_mem _ hb), CFree.none rl (h6 b hb)⟩, h4, h5, fun k b ds k1 k2 => ?_⟩, f⟩
  obtain ⟨vs, q1, q2, q3⟩ := h7 k b ds k1 k2
  exact ⟨vs, q1, RpA.cgN hB (q2.flatAny q3) rfl⟩
end
end G
namespace G
open PySem PySem.Spec L2
open PyProof.Rows hiding St
section
variable {Z : Cx} {g : Cf} {W : XK} {T : List Addr} {He : Hp} {f1 f2 : Se X}
end
end G
namespace G
open PySem PySem.Spec L2 NdefX
open PyProof.Rows hiding St
section
variable {X : Cx} {x : Str} {p pos : Pos}
theorem pe_oexV {CX : CXT} {C fI : Addr} {k : Nat} {fd : FuncData} {ps : List Str} {sp : Sp} {e : Expr} {es : List Expr} {ta : TA} (T : OexC X.K C) (iC : PySem.W.findIn X.K (.ref C) "__init__" = some (some (.ref fI))) (tI : PySem.W.typeIn X.K (.ref fI) = some (.type "function"))
    (F1 : FnOk X.prog X.w X.K X.mg X.base CX k fI fd ps sp) (hr : Room (k + 1) X.A) (hb : Binds X.K fd ps []) (hx : Passes CX X (fun _ _ _ => False)) (hg : Gl X x) (hm : X.mg x = some (.ref C)) (ha : PA X (e :: es) ta)
    (hdb : (x == ("__debug__" : Str)) = false := by decide) (he : starEach (e :: es) X.env = (false, eval e X.env) :: starEach es X.env := by rfl) (hpl : (backTo pos (starEach es X.env)).any (·.1) = false := by rfl) :
    PE X (.Call (.Name x p) (e :: es) [] pos) (fun σ H Q => ta σ H fun vs H1 => vs.length ≤ 1000 ∧ ∀ a, H1 a = none → sp (.ref a :: vs) (upd H1 a (exo a C none)) (fun v H2 => v = .non ∧ Q (.ref a) H2) (fun _ _ _ => False)) := by
  refine ⟨fun pins s σ H Q I h => ?_⟩
  obtain ⟨b, B, nm, q, N, bs, bm, sn, sub, ab, col, dd, k0, k1, k2, k3, k5, hC, hbm⟩ := T.cls
  refine wpAny_Call_Name_kw (ld_glob I hg hm ?_ hdb)
  refine PySem.W.callWith_K (h₀ := X.base) I.ok.mod.kin T.kC (thn (ha.run pos pins s σ H _ I h) fun us s1 ⟨vs, H1, I1, r1, hz, q1⟩ => ⟨I1.kIn, ?_⟩) he hpl
  show wpAny _ _ (call (.ref C) us) _ _ _
  obtain ⟨hp, g, dr, tk, os⟩ := s1
  have hsz : hp.objs.size ≤ hp.objs.size + 1 := Nat.le_succ _
  have hn : H1 (hp.objs.size + 1) = none := I1.hok.fresh hsz
  have hq := q1 (hp.objs.size + 1) hn
  have kk : ∀ b o, hp.get? b = some o → ((hp.push (PySem.W.kdv_tup us)).push (PySem.HandSPX.excO C hp.objs.size)).get? b = some o := fun b o e => Heap.get?_push_of_some _ (Heap.get?_push_of_some _ e)
  have hget : ((hp.push (PySem.W.kdv_tup us)).push (PySem.HandSPX.excO C hp.objs.size)).get? (hp.objs.size + 1) = some (PySem.HandSPX.excO C hp.objs.size) := by heap_get
  have I2 : Inv X pins σ (upd H1 (hp.objs.size + 1) (exo (hp.objs.size + 1) C none)) ⟨(hp.push (PySem.W.kdv_tup us)).push (PySem.HandSPX.excO C hp.objs.size), g, dr, tk, os⟩ :=
    I1.laid (t' := tk) (a := hp.objs.size + 1) (o := exo (hp.objs.size + 1) C none) (h' := (hp.push (PySem.W.kdv_tup us)).push (PySem.HandSPX.excO C hp.objs.size)) kk hsz (exo_ok hget)
  have r2 : Vals (V.ref (hp.objs.size + 1) :: vs) (Value.ref (hp.objs.size + 1) :: us) := .cons rfl r1
  have hl : (Value.ref (hp.objs.size + 1) :: us).length = ps.length := by
    have e := r2.length
    rw [F1.len _ _ _ _ hq] at e
    exact e.symm
  have hus : us.length ≤ sizeLine := by
    rw [← Paired.length r1, sizeLine_eq]
    omega
  have hbd := hb _ (Value.ref (hp.objs.size + 1) :: us) I2.kIn (by rw [List.append_nil]; exact hl)
  rw [List.append_nil] at hbd
  refine wpAny_call (PySem.HandSPX.call_own B.F (fun Y => PySem.GXB.refsT_contains Y bm hbm) (I1.kIn _ _ hC) (PySem.W.looks_findIn I1.kIn iC) (fun self => PySem.W.bind_fn I1.kIn self tI) hus
    (codeAny_mono (F1.run _ X.stack _ _ ⟨Value.ref (hp.objs.size + 1) :: us, []⟩ (Value.ref (hp.objs.size + 1) :: us) _ _ (fun _ _ _ => False) (hr.make C us []) (I2.env0.make C us []) hbd r2 hq) fun r s' hq' => ?_))
  cases r with
  | error er => exact hx pins σ _ _ er s' I2 hq'
  | ok fl =>
    cases fl with
    | ret u =>
      obtain ⟨v, H2, os2, bare2, un2, hok2, rv, ev, q2⟩ := hq'
      subst ev
      obtain ⟨h2, g2, d2, t2, os'⟩ := s'
      exact ⟨rv, .ref (hp.objs.size + 1), H2, I2.call' (ch := []) os2 un2 hok2 bare2 (fun b z => absurd z (by simp)), rfl, q2⟩
    | next => exact False.elim hq'
    | brk => exact False.elim hq'
    | cont => exact False.elim hq'
theorem zdh_ {CX : CXT} {Ca fI : Addr} {k : Nat} {fd : FuncData} {ps : List Str} {sp : Sp} (T : OexC X.K Ca) (iC : PySem.W.findIn X.K (.ref Ca) "__init__" = some (some (.ref fI))) (tI : PySem.W.typeIn X.K (.ref fI) = some (.type "function"))
    (F1 : FnOk X.prog X.w X.K X.mg X.base CX k fI fd ps sp) (hr : Room (k + 1) X.A) (hb : Binds X.K fd ps []) (hx : Passes CX X (fun _ _ _ => False)) (hg : Gl X x) (hm : X.mg x = some (.ref Ca)) (hdb : (x == ("__debug__" : Str)) = false := by decide) :
    PE X (.Call (.Name x p) [] [] pos) (fun σ H Q => ∀ a, H a = none → sp [.ref a] (upd H a (exo a Ca none)) (fun v H2 => v = .non ∧ Q (.ref a) H2) (fun _ _ _ => False)) := by
  refine ⟨fun pins s0 σ H0 Q I0 h => ?_⟩
  obtain ⟨bB, B, _, _, _, _, bm, _, _, _, _, _, _, _, _, _, _, hC, hbm⟩ := T.cls
  refine wpAny_Call_Name_kw (ld_glob I0 hg hm ?_ hdb)
  refine PySem.W.callWith_K0 I0.kIn T.kC ?_
  show wpAny _ _ (call (.ref Ca) []) _ _ _
  obtain ⟨h0, g0, r0, t0, o0⟩ := s0
  have la : h0.objs.size ≤ h0.objs.size + 1 := by omega
  have na : H0 (h0.objs.size + 1) = none := I0.hok.fresh la
  have go := h (h0.objs.size + 1) na
  have there : ∀ b o, h0.get? b = some o → ((h0.push (PySem.W.kdv_tup [])).push (PySem.HandSPX.excO Ca h0.objs.size)).get? b = some o := fun _ _ e => Heap.get?_push_of_some _ (Heap.get?_push_of_some _ e)
  have at_a : ((h0.push (PySem.W.kdv_tup [])).push (PySem.HandSPX.excO Ca h0.objs.size)).get? (h0.objs.size + 1) = some (PySem.HandSPX.excO Ca h0.objs.size) := by heap_get
  have I1 : Inv X pins σ (upd H0 (h0.objs.size + 1) (exo (h0.objs.size + 1) Ca none)) ⟨(h0.push (PySem.W.kdv_tup [])).push (PySem.HandSPX.excO Ca h0.objs.size), g0, r0, t0, o0⟩ := I0.laid (t' := t0) (a := h0.objs.size + 1) (o := exo (h0.objs.size + 1) Ca none) there la (exo_ok at_a)
  have rv : Vals [V.ref (h0.objs.size + 1)] [Value.ref (h0.objs.size + 1)] := .cons rfl .nil
  have len : [Value.ref (h0.objs.size + 1)].length = ps.length := F1.len _ _ _ _ go
  have run := F1.run _ X.stack _ _ ⟨[Value.ref (h0.objs.size + 1)], []⟩ [Value.ref (h0.objs.size + 1)] _ _ (fun _ _ _ => False) (hr.make Ca [] []) (I1.env0.make Ca [] []) (hb _ [Value.ref (h0.objs.size + 1)] I1.kIn len) rv go
  refine wpAny_call (PySem.HandSPX.call_own B.F (fun Y => PySem.GXB.refsT_contains Y bm hbm) (I0.kIn _ _ hC) (PySem.W.looks_findIn I0.kIn iC) (fun self => PySem.W.bind_fn I0.kIn self tI) (Nat.zero_le _) (codeAny_mono run fun r s' hq => ?_))
  cases r with
  | error er => exact hx pins σ _ _ er s' I1 hq
  | ok fl =>
    cases fl with
    | ret u =>
      obtain ⟨v, H2, os2, bare, un, hok, r1, ev, q2⟩ := hq
      subst ev
      obtain ⟨h2, g2, d2, t2, o2⟩ := s'
      exact ⟨r1, .ref (h0.objs.size + 1), H2, I1.call' (ch := []) os2 un hok bare (fun b z => absurd z (by simp)), rfl, q2⟩
    | next => exact hq.elim
    | brk => exact hq.elim
    | cont => exact hq.elim
theorem pe_xof {e : Expr} {te : TE} {n : Str} (he : PE X e te) (hb : attributeBase e n X.env (eval e X.env) = eval e X.env := by rfl) :
    PE X (.Attribute e n pos) (fun σ H Q => te σ H fun u H1 => ∃ (a C d : Addr) (fs : List (Str × V)) (v : V), u = .ref a ∧ XfC X.K C ∧ PySem.W.findIn X.K (.ref C) n = some none ∧ H1 a = some (exo a C (some d)) ∧ H1 d = some (exd d fs) ∧ fs.lookup n = some v ∧ Q v H1) := by
  refine ⟨fun pins s σ H Q I h => ?_⟩
  refine attr_of hb (thn (he.run pins s σ H _ I h) fun u s1 hh => ?_)
  obtain ⟨y, H1, I1, rx, a, C, d, fs, v, ey, T, hno, ea, ed, l, q⟩ := hh
  subst ey
  obtain rfl : u = Value.ref a := rx
  obtain ⟨t1, ho⟩ := exo_at I1.hok ea
  obtain ⟨mA, hns, rel⟩ := exd_at I1.hok ed
  obtain ⟨od, hod, hl⟩ := lookIn_ns hns
  obtain ⟨u, hu, ru⟩ := RelO.some_of (v := v) (o := mA n) (by rw [← l]; exact rel n)
  have J : PySem.W.InstAt s1.heap a { cls := .ref C, dict := some d, data := .fields #[.ref t1, .none, .none, .none, .bool false, .none] } C (some od) := ⟨ho, rfl, rfl, hod⟩
  exact HandSPX.exc_get I1.kIn J T.ga T.gg T.exC (PySem.W.findObj_own T.hdC hno rfl (by rw [hl, hu])) (handed_of ru) ⟨v, H1, I1.tok _, ru, q⟩
end
end G
namespace G
open PySem PySem.Spec L2 NdefX
open PyProof.Rows hiding St
def sOexF (n : Nat) (mkD : List D → List D) (i : Nat) (fs : Se (List X)) : Se X := fun Γ => (fs Γ).bind fun xs => if xs.length = n ∧ n < 100 ∧ xs.any X.tn = false then (match (mkD (xs.map X.toD))[i]? with
  | some d => .ret (.p d)
  | none => .fail) else .fail
section
variable {Z : Cx} {g B : Cf} {W : XK} {T : List Addr} {He : Hp} {e : Expr} {es : List Expr} {fs : Se (List X)} {x f : Str} {p pos pos' : Pos}
theorem exo_eq {H : Hp} {a d : Addr} {o1 o2 o3 : HO} (ne : d ≠ a) : upd (upd (upd H a o1) d o2) a o3 = upd (upd H d o2) a o3 := by
  funext b
  by_cases h : b = a
  · subst h; rw [upd_same, upd_same]
  · rw [upd_ne h, upd_ne h]
    by_cases h2 : b = d
    · subst h2; rw [upd_same, upd_same]
    · rw [upd_ne h2, upd_ne h2, upd_ne h]
theorem zdc_ {S : List Addr} {H H1 : Hp} {Γ : List Sl} {σ : L2.St} {Q : VK} {vs : List V} {ds : List D} {ns : List Str} {n i : Nat} {a d Ca : Addr} {mkV : List V → List (Str × V)} {mkD : List D → List D} (hi : ns[i]? = some f)
    (hrel : ∀ (H : Hp) (vs : List V) (ds : List D), RpA g H vs ds → ds.length = n → FieldsOk g H ns (mkV vs) (mkD ds)) (hxf : XfC Z.K Ca) (hno : PySem.W.findIn Z.K (.ref Ca) f = some none) (l1 : Rl g T He S H1 Γ σ) (e1 : Ext g.fd H H1)
    (xx : RpA g (off H1 (T ++ S)) vs ds) (hn : ds.length = n) (na : H1 a = none) (hd : upd H1 a (exo a Ca none) d = none) (ne : d ≠ a)
    (w : (match (mkD ds)[i]? with
      | some d => M.ret (X.p d)
      | none => .fail).wp (xp g W T He) fun x => ∀ v H', Ext g.fd H H' → RpX g T S H H' v x → Q v H') :
    ∃ (a' C d' : Addr) (fv : List (Str × V)) (v : V), V.ref a = .ref a' ∧ XfC Z.K C ∧ PySem.W.findIn Z.K (.ref C) f = some none ∧ upd (upd (upd H1 a (exo a Ca none)) d (exd d (mkV vs))) a (exo a Ca (some d)) a' = some (exo a' C (some d')) ∧
      upd (upd (upd H1 a (exo a Ca none)) d (exd d (mkV vs))) a (exo a Ca (some d)) d' = some (exd d' fv) ∧ fv.lookup f = some v ∧ Q v (upd (upd (upd H1 a (exo a Ca none)) d (exd d (mkV vs))) a (exo a Ca (some d))) := by
  have hd1 : H1 d = none := by rw [upd_ne ne] at hd; exact hd
  have na1 : upd H1 d (exd d (mkV vs)) a = none := by rw [upd_ne (Ne.symm ne)]; exact na
  have l2 := l1.mono (l1.ext_new (o := exd d (mkV vs)) hd1)
  have l3 := l2.mono (l2.ext_new (o := exo a Ca (some d)) na1)
  have ex : Ext g.fd H (upd (upd H1 d (exd d (mkV vs))) a (exo a Ca (some d))) := (e1.trans (l1.ext_new (o := exd d (mkV vs)) hd1)).trans (l2.ext_new (o := exo a Ca (some d)) na1)
  obtain ⟨hl, hf⟩ := hrel (off (upd (upd H1 d (exd d (mkV vs))) a (exo a Ca (some d))) (T ++ S)) vs ds ((xx.new hd1).new na1) hn
  obtain ⟨v, dd, lv, ld, rv⟩ := hf i f hi
  rw [exo_eq ne]
  rw [ld] at w
  refine ⟨a, Ca, d, mkV vs, v, rfl, hxf, hno, upd_same, by rw [upd_ne ne, upd_same], lv, w v _ ex rv⟩
theorem zaz_ {n i : Nat} {ns : List Str} {Ca : Addr} {mkV : List V → List (Str × V)} {mkD : List D → List D} (hr : RT 2 Z W) (mk : XMk Z.prog Z.w Z.K Z.mg Z.base x Ca n mkV) (hxf : XfC Z.K Ca) (hno : PySem.W.findIn Z.K (.ref Ca) f = some none) (hi : ns[i]? = some f)
    (hrel : ∀ (H : Hp) (vs : List V) (ds : List D), RpA g H vs ds → ds.length = n → FieldsOk g H ns (mkV vs) (mkD ds)) (hg : Gl Z x) (ha : EA Z g W T He (e :: es) fs)
    (hdb : (x == ("__debug__" : Str)) = false := by decide) (he : starEach (e :: es) Z.env = (false, eval e Z.env) :: starEach es Z.env := by rfl) (hpl : (backTo pos (starEach es Z.env)).any (·.1) = false := by rfl)
    (hbase : attributeBase (.Call (.Name x p) (e :: es) [] pos) f Z.env (eval (.Call (.Name x p) (e :: es) [] pos) Z.env) = eval (.Call (.Name x p) (e :: es) [] pos) Z.env := by rfl) :
    EV Z g W T He (.Attribute (.Call (.Name x p) (e :: es) [] pos) f pos') (sOexF n mkD i fs) := by
  obtain ⟨f0, fd, ps, sp, ox, ini, ity, F1, hb, hsp⟩ := mk.ex
  refine pe_w (pe_xof (pe_oexV (CX := L2.CX Z.prog Z.w) ox ini ity F1 hr.room hb (fun pins σ H s e s' I c => (by obtain ⟨_, _, _, _, _, _, _, _, _, _, _, _, z⟩ := c; exact z.elim)) hg mk.nm ha hdb he hpl) hbase) fun σ H Q ⟨Γ, S, rl, w⟩ => ?_
  simp only [sOexF, M.wp_bind] at w
  refine rdA.use rl (M.wp_mono (fun xs w vs H1 e1 l1 xx => ?_) w)
  split at w
  rotate_left
  · exact w.elim
  rename_i hn
  obtain ⟨hn, hn2, htn⟩ := hn
  have hl : vs.length = n := by rw [xx.length]; exact hn
  refine ⟨by omega, fun a na => ?_⟩
  refine hsp vs a _ _ _ hl upd_same fun d hd ne => ⟨rfl, ?_⟩
  exact zdc_ hi hrel hxf hno l1 e1 (xx.toD' htn) (by rw [List.length_map]; exact hn) na hd ne w
theorem zbQ_ {i : Nat} {ns : List Str} {Ca : Addr} {mkV : List V → List (Str × V)} {mkD : List D → List D} (hr : RT 2 Z W) (mk : XMk Z.prog Z.w Z.K Z.mg Z.base x Ca 0 mkV) (hxf : XfC Z.K Ca) (hno : PySem.W.findIn Z.K (.ref Ca) f = some none) (hi : ns[i]? = some f)
    (hrel : ∀ (H : Hp) (vs : List V) (ds : List D), RpA g H vs ds → ds.length = 0 → FieldsOk g H ns (mkV vs) (mkD ds)) (hg : Gl Z x) (hdb : (x == ("__debug__" : Str)) = false := by decide)
    (hbase : attributeBase (.Call (.Name x p) [] [] pos) f Z.env (eval (.Call (.Name x p) [] [] pos) Z.env) = eval (.Call (.Name x p) [] [] pos) Z.env := by rfl) :
    EV Z g W T He (.Attribute (.Call (.Name x p) [] [] pos) f pos') (sOexF 0 mkD i sNil) := by
  obtain ⟨f0, fd, ps, sp, ox, ini, ity, F1, hb, hsp⟩ := mk.ex
  refine pe_w (pe_xof (zdh_ (CX := L2.CX Z.prog Z.w) ox ini ity F1 hr.room hb (fun pins σ H s e s' I c => (by obtain ⟨_, _, _, _, _, _, _, _, _, _, _, _, z⟩ := c; exact z.elim)) hg mk.nm hdb) hbase) fun σ H Q ⟨Γ, S, rl, w⟩ => ?_
  simp only [sOexF, sNil, M.wp_bind] at w
  rw [M.wp_ret, if_pos ⟨rfl, by decide, rfl⟩] at w
  intro a na
  refine hsp [] a _ _ _ rfl upd_same fun d hd ne => ⟨rfl, ?_⟩
  exact zdc_ (n := 0) (ds := []) hi hrel hxf hno rl (rl.same (Same.refl _)) .nil rfl na hd ne w
end
end G
namespace PySem
namespace GXK
open Builtin PySem.Spec PySem.HandSPX
section
variable {M : Model} {A : Around} {E : Value → Shared → Prop} {h : Heap} {g : Array GenState} {d : Drawn} {t : Nat} {os : OsState}
variable {nm q : Str} {C N : Addr} {bs bm bmB : List Value} {hdct : Bool} {sn : List Str} {sub : List Value} {ab : Bool} {col : Option Bool} {dd : Option Addr} {k0 k1 k2 k3 k5 : Option Value} {B newId initId : String}
theorem zdj_ (F : ExcBaseFacts B newId initId bmB) (hT : ∀ X : String, bm.contains (.type X) = bmB.contains (.type X)) {rest : List Value} {kw : List (Str × Value)} {Q : Unit → Shared → Prop}
    (hC : h.get? C = some (excClassObj nm q C N bs bm hdct sn sub ab col dd k0 k1 k2 k3 k5 newId)) (hq : Q () ⟨h, g, d, t, os⟩) : wpAny M A (checkBuiltinCall newId ⟨.ref C :: rest, kw⟩) Q E ⟨h, g, d, t, os⟩ := by
  have hcont : (Value.ref C :: bm).contains (.type B) = true := by rw [List.contains_cons, hT, F.hasB, Bool.or_true]
  have hstar := F.noStar
  simp only [checkBuiltinCall, F.newKind, F.newSplit, F.newRow]
  repeat (first | refine wpAny_loadPart_at hC ?_ | (refine wpAny_isSubtype_exc hC ?_; rw [hcont]) | refine wpAny_staticBase_exc hC ?_ | refine wpAny_madeBy_exc hC ?_ | simp only [bne_self_eq_false, Bool.false_eq_true, if_false] | wp_step)
  exact hq
end
section
variable {prog : Program} {w : World} {A : Around} {E : Value → Shared → Prop} {R : Result → Shared → Prop} {h : Heap} {g : Array GenState} {d : Drawn} {t : Nat} {os : OsState}
variable {nm q : Str} {C N : Addr} {bs bm bmB : List Value} {hdct : Bool} {sn : List Str} {sub : List Value} {ab : Bool} {col : Option Bool} {dd : Option Addr} {k0 k1 k2 k3 k5 : Option Value} {B newId initId : String}
theorem newK_own (F : ExcBaseFacts B newId initId bmB) (hT : ∀ X : String, bm.contains (.type X) = bmB.contains (.type X)) {rest : List Value} {kw : List (Str × Value)}
    (hC : h.get? C = some (excClassObj nm q C N bs bm hdct sn sub ab col dd k0 k1 k2 k3 k5 newId))
    (hq : R (.ok (.ret (.ref (h.objs.size + 1)))) ⟨(h.push { cls := .type "tuple", data := .seq rest.toArray }).push
      { cls := .ref C, data := .fields #[.ref h.objs.size, .none, .none, .none, .bool false, .none] }, g, d, t, os⟩) (hrest : rest.length ≤ sizeLine) :
    codeAny (model prog w) A (.builtin newId ⟨.ref C :: rest, kw⟩) R ⟨h, g, d, t, os⟩ := by
  have hends := F.ends
  have hcB : (Value.ref C :: bm).contains (.type B) = true := by rw [List.contains_cons, hT, F.hasB, Bool.or_true]
  have hcA : (Value.ref C :: bm).contains (.type "AttributeError") = false := by rw [List.contains_cons, hT, F.noAttr]; rfl
  have hcN : (Value.ref C :: bm).contains (.type "NameError") = false := by rw [List.contains_cons, hT, F.noName]; rfl
  refine codeAny_builtinAt F.entry ?_
  unfold Builtin.«BaseException.__new__»
  refine wpAt_bind ?_
  show wpAt _ _ _ (stack >>= _) _ _ _
  refine wpAt_bind (wpAt_stack fun p below => wpAt_of_wpAny ?_)
  wp_walk
  refine wpAt_of_wpAny ?_
  rw [F.owner]
  repeat (first | with_reducible refine wpAny_madeHere_exc F.canon hC ?_ | with_reducible refine wpAny_loadPart_at hC ?_ | (with_reducible refine wpAny_isSubtype_exc hC ?_; first | rw [hcB] | rw [hcA] | rw [hcN]) | wp_step)
  show R _ _
  rw [Heap.size_push]
  exact hq
theorem zdi_ (F : ExcBaseFacts B newId initId bmB) (hT : ∀ X : String, bm.contains (.type X) = bmB.contains (.type X)) {rest : List Value} {kw : List (Str × Value)} {fI : Addr} {Q : Fin → Shared → Prop}
    (hC : h.get? C = some (excClassObj nm q C N bs bm hdct sn sub ab col dd k0 k1 k2 k3 k5 newId))
    (hi : W.Looks (model prog w) h (typeLookup (.ref C) "__init__") (some (.ref fI))) (hb : ∀ self, W.Looks (model prog w) h (bindSpecial (.ref fI) self) (.ref fI, [self])) (hrest : rest.length ≤ sizeLine)
    (hq : codeAny (model prog w) A (.call (.ref fI) ⟨.ref (h.objs.size + 1) :: rest, kw⟩)
      (fun r s' => match r with | .ok (.ret v) => v = .none ∧ Q (.done (.ret (.ref (h.objs.size + 1)))) s' | .ok _ => False | .error e => E e s')
      ⟨(h.push (W.kdv_tup rest)).push (excO C h.objs.size), g, d, t, os⟩) :
    wpAny (model prog w) A (Builtin.«type.__call__» ⟨.ref C :: rest, kw⟩) Q E ⟨h, g, d, t, os⟩ := by
  repeat (first | with_reducible refine wpAny_loadPart_at hC ?_ | with_reducible refine wpAny_madeBy_exc hC ?_ | wp_step)
  refine codeAny_call_builtin_code (Code.quiet_builtin _ F.quiet) (zdj_ F hT hC ?_)
  refine newK_own F hT hC ?_ hrest
  show wpAny _ _ _ _ _ _
  have k : ∀ b o, h.get? b = some o → ((h.push (W.kdv_tup rest)).push (excO C h.objs.size)).get? b = some o := fun b o e => Heap.get?_push_of_some _ (Heap.get?_push_of_some _ e)
  have hC₁ := k _ _ hC
  have hget : ((h.push (W.kdv_tup rest)).push (excO C h.objs.size)).get? (h.objs.size + 1) = some (excO C h.objs.size) := by heap_get
  have hcC : (Value.ref C :: bm).contains (.ref C) = true := by simp
  have i1 := hi.keeps k
  have b1 := (hb (.ref (h.objs.size + 1))).keeps k
  unfold isInstance
  repeat (first | with_reducible refine wpAny_loadPart_at hget ?_ | (with_reducible refine wpAny_isSubtype_exc hC₁ ?_; rw [hcC]) | wp_step)
  show wpAny _ _ (typeLookup (.ref C) _) _ _ _
  refine i1.at ?_
  refine wpAny_holding (wpAny_bind (b1.at ?_))
  refine wpAny_bind (wpAny_call (codeAny_mono hq fun r s' z => ?_))
  rcases r with e | (v | _ | _ | _) <;> first | exact z | exact z.elim | skip
  obtain ⟨rfl, z⟩ := z
  first
    | exact wpAny_pure (wpAny_pure z)
    | (wp_walk; exact z)
theorem callK (F : ExcBaseFacts B newId initId bmB) (hT : ∀ X : String, bm.contains (.type X) = bmB.contains (.type X)) {rest : List Value} {kw : List (Str × Value)} {fI : Addr}
    (hC : h.get? C = some (excClassObj nm q C N bs bm hdct sn sub ab col dd k0 k1 k2 k3 k5 newId))
    (hi : W.Looks (model prog w) h (typeLookup (.ref C) "__init__") (some (.ref fI))) (hb : ∀ self, W.Looks (model prog w) h (bindSpecial (.ref fI) self) (.ref fI, [self])) (hrest : rest.length ≤ sizeLine)
    (hq : codeAny (model prog w) (A.under (.builtin "type.__call__" ⟨.ref C :: rest, kw⟩)) (.call (.ref fI) ⟨.ref (h.objs.size + 1) :: rest, kw⟩) (W.InitBack (h.objs.size + 1) R)
      ⟨(h.push (W.kdv_tup rest)).push (excO C h.objs.size), g, d, t, os⟩) :
    codeAny (model prog w) A (.call (.ref C) ⟨rest, kw⟩) R ⟨h, g, d, t, os⟩ := by
  have f1 := tc_lookup
  have f2 := tc_bind (.ref C)
  have hTy : (⟨h, g, d, t, os⟩ : Shared).TypeIs (.ref C) "type" := ⟨_, hC, rfl⟩
  refine codeAny_of_tree ?_
  show wpAny _ _ (callAny (.ref C) _) _ _ _
  repeat (any_goals (first | assumption | with_reducible refine wpAny_loadPart_at hC ?_ | wp_step))
  refine ⟨rfl, ?_⟩
  refine codeAny_call_builtin_at (Code.quiet_builtin _ (by decide +kernel)) entry_typeCall (wpAny_check_type_call_sub hC (zdi_ F hT hC hi hb hrest ?_))
  refine codeAny_mono hq fun r s' z => ?_
  rcases r with e | (v | _ | _ | _) <;> exact z
end
end GXK
end PySem
namespace G
open PySem PySem.Spec L2 NdefX
open PyProof.Rows hiding St
structure XMkK (P : Program) (w : World) (K : PySem.W.Frag) (mg : Str → Option Value) (base : Heap) (x : Str) (Ca : Addr) (k : Str) (mkV : List V → List (Str × V)) : Prop where
  nm : mg x = some (.ref Ca)
  ex : ∃ f fd ps sp, OexC K Ca ∧ PySem.W.findIn K (.ref Ca) "__init__" = some (some (.ref f)) ∧ PySem.W.typeIn K (.ref f) = some (.type "function") ∧ FnOk P w K mg base (L2.CX P w) 1 f fd ps sp ∧
    (∀ (s : Shared) (u v : Value), K.In s.heap → BindsTo s fd ⟨[u], [(k, v)]⟩ (ps.zip [u, v])) ∧
    ∀ (vs : List V) (a : Addr) (H : Hp) (Q : VK) (E : XK), vs.length = 1 → H a = some (exo a Ca none) → (∀ d, H d = none → d ≠ a → Q .non (upd (upd H d (exd d (mkV vs))) a (exo a Ca (some d)))) → sp (.ref a :: vs) H Q E
section
variable {P : Program} {w : World} {K : PySem.W.Frag} {mg : Str → Option Value} {base : Heap} {C f cc : Addr} {F : NF} {x p q z code : Str} {j j' : Nat} {p0 p1 p2 p3 p4 p5 a0 a1 a2 a3 b0 b1 b2 b3 c0 c1 c2 c3 : Pos}
theorem xmk1k (T : SxC P K C f cc F ["self", p, "__class__"] ["self", p]) (hm : mg x = some (.ref C)) (hmg : mg "super" = none) (hbody : F.body = [supS p0 p1 p2 p3 p4 p5 z j, stN p a0 a1 a2 a3, stC code j' c0 c1 c2 c3])
    (hev : ∀ L, SupEv p0 p1 p2 p3 p4 z j (envF F f L)) (hd : (p == ("__debug__" : Str)) = false) (hcd : (p == ("__classdict__" : Str)) = false) (n1 : PySem.W.findIn K (.ref C) p = some none) (n2 : PySem.W.findIn K (.ref C) "code" = some none)
    (hb : ∀ kV doc pm an ct (u v : Value), bindArgs (PySem.W.fnX F.name F.qual F.params F.body F.scope F.cl .none kV doc pm an (.ref F.c) ct) ⟨[u], [(p, v)]⟩ = pure ((["self", p] : List Str).zip [u, v])) : XMkK P w K mg base x C p fun vs => [("code", .str code), (p, vs.headD .non)] := by
  have v0 : Vis F.scope "self" := .inl (T.sc.par _ (by simp))
  have v1 : Vis F.scope p := .inl (T.sc.par _ (by simp))
  obtain ⟨fd, ⟨kV, doc, pm, an, ct, rfl⟩, FO⟩ := sx_fn (w := w) (mg := mg) (base := base) (t := tSeq (tOst K p (tVar 0) (tVar 1)) (tOst K "code" (tVar 0) (tC (.str code)))) T hmg (by simp) hbody hev (fun L => rfl) (fun L => by simp [interactive, T.sc.kind]) (fun A outer s H E =>
    pss_cons (zcC_ (pe_var (x := "self") (i := 0) rfl v0) (pe_var (i := 1) rfl v1 hd hcd)) (pss_one (zcC_ (f := "code") (pe_var (x := "self") (i := 0) rfl v0) (pe_str (x := code) (j := j')))))
  refine ⟨hm, f, _, _, _, T.ox, T.ini, T.ity, FO, fun s u v X => BindsTo.of_looks fun M => ?_, fun vs a H Q E hl ha k => ?_⟩
  · rw [hb kV doc pm an ct u v]
    exact .of_pure rfl
  obtain ⟨v, rfl⟩ : ∃ v, vs = [v] := by
    match vs, hl with
    | [v], _ => exact ⟨v, rfl⟩
  refine ⟨rfl, a, [v], rfl, ha, ?_⟩
  refine sx_st1 T.ox n1 (za0_ rfl) (za0_ rfl) ha fun d hd ne => ?_
  exact sx_st2 T.ox n2 (za0_ rfl) rdAt_c ne (by simp) (k d hd ne)
end
section
variable {X : Cx} {x : Str} {p pos : Pos}
theorem pe_oexVK {CX : CXT} {Ca fI : Addr} {k : Nat} {kw : Str} {fd : FuncData} {ps : List Str} {sp : Sp} {kws : List Keyword} {tk : TA} (T : OexC X.K Ca) (iC : PySem.W.findIn X.K (.ref Ca) "__init__" = some (some (.ref fI))) (tI : PySem.W.typeIn X.K (.ref fI) = some (.type "function"))
    (F1 : FnOk X.prog X.w X.K X.mg X.base CX k fI fd ps sp) (hr : Room (k + 1) X.A) (hb : ∀ (s : Shared) (u v : Value), X.K.In s.heap → BindsTo s fd ⟨[u], [(kw, v)]⟩ (ps.zip [u, v])) (hx : Passes CX X (fun _ _ _ => False)) (hg : Gl X x) (hm : X.mg x = some (.ref Ca)) (hkw : PK X kws tk)
    (hall : (backToKw pos (keywordEach kws X.env)).all (·.1.isSome) = true := by rfl) (hks : (backToKw pos (keywordEach kws X.env)).filterMap (·.1) = [kw] := by rfl) (hdb : (x == ("__debug__" : Str)) = false := by decide)
    (hpl : ((backTo pos (starEach [] X.env)).any (·.1) || (backToKw pos (keywordEach kws X.env)).any (·.1.isNone)) = false := by rfl) :
    PE X (.Call (.Name x p) [] kws pos) (fun σ H Q => tk σ H fun zs H1 => zs.length = 1 ∧ ∀ a, H1 a = none → sp (.ref a :: zs) (upd H1 a (exo a Ca none)) (fun v H2 => v = .non ∧ Q (.ref a) H2) (fun _ _ _ => False)) := by
  refine ⟨fun pins s0 σ H0 Q I0 h => ?_⟩
  obtain ⟨bB, B, _, _, _, _, bm, _, _, _, _, _, _, _, _, _, _, hC, hbm⟩ := T.cls
  refine wpAny_Call_Name_kw (ld_glob I0 hg hm ?_ hdb)
  refine PySem.W.callWith_KW0 (h₀ := X.base) I0.ok.mod.kin T.kC hall ?_ hpl
  refine thn (hkw.run pos pins s0 σ H0 _ I0 h) fun ws s2 ⟨zs, H2, I2, rz, l1, q2⟩ => ⟨I2.kIn, ?_⟩
  rw [hks]
  obtain ⟨z, rfl⟩ : ∃ z, zs = [z] := by
    match zs, l1 with
    | [z], _ => exact ⟨z, rfl⟩
  cases rz with
  | @cons _ u _ us hu ht =>
  cases ht
  show wpAny _ _ (call (.ref Ca) [] [(kw, u)]) _ _ _
  obtain ⟨h0, g0, r0, t0, o0⟩ := s2
  have la : h0.objs.size ≤ h0.objs.size + 1 := by omega
  have na : H2 (h0.objs.size + 1) = none := I2.hok.fresh la
  have go := q2 (h0.objs.size + 1) na
  have there : ∀ b o, h0.get? b = some o → ((h0.push (PySem.W.kdv_tup [])).push (PySem.HandSPX.excO Ca h0.objs.size)).get? b = some o := fun _ _ e => Heap.get?_push_of_some _ (Heap.get?_push_of_some _ e)
  have at_a : ((h0.push (PySem.W.kdv_tup [])).push (PySem.HandSPX.excO Ca h0.objs.size)).get? (h0.objs.size + 1) = some (PySem.HandSPX.excO Ca h0.objs.size) := by heap_get
  have I1 : Inv X pins σ (upd H2 (h0.objs.size + 1) (exo (h0.objs.size + 1) Ca none)) ⟨(h0.push (PySem.W.kdv_tup [])).push (PySem.HandSPX.excO Ca h0.objs.size), g0, r0, t0, o0⟩ := I2.laid (t' := t0) (a := h0.objs.size + 1) (o := exo (h0.objs.size + 1) Ca none) there la (exo_ok at_a)
  have rv : Vals [V.ref (h0.objs.size + 1), z] [Value.ref (h0.objs.size + 1), u] := .cons rfl (.cons hu .nil)
  have run := F1.run _ X.stack _ _ ⟨[Value.ref (h0.objs.size + 1)], [(kw, u)]⟩ [Value.ref (h0.objs.size + 1), u] _ _ (fun _ _ _ => False) (hr.make Ca [] [(kw, u)]) (I1.env0.make Ca [] [(kw, u)]) (hb _ _ _ I1.kIn) rv go
  refine wpAny_call (PySem.GXK.callK B.F (fun Y => PySem.GXB.refsT_contains Y bm hbm) (I2.kIn _ _ hC) (PySem.W.looks_findIn I2.kIn iC) (fun self => PySem.W.bind_fn I2.kIn self tI) (Nat.zero_le _) (codeAny_mono run fun r s' hq => ?_))
  cases r with
  | error er => exact hx pins σ _ _ er s' I1 hq
  | ok fl =>
    cases fl with
    | ret u =>
      obtain ⟨v, H3, os2, bare, un, hok, r1, ev, q3⟩ := hq
      subst ev
      obtain ⟨h2, g2, d2, t2, o2⟩ := s'
      exact ⟨r1, .ref (h0.objs.size + 1), H3, I1.call' (ch := []) os2 un hok bare (fun b z => absurd z (by simp)), rfl, q3⟩
    | next => exact hq.elim
    | brk => exact hq.elim
    | cont => exact hq.elim
end
section
variable {Z : Cx} {g B : Cf} {W : XK} {T : List Addr} {He : Hp} {kws : List Keyword} {fs : Se (List X)} {x f : Str} {p pos pos' : Pos}
theorem zcI_ {i : Nat} {k : Str} {ns : List Str} {Ca : Addr} {mkV : List V → List (Str × V)} {mkD : List D → List D} (hr : RT 2 Z W) (mk : XMkK Z.prog Z.w Z.K Z.mg Z.base x Ca k mkV) (hxf : XfC Z.K Ca) (hno : PySem.W.findIn Z.K (.ref Ca) f = some none) (hi : ns[i]? = some f)
    (hrel : ∀ (H : Hp) (vs : List V) (ds : List D), RpA g H vs ds → ds.length = 1 → FieldsOk g H ns (mkV vs) (mkD ds)) (hg : Gl Z x) (hkw : EK Z g W T He kws fs)
    (hall : (backToKw pos (keywordEach kws Z.env)).all (·.1.isSome) = true := by rfl) (hks : (backToKw pos (keywordEach kws Z.env)).filterMap (·.1) = [k] := by rfl) (hdb : (x == ("__debug__" : Str)) = false := by decide)
    (hpl : ((backTo pos (starEach [] Z.env)).any (·.1) || (backToKw pos (keywordEach kws Z.env)).any (·.1.isNone)) = false := by rfl)
    (hbase : attributeBase (.Call (.Name x p) [] kws pos) f Z.env (eval (.Call (.Name x p) [] kws pos) Z.env) = eval (.Call (.Name x p) [] kws pos) Z.env := by rfl) :
    EV Z g W T He (.Attribute (.Call (.Name x p) [] kws pos) f pos') (sOexF 1 mkD i fs) := by
  obtain ⟨f0, fd, ps, sp, ox, ini, ity, F1, hb, hsp⟩ := mk.ex
  refine pe_w (pe_xof (pe_oexVK (CX := L2.CX Z.prog Z.w) ox ini ity F1 hr.room hb (fun pins σ H s e s' I c => (by obtain ⟨_, _, _, _, _, _, _, _, _, _, _, _, z⟩ := c; exact z.elim)) hg mk.nm hkw hall hks hdb hpl) hbase) fun σ H Q ⟨Γ, S, rl, w⟩ => ?_
  simp only [sOexF, M.wp_bind] at w
  refine rdA.use rl (M.wp_mono (fun xs w vs H1 e1 l1 xx => ?_) w)
  split at w
  rotate_left
  · exact w.elim
  rename_i hn
  obtain ⟨hn, hn2, htn⟩ := hn
  have hl : vs.length = 1 := by rw [xx.length]; exact hn
  refine ⟨hl, fun a na => ?_⟩
  refine hsp vs a _ _ _ hl upd_same fun d hd ne => ⟨rfl, ?_⟩
  exact zdc_ hi hrel hxf hno l1 e1 (xx.toD' htn) (by rw [List.length_map]; exact hn) na hd ne w
end
end G
namespace PySem.GXI
open PySem PySem.Spec PySem.Calls PySem.W PyProof.Rows
section
variable {prog : Program} {w : World} {A : Around} {E : Value → Shared → Prop} {s : Shared} {K : Frag} {x D : Addr} {ox : Obj}
theorem zcu_ {C : Addr} {name : Str} {a g : Value} {od : Option Obj} (hc : (clsIn K C).isSome = true) (ha : findIn K (.ref C) name = some (some a)) (hg : specialIn K a "__get__" = some (some g)) (ht : takesIn K a = some true) : findObj K C od name = some (.bind g a) := by
  obtain ⟨cd, hc⟩ := Option.isSome_iff_exists.mp hc
  unfold findObj
  rw [hc, Option.bind_some, ha, Option.bind_some]
  simp [hg, ht]
theorem zdo_ {od : Option Obj} {Q : Option Value → Shared → Prop} (hga : findIn K (.ref D) "__getattribute__" = some (some (.builtin "BaseException.__getattribute__"))) (hgt : findIn K (.ref D) "__getattr__" = some none) (hsub : subIn K (.ref D) (.type "BaseException") = some true)
    (hdct : hasDictIn K D = true) (ha : findIn K (.ref D) "__class__" = some (some (.builtin "object.__class__")))
    (hn : specialIn K (.builtin "object.__class__") "__get__" = some (some (.builtin "getset_descriptor.__get__"))) (htk : takesIn K (.builtin "object.__class__") = some true) (hm : mroIn K D (.type "object") = some true)
    (X : K.In s.heap) (I : InstAt s.heap x ox D od) (h : Q (some (.ref D)) { s with toks := s.toks + 1 }) : wpAny (model prog w) A (getAttr? (.ref x) "__class__") Q E s := by
  have hf : findObj K D od "__class__" = some (.bind (.builtin "getset_descriptor.__get__") (.builtin "object.__class__")) := zcu_ (by obtain ⟨cd, hc, _⟩ := any_some hdct; rw [hc]; rfl) ha hn htk
  obtain ⟨hp, g, d, t, os⟩ := s
  have L0 := I.type (M := model prog w)
  have L1 := looks_findIn (M := model prog w) X hga
  have L2 := looks_findIn (M := model prog w) X hgt
  have L3 := looks_find (M := model prog w) X I hf
  have sub : Looks (model prog w) hp (isInstance (.ref x) (.type "BaseException")) true := L0.andThen (looks_subIn X hsub)
  have hx0 : (false && onTheHeap (Value.builtin "BaseException.__getattribute__")) = false := rfl
  have hx2 : (Value.builtin "BaseException.__getattribute__" == Value.builtin "object.__getattribute__") = false := by decide +kernel
  have hx1 : (onTheHeap (Value.ref D) && Value.builtin "BaseException.__getattribute__" == Value.builtin "object.__getattribute__") = false := by rw [hx2]; rfl
  unfold getAttr? getAttrBy? getAttrBy
  refine wpAny_bind (wpAny_mkText (wpAny_bind (wpAny_attempt (wpAny_holding (wpAny_bind (L0.at (wpAny_bind (L1.at ?_))))))))
  show wpAny _ _ (if (onTheHeap (Value.ref D) && Value.builtin "BaseException.__getattribute__" == Value.builtin "object.__getattribute__") = true then _ else _) _ _ _
  rw [hx1, if_neg Bool.false_ne_true]
  unfold getAttrByItsOwn hookBefore
  refine wpAny_bind ?_
  rw [if_pos (show onTheHeap (Value.ref D) = true from rfl)]
  refine L2.at ?_
  refine wpAny_bind (wpAny_attempt (wpAny_holding ?_))
  unfold callGetattribute
  rw [hx0, if_neg Bool.false_ne_true]
  unfold boundAndCalled
  rw [PySem.F.excAttr_ValueError.ga.bind (.ref x)]
  refine wpAny_bind (wpAny_pure ?_)
  show wpAny _ _ (call (.builtin "BaseException.__getattribute__") [.ref x, .str "__class__" t]) _ _ _
  refine wpAny_call (codeAny_call_builtin PySem.F.excAttr_ValueError.ga.plain PySem.F.entry_bexc_ga ?_)
  refine @check_slot (model prog w) _ _ ⟨hp, g, d, t + 1, os⟩ "BaseException.__getattribute__" "BaseException" "__getattribute__" (.ref x) [.str "__class__" t] [] _ (by decide +kernel) (by decide +kernel) sub (PySem.F.args_bexc_ga (.ref x) (.str "__class__" t)) ?_
  unfold Builtin.«object.__getattribute__»
  refine wpAny_bind (wpAny_of_eq (a := ((Value.ref x : Value), [Value.str "__class__" t])) (by first | rfl | (simp only [slotArgs]; rfl)) ?_)
  refine wpAny_bind (wpAny_pure (wpAny_bind (L0.at (wpAny_bind (L3.at ?_)))))
  show wpAny _ _ (holding [Value.builtin "object.__class__"] (call (.builtin "getset_descriptor.__get__") [.builtin "object.__class__", .ref x, .ref D]) >>= ret) _ _ _
  refine wpAny_bind (wpAny_holding (wpAny_call (class_get (s := ⟨hp, g, d, t + 1, os⟩) (ox := ox) (od := od) X I hm ?_)))
  refine wpAny_pure ?_
  show wpAny _ _ (handedOut (.ref D)) _ _ _
  rw [handedOut_of (v := .ref D) rfl]
  first
    | exact wpAny_pure (wpAny_pure h)
    | exact wpAny_pure h
    | exact wpAny_pure (wpAny_bind (wpAny_pure (wpAny_pure h)))
theorem kitx_excO (hga : findIn K (.ref D) "__getattribute__" = some (some (.builtin "BaseException.__getattribute__"))) (hgt : findIn K (.ref D) "__getattr__" = some none) (hsub : subIn K (.ref D) (.type "BaseException") = some true) (hdct : hasDictIn K D = true) (ha : findIn K (.ref D) "__class__" = some (some (.builtin "object.__class__")))
    (hn : specialIn K (.builtin "object.__class__") "__get__" = some (some (.builtin "getset_descriptor.__get__"))) (htk : takesIn K (.builtin "object.__class__") = some true) (hm : mroIn K D (.type "object") = some true) :
    KitX K (.ref x) (.ref D) (fun h => ∃ od, InstAt h x ox D od) where
  ty := fun _ _ _ ⟨_, I⟩ => I.type
  it := fun _ _ X _ => by
    obtain ⟨cdD, hcD, _⟩ := any_some hdct
    unfold clsIn at hcD
    split at hcD
    · rename_i c' d' cd' sl' ho
      intro A' Q' E' s' k q
      unfold isType loadHead
      exact wpAny_bind (wpAny_loadPart (k _ _ (X _ _ ho)) (wpAny_pure q))
    · cases hcD
  ne := fun h tp dd its n sl X htp => by
    obtain ⟨cdD, hcD, _⟩ := any_some hdct
    refine Bool.eq_false_iff.mpr fun q => ?_
    have e : D = tp := Value.ref.inj (beq_iff_eq.mp q)
    subst e
    unfold clsIn at hcD
    split at hcD
    · rename_i c' d' cd' sl' ho
      have z := (X _ _ ho).symm.trans htp
      cases z
    · cases hcD
  ca := fun X ⟨_, I⟩ k => zdo_ hga hgt hsub hdct ha hn htk hm X I k
end
end PySem.GXI
namespace G
open PySem PySem.Spec L2 NdefX
open PyProof.Rows hiding St
def rIsX (K : PySem.W.Frag) : List V → Hp → VK → Prop := fun xs H Q => ∃ (a D : Addr) (d : Option Addr) (c : V) (cv : Value) (b : Bool), xs = [.ref a, c] ∧ H a = some (exo a D d) ∧ (∀ dd, d = some dd → ∃ fs, H dd = some (exd dd fs)) ∧ ExcC K D ∧ (∀ u, RelV c u → u = cv) ∧ PySem.W.kitOne K (.ref D) cv = some b ∧ Q (.bl b) H
theorem call_isX {X : Cx} : CallR X (.builtin "isinstance") (rIsX X.K) := by
  intro pins s σ H xs us Q I r h
  obtain ⟨a, D, d, c, cv, b, rfl, ha, hd, C, hcv, e, q⟩ := h
  cases r with
  | cons rx rr =>
    cases rr with
    | cons rt rr =>
      cases rr
      cases rx
      have ec := hcv _ rt
      subst ec
      obtain ⟨t1, ho⟩ := exo_at I.hok ha
      have J : ∃ od, PySem.W.InstAt s.heap a { cls := .ref D, dict := d, data := .fields #[.ref t1, .none, .none, .none, .bool false, .none] } D od := by
        cases d with
        | none => exact ⟨none, ho, rfl, rfl, trivial⟩
        | some dd =>
          obtain ⟨fs, ed⟩ := hd dd rfl
          obtain ⟨mA, ⟨o, es, ep, hoD, _⟩, _⟩ := exd_at I.hok ed
          exact ⟨some o, ho, rfl, rfl, hoD⟩
      exact PySem.W.kia_one (PySem.GXI.kitx_excO C.hg C.hk C.hs C.hd C.ha C.hn C.ht C.hm) I.kIn J e (fun z => nomatch z) fun tk => ⟨.bl b, H, I.kept (t' := tk) fun _ _ z => z, rfl, q⟩
end G
namespace G
open PySem PySem.Spec L2 NdefX
open PyProof.Rows hiding St
def exFd (ae : Nat → Addr) : Fdx := ⟨none, [], fun j a H => ∃ d fs, H a = some (exo a (ae j) (some d)) ∧ H d = some (exd d fs), fun e ⟨d, fs, h1, h2⟩ => ⟨d, fs, e _ _ h1, e _ _ h2⟩⟩
def sOex (C n : Nat) (fs : Se (List X)) : Se X := fun Γ => (fs Γ).bind fun xs => if xs.length = n ∧ n < 100 then .ret (.p (.fn C)) else .fail
def sIsx (p : Nat → Option Bool) (f : Se X) : Se X := fun Γ => (f Γ).bind fun x => match x with
  | .p (.fn j) => (match p j with
    | some b => .ret (.p (.bl b))
    | none => .fail)
  | _ => .fail
section
variable {Z : Cx} {g : Cf} {W : XK} {T : List Addr} {He : Hp} {e : Expr} {es : List Expr} {fs : Se (List X)} {f1 : Se X} {x f : Str} {p pos pos' : Pos}
theorem zc2_ {S : List Addr} {H H1 : Hp} {Γ : List Sl} {σ : L2.St} {Q : VK} {a d Ca : Addr} {C : Nat} {fv : List (Str × V)} (hfd : g.fd = exFd g.ae) (hC : g.ae C = Ca) (l1 : Rl g T He S H1 Γ σ) (e1 : Ext g.fd H H1)
    (na : H1 a = none) (hd : upd H1 a (exo a Ca none) d = none) (ne : d ≠ a) (w : ∀ v H', Ext g.fd H H' → RpX g T S H H' v (.p (.fn C)) → Q v H') :
    Q (.ref a) (upd (upd (upd H1 a (exo a Ca none)) d (exd d fv)) a (exo a Ca (some d))) := by
  have hd1 : H1 d = none := by rw [upd_ne ne] at hd; exact hd
  have na1 : upd H1 d (exd d fv) a = none := by rw [upd_ne (Ne.symm ne)]; exact na
  have l2 := l1.mono (l1.ext_new (o := exd d fv) hd1)
  have ex : Ext g.fd H (upd (upd H1 d (exd d fv)) a (exo a Ca (some d))) := (e1.trans (l1.ext_new (o := exd d fv) hd1)).trans (l2.ext_new (o := exo a Ca (some d)) na1)
  rw [exo_eq ne]
  refine w (.ref a) _ ex (Rp.fn ?_)
  rw [hfd]
  refine ⟨d, fv, ?_, ?_⟩
  · rw [za4_ (l1.freeTS na), upd_same, hC]
  · rw [za4_ (l1.freeTS hd1), upd_ne ne, upd_same]
theorem zcZ_ {C n : Nat} {Ca : Addr} {mkV : List V → List (Str × V)} (hr : RT 2 Z W) (mk : XMk Z.prog Z.w Z.K Z.mg Z.base x Ca n mkV) (hfd : g.fd = exFd g.ae) (hC : g.ae C = Ca) (hg : Gl Z x) (ha : EA Z g W T He (e :: es) fs)
    (hdb : (x == ("__debug__" : Str)) = false := by decide) (he : starEach (e :: es) Z.env = (false, eval e Z.env) :: starEach es Z.env := by rfl) (hpl : (backTo pos (starEach es Z.env)).any (·.1) = false := by rfl) :
    EV Z g W T He (.Call (.Name x p) (e :: es) [] pos) (sOex C n fs) := by
  obtain ⟨f0, fd, ps, sp, ox, ini, ity, F1, hb, hsp⟩ := mk.ex
  refine pe_w (pe_oexV (CX := L2.CX Z.prog Z.w) ox ini ity F1 hr.room hb (fun pins σ H s e s' I c => (by obtain ⟨_, _, _, _, _, _, _, _, _, _, _, _, z⟩ := c; exact z.elim)) hg mk.nm ha hdb he hpl) fun σ H Q ⟨Γ, S, rl, w⟩ => ?_
  simp only [sOex, M.wp_bind] at w
  refine rdA.use rl (M.wp_mono (fun xs w vs H1 e1 l1 xx => ?_) w)
  split at w
  rotate_left
  · exact w.elim
  rename_i hn
  obtain ⟨hn, hn2⟩ := hn
  have hl : vs.length = n := by rw [xx.length]; exact hn
  refine ⟨by omega, fun a na => ?_⟩
  refine hsp vs a _ _ _ hl upd_same fun d hd ne => ⟨rfl, ?_⟩
  exact zc2_ hfd hC l1 e1 na hd ne w
theorem ev_oex0 {C : Nat} {Ca : Addr} {mkV : List V → List (Str × V)} (hr : RT 2 Z W) (mk : XMk Z.prog Z.w Z.K Z.mg Z.base x Ca 0 mkV) (hfd : g.fd = exFd g.ae) (hC : g.ae C = Ca) (hg : Gl Z x) (hdb : (x == ("__debug__" : Str)) = false := by decide) :
    EV Z g W T He (.Call (.Name x p) [] [] pos) (sOex C 0 sNil) := by
  obtain ⟨f0, fd, ps, sp, ox, ini, ity, F1, hb, hsp⟩ := mk.ex
  refine pe_w (zdh_ (CX := L2.CX Z.prog Z.w) ox ini ity F1 hr.room hb (fun pins σ H s e s' I c => (by obtain ⟨_, _, _, _, _, _, _, _, _, _, _, _, z⟩ := c; exact z.elim)) hg mk.nm hdb) fun σ H Q ⟨Γ, S, rl, w⟩ => ?_
  simp only [sOex, sNil, M.wp_bind] at w
  rw [M.wp_ret, if_pos ⟨rfl, by decide⟩] at w
  intro a na
  refine hsp [] a _ _ _ rfl upd_same fun d hd ne => ⟨rfl, ?_⟩
  exact zc2_ hfd hC rl (rl.same (Same.refl _)) na hd ne w
theorem zck_ {ce : Expr} {px : Pos} {cv : V} {u : Value} {q : Nat → Option Bool} (hK : Z.K = g.K) (hfd : g.fd = exFd g.ae) (hq : ∀ j b, q j = some b → ExcC g.K (g.ae j) ∧ PySem.W.kitOne g.K (.ref (g.ae j)) u = some b) (cl : ClsV cv u) (hg : Gl Z "isinstance") (hm : Z.mg "isinstance" = none)
    (he : EV Z g W T He e f1) (hce : PE Z ce (tC cv)) (hs : starEach (e :: [ce]) Z.env = (false, eval e Z.env) :: starEach [ce] Z.env := by rfl) (hs2 : starEach [ce] Z.env = (false, eval ce Z.env) :: starEach [] Z.env := by rfl) (hpl : (backTo pos (starEach [ce] Z.env)).any (·.1) = false := by rfl) :
    EV Z g W T He (.Call (.Name "isinstance" px) [e, ce] [] pos) (sIsx q f1) :=
  pe_w (pe_callB call_isX hg hm (by decide +kernel) (pa_cons he (pa_cons hce pa_nil hs2) hs) (by decide) (by decide) hs hpl) fun σ H Q ⟨Γ, S, rl, w⟩ => by
    simp only [sIsx, M.wp_bind] at w
    refine rdE.use rl (M.wp_mono (fun x w v1 H1 e1 l1 x1 => ?_) w)
    match x, w, x1 with
    | .p (.fn j), w, x1 =>
      dsimp only at w
      cases hb : q j with
      | none => rw [hb] at w; exact w.elim
      | some b =>
        rw [hb] at w
        obtain ⟨c1, c2⟩ := hq j b hb
        cases x1 with
        | @fn a _ h =>
          rw [hfd] at h
          obtain ⟨d, fv, h1, h2⟩ := h
          exact ⟨a, g.ae j, some d, cv, u, b, rfl, zaD_ _ _ _ _ h1, fun dd z => (by cases z; exact ⟨fv, zaD_ _ _ _ _ h2⟩), hK ▸ c1, (fun u' r => by cases cl <;> (cases r; rfl)), hK ▸ c2, w _ H1 e1 (Rp.bl b)⟩
end
section
variable {B : Cf} {P : Program} {w : World} {K : PySem.W.Frag} {mg : Str → Option Value} {base : Heap} {x : Str}
theorem fn_runE {qual : Str} {st : Stmt} {dvs : List V} {kwd : List (Str × V)} {f : Addr} {N : List Str} {fb : Sst} {k : Nat} {b : Bool} (D : Fd K x qual st dvs kwd f) (S : FnScope N [] (defScope st)) (hBK : B.K = K) (hz : runB N.length fb [] = .ret (.dt (.bl b)))
    (hb : ∀ (cdv : Value) (A : Around) (outer : List Env) (s : Shared) (H : Hp) (E : XK), RT k (cxOf (L2.CX P w) P w K mg base N qual (defScope st) f cdv A outer s H E) E →
      PassesOwn (model P w) (A.deeper (envOfC qual (defScope st) s.heap.objs.size f cdv)) (envOfC qual (defScope st) s.heap.objs.size f cdv) (cxOf (L2.CX P w) P w K mg base N qual (defScope st) f cdv A outer s H E).xe →
      ESs (cxOf (L2.CX P w) P w K mg base N qual (defScope st) f cdv A outer s H E) (B.wf (exFd B.ae)) E [] H (defBody st) fb) :
    Fo P w K mg base (L2.CX P w) (k + 1) x qual st dvs kwd f [] (spB B (runB N.length fb) 0) :=
  fo_mkX D S (fun vs H Q E h => h.1) fun cdv A outer s H vs Q E hr ⟨hl, fd, T, ds, fo, r, w⟩ => ⟨_, hb cdv A outer s H E ⟨hr, takes_of rfl rfl rfl rfl⟩ (passes_of rfl), by
    obtain rfl : vs = [] := List.length_eq_zero_iff.mp hl
    cases r
    rw [hz] at w
    have nmv : ∀ {p}, ¬ (exFd B.ae).mv p := fun {p} h => by
      rcases h with ⟨l, h⟩ | ⟨q, h⟩
      · cases h
      · cases h
    have fo2 : FdOk (B.wf (exFd B.ae)) [] H := ⟨fun a h => (by cases h), ⟨fun p h => absurd h nmv, ⟨fun p l h => (by cases h), fun p h => (by cases h)⟩⟩⟩
    refine ⟨frame N.length [], [], Rl.start ⟨rfl, rfl, rfl, rfl, rfl, rfl⟩ rfl rfl fo2 .nil, ?_⟩
    have back : ∀ {H'}, Ext (exFd B.ae) H H' → Ext fd H H' := fun {H'} e => Ext.of_same (fun a o h => e.1 a o nmv h) fo.fd.2
    have w2 : (runB N.length fb []).wp (xp (B.wf (exFd B.ae)) E [] H) fun z => z = .dt (.bl b) := by
      rw [hz]
      exact rfl
    simp only [runB, M.wp_bind] at w2
    refine M.wp_mono (fun p w2 => ?_) w2
    obtain ⟨fl, Γ1⟩ := p
    cases fl with
    | nx => cases w2
    | bk => exact w2.elim
    | ct => exact w2.elim
    | rt z =>
      have e : z = .dt (.bl b) := w2
      subst e
      exact fun v H' e rz => by cases rz; exact w _ H' (back e) (Rp.bl b)⟩
end
end G
namespace Hd
open PySem PySem.Spec PyProof.Rows L2
section
variable {fn : List DefY} {fx : List Fx} {ex : PySem.W.Frag → Bool} {sd : SdL} {w : World} {K : PySem.W.Frag}
theorem SaysY.bools (c : SaysY fn fx ex sd w K) : (fn.all fun d => okAt K d.d (d.ad K)) = true ∧ ex K = true := He.ba (congrArg (fun z : AlY => z.2.2.1) c)
theorem SaysY.def_ (c : SaysY fn fx ex sd w K) (i : Nat) {d : DefY} (h : fn[i]? = some d := by rfl) : ∃ fd, FunD K d.d.name d.d.qual d.d.params d.d.body d.d.scope (d.d.dvs K) (d.d.kws K) (d.ad K) fd := by
  have e : fn.map (fun d => fnAt K (d.ad K)) = fn.map (fun d => d.d.val) := congrArg (fun z : AlY => z.1) c
  have e2 : (fn.map fun d => fnAt K (d.ad K))[i]? = (fn.map fun d => d.d.val)[i]? := by rw [e]
  rw [List.getElem?_map, List.getElem?_map, h] at e2
  exact funAt (Option.some.inj e2) (List.all_eq_true.mp c.bools.1 d (List.mem_of_getElem? h))
theorem SaysY.fx_ (c : SaysY fn fx ex sd w K) (i : Nat) {d : Fx} (h : fx[i]? = some d := by rfl) : fnC K d.C = d.val := by
  have e : fx.map (fun d => fnC K d.C) = fx.map Fx.val := congrArg (fun z : AlY => z.2.1) c
  have e2 : (fx.map fun d => fnC K d.C)[i]? = (fx.map Fx.val)[i]? := by rw [e]
  rw [List.getElem?_map, List.getElem?_map, h] at e2
  exact Option.some.inj e2
mutual
def Cv.toD : Cv → _root_.G.D
  | .non => .non
  | .bl b => .bl b
  | .int i => .int i
  | .str x => .str x
  | .tup cs => .tup (Cv.toDs cs)
def Cv.toDs : List Cv → List _root_.G.D
  | [] => []
  | c :: cs => c.toD :: Cv.toDs cs
end
theorem pick {l : List Bool} (h : l.all id = true) (i : Nat) {b : Bool} (e : l[i]? = some b := by rfl) : b = true := List.all_eq_true.mp h b (List.mem_of_getElem? e)
theorem pickD {l : List Bool} (h : l.all id = true) (i : Nat) {p : Prop} [Decidable p] (e : l[i]? = some (decide p)) : p := of_decide_eq_true (pick h i e)
end
theorem refsQ_T {tl : List Value} : ∀ l : List Value, refsQ tl l = PySem.GXB.refsT tl l
  | [] => rfl
  | v :: r => by
    cases v with
    | ref c => exact refsQ_T r
    | _ => rfl
theorem zcK_ {nw : String} {tl : List Value} {a : Addr} {oo : Option Obj} (h : clsChk nw tl a oo = true) : ∃ nm q N bs bm sn sub ab col dd k0 k1 k2 k3 k5, oo = some (excClassObj nm q a N bs bm true sn sub ab col dd k0 k1 k2 k3 k5 nw) ∧ PySem.GXB.refsT tl bm = true := by
  unfold clsChk at h
  split at h
  · rename_i t dd nm bs m0 bm N q sn sub ab col sl
    obtain ⟨h1, h⟩ := He.ba h
    obtain ⟨h2, h⟩ := He.ba h
    obtain ⟨h3, h4⟩ := He.ba h
    have e1 := of_decide_eq_true h1
    have e2 := of_decide_eq_true h2
    subst e1 e2
    split at h4
    · rename_i k0 k1 k2 k3 b k5 es
      have e4 := of_decide_eq_true h4
      subst e4
      have e5 : sl = #[k0, k1, k2, k3, some (.builtin b), k5] := by rw [← Array.toArray_toList (xs := sl), es]
      subst e5
      exact ⟨_, _, _, _, _, _, _, _, _, _, _, _, _, _, _, rfl, (refsQ_T _).symm.trans h3⟩
    · cases h4
  · cases h
theorem zc3_ {a : Addr} {oo : Option Obj} (h : cellChk a oo = true) : ∃ o1 o2 o3, oo = some ⟨o1, o2, .cell (some (.ref a)), o3⟩ := by
  unfold cellChk at h
  split at h
  · rename_i o1 o2 c o3
    have e := of_decide_eq_true h
    subst e
    exact ⟨_, _, _, rfl⟩
  · cases h
theorem zdl_ {qual file : Str} {oo : Option Obj} (h : codeChk qual file oo = true) : ∃ o1 o2 vs o3 t fl tf, oo = some ⟨o1, o2, .fields vs, o3⟩ ∧ vs[1]? = some (.str qual t) ∧ vs[2]? = some (.str fl tf) ∧ (file == fl) = true := by
  unfold codeChk at h
  split at h
  · rename_i o1 o2 vs o3
    split at h
    · rename_i q t fl tf e1 e2
      obtain ⟨h1, h2⟩ := He.ba h
      have e := of_decide_eq_true h1
      subst e
      exact ⟨_, _, vs, _, t, fl, tf, rfl, e1, e2, h2⟩
    · cases h
  · cases h
theorem fx_fn {K : PySem.W.Frag} {d : Fx} (e : fnC K d.C = d.val) (h : fnChk (K.lookup (fAt K d.C)) = true) :
    ∃ oc od kV doc pm an ct osl, K.lookup (fAt K d.C) = some ⟨oc, od, .func (PySem.W.fnX "__init__" d.qual d.params d.body d.scope [(("__class__" : Str), ccOf K d.C)] .none kV doc pm an (.ref (cdOf K d.C)) ct), osl⟩ := by
  unfold fnC at e
  unfold ccOf cdOf
  cases q : K.lookup (fAt K d.C) with
  | none => rw [q] at h; cases h
  | some o =>
    obtain ⟨oc, od, dt, osl⟩ := o
    rw [q] at e h
    cases dt with
    | func fd =>
      obtain ⟨n1, n2, n3, n4, n5, n6, n7, n8, n9, n10, n11, n12, n13, n14, n15⟩ := fd
      simp only [fnChk] at h
      split at h
      · rename_i x a c
        have e2 : (some (n1, n2, n3, n4, n5, n6, [x], n15) : FxV) = (some ("__init__", d.qual, d.params, .stmts d.body, d.scope, mainGlobals, ["__class__"], builtinsNs) : FxV) := e
        simp only [Option.some.injEq, Prod.mk.injEq, List.cons.injEq, and_true] at e2
        obtain ⟨h1, h2, h3, h4, h5, h6, h7, h8⟩ := e2
        subst h1 h2 h3 h4 h5 h6 h7 h8
        exact ⟨oc, od, n9, n10, n11, n12, n14, osl, rfl⟩
      · cases h
    | _ => cases h
theorem sx_of {b : PySem.GXB.ExB} (B : b.Ok) {K : PySem.W.Frag} {P : Program} {d : Fx} {N ps : List Str} (e : fnC K d.C = d.val) (h : excChk b.newId b.tail K P.main.file d.C d.qual = true)
    (sa : PySem.W.findIn K (.ref (He.ga K d.C)) "__setattr__" = some (some (.builtin "object.__setattr__"))) (exC : PySem.W.subIn K (.ref (He.ga K d.C)) (.type "BaseException") = some true) (tyC : PySem.W.typeIn K (.ref (He.ga K d.C)) = some (.type "type")) (kC : PySem.W.keepIn K (.ref (He.ga K d.C)) = true)
    (ini : PySem.W.findIn K (.ref (He.ga K d.C)) "__init__" = some (some (.ref (fAt K d.C)))) (ity : PySem.W.typeIn K (.ref (fAt K d.C)) = some (.type "function")) (top : (P.main.scope.names.lookup ("super" : Str)).isSome = false) (opq : PySem.W.nsIn K cStatics "thirdparty.any" = some none)
    (sup : PySem.W.ks_superIn K (He.ga K d.C) (He.ga K d.C) "__init__" = some (some (.builtin b.initId))) (subB : PySem.W.subIn K (.ref (He.ga K d.C)) (.type b.nm) = some true) (mro : PySem.W.mroIn K (He.ga K d.C) (.ref (He.ga K d.C)) = some true)
    (sc : NdefX.NScope N ps ["__class__"] d.scope) (ks : d.scope.names.lookup ("super" : Str) = some .globalImplicit) (hd : (d.params.posonlyargs ++ d.params.args).head?.map (·.arg) = some ("self" : Str)) (p0 : ps[0]? = some ("self" : Str)) :
    ∃ f cc cd, G.SxC P K (He.ga K d.C) f cc ⟨"__init__", d.qual, d.params, d.body, d.scope, [(("__class__" : Str), cc)], cd⟩ N ps := by
  obtain ⟨h1, h⟩ := He.ba h
  obtain ⟨h2, h⟩ := He.ba h
  obtain ⟨h3, h⟩ := He.ba h
  obtain ⟨h4, h5⟩ := He.ba h
  exact ⟨fAt K d.C, ccOf K d.C, cdOf K d.C, { ox := ⟨⟨b, B, zcK_ h1⟩, sa, exC, tyC, kC⟩, ini := ini, ity := ity, fn := fx_fn e h2, cl := rfl, cell := zc3_ h3, code := zdl_ h4, top := top, opq := opq, bas := ⟨b, B, zcK_ h1, sup, subB⟩, hcl := Option.isSome_iff_exists.mp h5, mro := mro, sc := sc, ks := ks, hd := hd, p0 := p0 }⟩
theorem df_of {K : PySem.W.Frag} {mg : Str → Option Value} {x : Str} {st : Stmt} {f : Addr} {fd : FuncData} (D : FunD K x x (defArgs st) (defBody st) (defScope st) [] [] f fd) (hm : mg x = some (.ref f)) : Df K mg x st := by
  obtain ⟨oc, od, dV, kV, doc, pm, an, cdv, ct, osl, rfl, lk, hcd, hD, hK⟩ := D.ex
  rcases hD with ⟨_, rfl⟩ | ⟨e, _⟩
  · exact ⟨f, _, ⟨⟨oc, od, kV, doc, pm, an, cdv, ct, osl, rfl, lk, hcd⟩, D.kp⟩, hm⟩
  · exact absurd rfl e
end Hd
namespace Toy
open PySem PySem.Spec L2
structure Cs where
  InvalidWord : Addr
  InvalidName : Addr
  InvalidNumber : Addr
  InvalidRule : Addr
  InvalidRow : Addr
  InvalidChange : Addr
  InvalidKey : Addr
  InvalidText : Addr
  InvalidWish : Addr
  InvalidLimit : Addr
  InvalidCommand : Addr
  DuplicateName : Addr
  WrongKind : Addr
  TooMany : Addr
  TooLong : Addr
  Full : Addr
  WrongWord : Addr
  Mixed : Addr
  NotLive : Addr
  NoWord : Addr
  Unlike : Addr
  UnknownName : Addr
  NothingLeft : Addr
  LineError : Addr
  Missing : Addr
structure Alls (K : PySem.W.Frag) (mg : Str → Option Value) (c : Cs) : Prop where
  d__law_feed : Df K mg "_law_feed" za3_
  d__law_take : Df K mg "_law_take" za2_
  g__law_of : ∃ f, FdG K mg "_law_of" zbr_ [] [] f
  g__law_same : ∃ f, FdG K mg "_law_same" zaV_ [] [] f
  g__law_bases : ∃ f, FdG K mg "_law_bases" zaO_ [] [] f
  d_law : Df K mg "law" zb8_
  n_InvalidWord : mg "InvalidWord" = some (.ref c.InvalidWord)
  n_InvalidName : mg "InvalidName" = some (.ref c.InvalidName)
  n_InvalidNumber : mg "InvalidNumber" = some (.ref c.InvalidNumber)
  n_InvalidRule : mg "InvalidRule" = some (.ref c.InvalidRule)
  n_InvalidRow : mg "InvalidRow" = some (.ref c.InvalidRow)
  n_InvalidChange : mg "InvalidChange" = some (.ref c.InvalidChange)
  n_InvalidKey : mg "InvalidKey" = some (.ref c.InvalidKey)
  n_InvalidText : mg "InvalidText" = some (.ref c.InvalidText)
  n_InvalidWish : mg "InvalidWish" = some (.ref c.InvalidWish)
  n_InvalidLimit : mg "InvalidLimit" = some (.ref c.InvalidLimit)
  n_InvalidCommand : mg "InvalidCommand" = some (.ref c.InvalidCommand)
  n_DuplicateName : mg "DuplicateName" = some (.ref c.DuplicateName)
  n_WrongKind : mg "WrongKind" = some (.ref c.WrongKind)
  n_TooMany : mg "TooMany" = some (.ref c.TooMany)
  n_TooLong : mg "TooLong" = some (.ref c.TooLong)
  n_Full : mg "Full" = some (.ref c.Full)
  n_WrongWord : mg "WrongWord" = some (.ref c.WrongWord)
  n_Mixed : mg "Mixed" = some (.ref c.Mixed)
  n_NotLive : mg "NotLive" = some (.ref c.NotLive)
  n_NoWord : mg "NoWord" = some (.ref c.NoWord)
  n_Unlike : mg "Unlike" = some (.ref c.Unlike)
  n_UnknownName : mg "UnknownName" = some (.ref c.UnknownName)
  n_NothingLeft : mg "NothingLeft" = some (.ref c.NothingLeft)
  n_LineError : mg "LineError" = some (.ref c.LineError)
  n_Missing : mg "Missing" = some (.ref c.Missing)
  xno_InvalidWord_given : PySem.W.findIn K (.ref c.InvalidWord) "given" = some none
  xno_InvalidWord_code : PySem.W.findIn K (.ref c.InvalidWord) "code" = some none
  xf_InvalidWord : XfC K c.InvalidWord
  sx_InvalidWord : ∃ f cc cd, G.SxC Toy.P K c.InvalidWord f cc ⟨"__init__", "InvalidWord.__init__", defArgs zam_, defBody zam_, defScope zam_, [(("__class__" : Str), cc)], cd⟩ ["self", "given", "__class__"] ["self", "given"]
  xno_InvalidName_given : PySem.W.findIn K (.ref c.InvalidName) "given" = some none
  xno_InvalidName_code : PySem.W.findIn K (.ref c.InvalidName) "code" = some none
  xf_InvalidName : XfC K c.InvalidName
  sx_InvalidName : ∃ f cc cd, G.SxC Toy.P K c.InvalidName f cc ⟨"__init__", "InvalidName.__init__", defArgs zag_, defBody zag_, defScope zag_, [(("__class__" : Str), cc)], cd⟩ ["self", "given", "__class__"] ["self", "given"]
  xno_InvalidNumber_given : PySem.W.findIn K (.ref c.InvalidNumber) "given" = some none
  xno_InvalidNumber_code : PySem.W.findIn K (.ref c.InvalidNumber) "code" = some none
  xf_InvalidNumber : XfC K c.InvalidNumber
  sx_InvalidNumber : ∃ f cc cd, G.SxC Toy.P K c.InvalidNumber f cc ⟨"__init__", "InvalidNumber.__init__", defArgs zad_, defBody zad_, defScope zad_, [(("__class__" : Str), cc)], cd⟩ ["self", "given", "__class__"] ["self", "given"]
  xno_InvalidRule_at : PySem.W.findIn K (.ref c.InvalidRule) "at" = some none
  xno_InvalidRule_code : PySem.W.findIn K (.ref c.InvalidRule) "code" = some none
  xf_InvalidRule : XfC K c.InvalidRule
  sx_InvalidRule : ∃ f cc cd, G.SxC Toy.P K c.InvalidRule f cc ⟨"__init__", "InvalidRule.__init__", defArgs zai_, defBody zai_, defScope zai_, [(("__class__" : Str), cc)], cd⟩ ["self", "at", "__class__"] ["self", "at"]
  xno_InvalidRow_at : PySem.W.findIn K (.ref c.InvalidRow) "at" = some none
  xno_InvalidRow_code : PySem.W.findIn K (.ref c.InvalidRow) "code" = some none
  xf_InvalidRow : XfC K c.InvalidRow
  sx_InvalidRow : ∃ f cc cd, G.SxC Toy.P K c.InvalidRow f cc ⟨"__init__", "InvalidRow.__init__", defArgs zao_, defBody zao_, defScope zao_, [(("__class__" : Str), cc)], cd⟩ ["self", "at", "__class__"] ["self", "at"]
  xno_InvalidChange_at : PySem.W.findIn K (.ref c.InvalidChange) "at" = some none
  xno_InvalidChange_code : PySem.W.findIn K (.ref c.InvalidChange) "code" = some none
  xf_InvalidChange : XfC K c.InvalidChange
  sx_InvalidChange : ∃ f cc cd, G.SxC Toy.P K c.InvalidChange f cc ⟨"__init__", "InvalidChange.__init__", defArgs zac_, defBody zac_, defScope zac_, [(("__class__" : Str), cc)], cd⟩ ["self", "at", "__class__"] ["self", "at"]
  xno_InvalidKey_at : PySem.W.findIn K (.ref c.InvalidKey) "at" = some none
  xno_InvalidKey_code : PySem.W.findIn K (.ref c.InvalidKey) "code" = some none
  xf_InvalidKey : XfC K c.InvalidKey
  sx_InvalidKey : ∃ f cc cd, G.SxC Toy.P K c.InvalidKey f cc ⟨"__init__", "InvalidKey.__init__", defArgs zan_, defBody zan_, defScope zan_, [(("__class__" : Str), cc)], cd⟩ ["self", "at", "__class__"] ["self", "at"]
  xno_InvalidText_at : PySem.W.findIn K (.ref c.InvalidText) "at" = some none
  xno_InvalidText_code : PySem.W.findIn K (.ref c.InvalidText) "code" = some none
  xf_InvalidText : XfC K c.InvalidText
  sx_InvalidText : ∃ f cc cd, G.SxC Toy.P K c.InvalidText f cc ⟨"__init__", "InvalidText.__init__", defArgs zaj_, defBody zaj_, defScope zaj_, [(("__class__" : Str), cc)], cd⟩ ["self", "at", "__class__"] ["self", "at"]
  xno_InvalidWish_given : PySem.W.findIn K (.ref c.InvalidWish) "given" = some none
  xno_InvalidWish_code : PySem.W.findIn K (.ref c.InvalidWish) "code" = some none
  xf_InvalidWish : XfC K c.InvalidWish
  sx_InvalidWish : ∃ f cc cd, G.SxC Toy.P K c.InvalidWish f cc ⟨"__init__", "InvalidWish.__init__", defArgs zal_, defBody zal_, defScope zal_, [(("__class__" : Str), cc)], cd⟩ ["self", "given", "__class__"] ["self", "given"]
  xno_InvalidLimit_given : PySem.W.findIn K (.ref c.InvalidLimit) "given" = some none
  xno_InvalidLimit_code : PySem.W.findIn K (.ref c.InvalidLimit) "code" = some none
  xf_InvalidLimit : XfC K c.InvalidLimit
  sx_InvalidLimit : ∃ f cc cd, G.SxC Toy.P K c.InvalidLimit f cc ⟨"__init__", "InvalidLimit.__init__", defArgs zaf_, defBody zaf_, defScope zaf_, [(("__class__" : Str), cc)], cd⟩ ["self", "given", "__class__"] ["self", "given"]
  xno_InvalidCommand_at : PySem.W.findIn K (.ref c.InvalidCommand) "at" = some none
  xno_InvalidCommand_code : PySem.W.findIn K (.ref c.InvalidCommand) "code" = some none
  xf_InvalidCommand : XfC K c.InvalidCommand
  sx_InvalidCommand : ∃ f cc cd, G.SxC Toy.P K c.InvalidCommand f cc ⟨"__init__", "InvalidCommand.__init__", defArgs zab_, defBody zab_, defScope zab_, [(("__class__" : Str), cc)], cd⟩ ["self", "at", "__class__"] ["self", "at"]
  xno_DuplicateName_name : PySem.W.findIn K (.ref c.DuplicateName) "name" = some none
  xno_DuplicateName_code : PySem.W.findIn K (.ref c.DuplicateName) "code" = some none
  xf_DuplicateName : XfC K c.DuplicateName
  sx_DuplicateName : ∃ f cc cd, G.SxC Toy.P K c.DuplicateName f cc ⟨"__init__", "DuplicateName.__init__", defArgs zae_, defBody zae_, defScope zae_, [(("__class__" : Str), cc)], cd⟩ ["self", "name", "__class__"] ["self", "name"]
  xno_WrongKind_name : PySem.W.findIn K (.ref c.WrongKind) "name" = some none
  xno_WrongKind_code : PySem.W.findIn K (.ref c.WrongKind) "code" = some none
  xf_WrongKind : XfC K c.WrongKind
  sx_WrongKind : ∃ f cc cd, G.SxC Toy.P K c.WrongKind f cc ⟨"__init__", "WrongKind.__init__", defArgs zap_, defBody zap_, defScope zap_, [(("__class__" : Str), cc)], cd⟩ ["self", "name", "__class__"] ["self", "name"]
  xno_TooMany_subject : PySem.W.findIn K (.ref c.TooMany) "subject" = some none
  xno_TooMany_most : PySem.W.findIn K (.ref c.TooMany) "most" = some none
  xno_TooMany_code : PySem.W.findIn K (.ref c.TooMany) "code" = some none
  xf_TooMany : XfC K c.TooMany
  sx_TooMany : ∃ f cc cd, G.SxC Toy.P K c.TooMany f cc ⟨"__init__", "TooMany.__init__", defArgs zat_, defBody zat_, defScope zat_, [(("__class__" : Str), cc)], cd⟩ ["self", "subject", "most", "__class__"] ["self", "subject", "most"]
  xno_TooLong_most : PySem.W.findIn K (.ref c.TooLong) "most" = some none
  xno_TooLong_code : PySem.W.findIn K (.ref c.TooLong) "code" = some none
  xf_TooLong : XfC K c.TooLong
  sx_TooLong : ∃ f cc cd, G.SxC Toy.P K c.TooLong f cc ⟨"__init__", "TooLong.__init__", defArgs zar_, defBody zar_, defScope zar_, [(("__class__" : Str), cc)], cd⟩ ["self", "most", "__class__"] ["self", "most"]
  xno_Full_most : PySem.W.findIn K (.ref c.Full) "most" = some none
  xno_Full_code : PySem.W.findIn K (.ref c.Full) "code" = some none
  xf_Full : XfC K c.Full
  sx_Full : ∃ f cc cd, G.SxC Toy.P K c.Full f cc ⟨"__init__", "Full.__init__", defArgs zay_, defBody zay_, defScope zay_, [(("__class__" : Str), cc)], cd⟩ ["self", "most", "__class__"] ["self", "most"]
  xno_WrongWord_at : PySem.W.findIn K (.ref c.WrongWord) "at" = some none
  xno_WrongWord_why : PySem.W.findIn K (.ref c.WrongWord) "why" = some none
  xno_WrongWord_code : PySem.W.findIn K (.ref c.WrongWord) "code" = some none
  xf_WrongWord : XfC K c.WrongWord
  sx_WrongWord : ∃ f cc cd, G.SxC Toy.P K c.WrongWord f cc ⟨"__init__", "WrongWord.__init__", defArgs zaq_, defBody zaq_, defScope zaq_, [(("__class__" : Str), cc)], cd⟩ ["self", "at", "why", "__class__"] ["self", "at", "why"]
  xno_Mixed_code : PySem.W.findIn K (.ref c.Mixed) "code" = some none
  xf_Mixed : XfC K c.Mixed
  sx_Mixed : ∃ f cc cd, G.SxC Toy.P K c.Mixed f cc ⟨"__init__", "Mixed.__init__", defArgs zaw_, defBody zaw_, defScope zaw_, [(("__class__" : Str), cc)], cd⟩ ["self", "__class__"] ["self"]
  xno_NotLive_code : PySem.W.findIn K (.ref c.NotLive) "code" = some none
  xf_NotLive : XfC K c.NotLive
  sx_NotLive : ∃ f cc cd, G.SxC Toy.P K c.NotLive f cc ⟨"__init__", "NotLive.__init__", defArgs zas_, defBody zas_, defScope zas_, [(("__class__" : Str), cc)], cd⟩ ["self", "__class__"] ["self"]
  xno_NoWord_code : PySem.W.findIn K (.ref c.NoWord) "code" = some none
  xf_NoWord : XfC K c.NoWord
  sx_NoWord : ∃ f cc cd, G.SxC Toy.P K c.NoWord f cc ⟨"__init__", "NoWord.__init__", defArgs zau_, defBody zau_, defScope zau_, [(("__class__" : Str), cc)], cd⟩ ["self", "__class__"] ["self"]
  xno_Unlike_code : PySem.W.findIn K (.ref c.Unlike) "code" = some none
  xf_Unlike : XfC K c.Unlike
  sx_Unlike : ∃ f cc cd, G.SxC Toy.P K c.Unlike f cc ⟨"__init__", "Unlike.__init__", defArgs zav_, defBody zav_, defScope zav_, [(("__class__" : Str), cc)], cd⟩ ["self", "__class__"] ["self"]
  xno_UnknownName_name : PySem.W.findIn K (.ref c.UnknownName) "name" = some none
  xno_UnknownName_code : PySem.W.findIn K (.ref c.UnknownName) "code" = some none
  xf_UnknownName : XfC K c.UnknownName
  sx_UnknownName : ∃ f cc cd, G.SxC Toy.P K c.UnknownName f cc ⟨"__init__", "UnknownName.__init__", defArgs zah_, defBody zah_, defScope zah_, [(("__class__" : Str), cc)], cd⟩ ["self", "name", "__class__"] ["self", "name"]
  xno_NothingLeft_code : PySem.W.findIn K (.ref c.NothingLeft) "code" = some none
  xf_NothingLeft : XfC K c.NothingLeft
  sx_NothingLeft : ∃ f cc cd, G.SxC Toy.P K c.NothingLeft f cc ⟨"__init__", "NothingLeft.__init__", defArgs zak_, defBody zak_, defScope zak_, [(("__class__" : Str), cc)], cd⟩ ["self", "__class__"] ["self"]
  bx_IndexError : mg "IndexError" = none
  bx_LookupError : mg "LookupError" = none
  bx_ValueError : mg "ValueError" = none
  ec_InvalidWord : ExcC K c.InvalidWord
  eki_InvalidWord_LineError : PySem.W.kitOne K (.ref c.InvalidWord) (.ref c.LineError) = some true
  eki_InvalidWord_Missing : PySem.W.kitOne K (.ref c.InvalidWord) (.ref c.Missing) = some false
  eki_InvalidWord_IndexError : PySem.W.kitOne K (.ref c.InvalidWord) (.type "IndexError") = some false
  eki_InvalidWord_LookupError : PySem.W.kitOne K (.ref c.InvalidWord) (.type "LookupError") = some false
  eki_InvalidWord_ValueError : PySem.W.kitOne K (.ref c.InvalidWord) (.type "ValueError") = some true
  ec_TooMany : ExcC K c.TooMany
  eki_TooMany_LineError : PySem.W.kitOne K (.ref c.TooMany) (.ref c.LineError) = some true
  eki_TooMany_Missing : PySem.W.kitOne K (.ref c.TooMany) (.ref c.Missing) = some false
  eki_TooMany_IndexError : PySem.W.kitOne K (.ref c.TooMany) (.type "IndexError") = some false
  eki_TooMany_LookupError : PySem.W.kitOne K (.ref c.TooMany) (.type "LookupError") = some false
  eki_TooMany_ValueError : PySem.W.kitOne K (.ref c.TooMany) (.type "ValueError") = some true
  ec_Mixed : ExcC K c.Mixed
  eki_Mixed_LineError : PySem.W.kitOne K (.ref c.Mixed) (.ref c.LineError) = some true
  eki_Mixed_Missing : PySem.W.kitOne K (.ref c.Mixed) (.ref c.Missing) = some false
  eki_Mixed_IndexError : PySem.W.kitOne K (.ref c.Mixed) (.type "IndexError") = some false
  eki_Mixed_LookupError : PySem.W.kitOne K (.ref c.Mixed) (.type "LookupError") = some false
  eki_Mixed_ValueError : PySem.W.kitOne K (.ref c.Mixed) (.type "ValueError") = some true
  ec_WrongWord : ExcC K c.WrongWord
  eki_WrongWord_LineError : PySem.W.kitOne K (.ref c.WrongWord) (.ref c.LineError) = some true
  eki_WrongWord_Missing : PySem.W.kitOne K (.ref c.WrongWord) (.ref c.Missing) = some false
  eki_WrongWord_IndexError : PySem.W.kitOne K (.ref c.WrongWord) (.type "IndexError") = some false
  eki_WrongWord_LookupError : PySem.W.kitOne K (.ref c.WrongWord) (.type "LookupError") = some false
  eki_WrongWord_ValueError : PySem.W.kitOne K (.ref c.WrongWord) (.type "ValueError") = some true
  ec_Full : ExcC K c.Full
  eki_Full_LineError : PySem.W.kitOne K (.ref c.Full) (.ref c.LineError) = some true
  eki_Full_Missing : PySem.W.kitOne K (.ref c.Full) (.ref c.Missing) = some false
  eki_Full_IndexError : PySem.W.kitOne K (.ref c.Full) (.type "IndexError") = some false
  eki_Full_LookupError : PySem.W.kitOne K (.ref c.Full) (.type "LookupError") = some false
  eki_Full_ValueError : PySem.W.kitOne K (.ref c.Full) (.type "ValueError") = some true
  ec_UnknownName : ExcC K c.UnknownName
  eki_UnknownName_LineError : PySem.W.kitOne K (.ref c.UnknownName) (.ref c.LineError) = some false
  eki_UnknownName_Missing : PySem.W.kitOne K (.ref c.UnknownName) (.ref c.Missing) = some true
  eki_UnknownName_IndexError : PySem.W.kitOne K (.ref c.UnknownName) (.type "IndexError") = some false
  eki_UnknownName_LookupError : PySem.W.kitOne K (.ref c.UnknownName) (.type "LookupError") = some true
  eki_UnknownName_ValueError : PySem.W.kitOne K (.ref c.UnknownName) (.type "ValueError") = some false
  ec_NothingLeft : ExcC K c.NothingLeft
  eki_NothingLeft_LineError : PySem.W.kitOne K (.ref c.NothingLeft) (.ref c.LineError) = some false
  eki_NothingLeft_Missing : PySem.W.kitOne K (.ref c.NothingLeft) (.ref c.Missing) = some false
  eki_NothingLeft_IndexError : PySem.W.kitOne K (.ref c.NothingLeft) (.type "IndexError") = some true
  eki_NothingLeft_LookupError : PySem.W.kitOne K (.ref c.NothingLeft) (.type "LookupError") = some true
  eki_NothingLeft_ValueError : PySem.W.kitOne K (.ref c.NothingLeft) (.type "ValueError") = some false
  T : Txt mg
def sdL (c : Cs) : List (Addr × List (Key × V)) := []
abbrev dxL (w : World) (c : Cs) : G.Dx := ⟨sdL c, (nestedKind P w).hash⟩
structure AllW (w : World) (K : PySem.W.Frag) (mg : Str → Option Value) (c : Cs) : Prop extends Alls K mg c where
  so : G.SdOk P w K (dxL w c)
theorem all_of {K : PySem.W.Frag} {h : Heap} {mg : Str → Option Value} (X : K.In h) (G : h.Ns mainGlobals mg) {w : World} (c0 : Hd.SaysY fnL fxL exF sdO w K) : ∃ c : Cs, AllW w K mg c := by
  have e0 : (exL0 K).all id = true := Hd.pick c0.bools.2 0 rfl
  have e1 : (exL1 K).all id = true := Hd.pick c0.bools.2 1 rfl
  have e2 : (exL2 K).all id = true := Hd.pick c0.bools.2 2 rfl
  have e3 : (exL3 K).all id = true := Hd.pick c0.bools.2 3 rfl
  have e4 : (exL4 K).all id = true := Hd.pick c0.bools.2 4 rfl
  have e5 : (exL5 K).all id = true := Hd.pick c0.bools.2 5 rfl
  have e6 : (exL6 K).all id = true := Hd.pick c0.bools.2 6 rfl
  have e7 : (exL7 K).all id = true := Hd.pick c0.bools.2 7 rfl
  have e8 : (exL8 K).all id = true := Hd.pick c0.bools.2 8 rfl
  have e9 : (exL9 K).all id = true := Hd.pick c0.bools.2 9 rfl
  have e10 : (exL10 K).all id = true := Hd.pick c0.bools.2 10 rfl
  have e11 : (exL11 K).all id = true := Hd.pick c0.bools.2 11 rfl
  have e12 : (exL12 K).all id = true := Hd.pick c0.bools.2 12 rfl
  have e13 : (exL13 K).all id = true := Hd.pick c0.bools.2 13 rfl
  have e14 : (exL14 K).all id = true := Hd.pick c0.bools.2 14 rfl
  have e15 : (exL15 K).all id = true := Hd.pick c0.bools.2 15 rfl
  have e16 : (exL16 K).all id = true := Hd.pick c0.bools.2 16 rfl
  have e17 : (exL17 K).all id = true := Hd.pick c0.bools.2 17 rfl
  have e18 : (exL18 K).all id = true := Hd.pick c0.bools.2 18 rfl
  have e19 : (exL19 K).all id = true := Hd.pick c0.bools.2 19 rfl
  have e20 : (exL20 K).all id = true := Hd.pick c0.bools.2 20 rfl
  have e21 : (exL21 K).all id = true := Hd.pick c0.bools.2 21 rfl
  have e22 : (exL22 K).all id = true := Hd.pick c0.bools.2 22 rfl
  have hn__law_feed : PySem.W.nsIn K mainGlobals "_law_feed" = some (some (.ref (gA26 K))) := Hd.pickD (e0) 0 rfl
  have hn__law_take : PySem.W.nsIn K mainGlobals "_law_take" = some (some (.ref (gA29 K))) := Hd.pickD (e0) 1 rfl
  have hn__law_of : PySem.W.nsIn K mainGlobals "_law_of" = some (some (.ref (gA27 K))) := Hd.pickD (e0) 2 rfl
  have hn__law_same : PySem.W.nsIn K mainGlobals "_law_same" = some (some (.ref (gA28 K))) := Hd.pickD (e0) 3 rfl
  have hn__law_bases : PySem.W.nsIn K mainGlobals "_law_bases" = some (some (.ref (gA25 K))) := Hd.pickD (e0) 4 rfl
  have hn_law : PySem.W.nsIn K mainGlobals "law" = some (some (.ref (gA30 K))) := Hd.pickD (e0) 5 rfl
  have hn_InvalidWord : PySem.W.nsIn K mainGlobals "InvalidWord" = some (some (.ref (gA12 K))) := Hd.pickD (e0) 6 rfl
  have hn_InvalidName : PySem.W.nsIn K mainGlobals "InvalidName" = some (some (.ref (gA6 K))) := Hd.pickD (e0) 7 rfl
  have hn_InvalidNumber : PySem.W.nsIn K mainGlobals "InvalidNumber" = some (some (.ref (gA7 K))) := Hd.pickD (e0) 8 rfl
  have hn_InvalidRule : PySem.W.nsIn K mainGlobals "InvalidRule" = some (some (.ref (gA9 K))) := Hd.pickD (e0) 9 rfl
  have hn_InvalidRow : PySem.W.nsIn K mainGlobals "InvalidRow" = some (some (.ref (gA8 K))) := Hd.pickD (e0) 10 rfl
  have hn_InvalidChange : PySem.W.nsIn K mainGlobals "InvalidChange" = some (some (.ref (gA2 K))) := Hd.pickD (e0) 11 rfl
  have hn_InvalidKey : PySem.W.nsIn K mainGlobals "InvalidKey" = some (some (.ref (gA4 K))) := Hd.pickD (e0) 12 rfl
  have hn_InvalidText : PySem.W.nsIn K mainGlobals "InvalidText" = some (some (.ref (gA10 K))) := Hd.pickD (e0) 13 rfl
  have hn_InvalidWish : PySem.W.nsIn K mainGlobals "InvalidWish" = some (some (.ref (gA11 K))) := Hd.pickD (e0) 14 rfl
  have hn_InvalidLimit : PySem.W.nsIn K mainGlobals "InvalidLimit" = some (some (.ref (gA5 K))) := Hd.pickD (e0) 15 rfl
  have hn_InvalidCommand : PySem.W.nsIn K mainGlobals "InvalidCommand" = some (some (.ref (gA3 K))) := Hd.pickD (e0) 16 rfl
  have hn_DuplicateName : PySem.W.nsIn K mainGlobals "DuplicateName" = some (some (.ref (gA0 K))) := Hd.pickD (e0) 17 rfl
  have hn_WrongKind : PySem.W.nsIn K mainGlobals "WrongKind" = some (some (.ref (gA23 K))) := Hd.pickD (e0) 18 rfl
  have hn_TooMany : PySem.W.nsIn K mainGlobals "TooMany" = some (some (.ref (gA20 K))) := Hd.pickD (e0) 19 rfl
  have hn_TooLong : PySem.W.nsIn K mainGlobals "TooLong" = some (some (.ref (gA19 K))) := Hd.pickD (e1) 0 rfl
  have hn_Full : PySem.W.nsIn K mainGlobals "Full" = some (some (.ref (gA1 K))) := Hd.pickD (e1) 1 rfl
  have hn_WrongWord : PySem.W.nsIn K mainGlobals "WrongWord" = some (some (.ref (gA24 K))) := Hd.pickD (e1) 2 rfl
  have hn_Mixed : PySem.W.nsIn K mainGlobals "Mixed" = some (some (.ref (gA15 K))) := Hd.pickD (e1) 3 rfl
  have hn_NotLive : PySem.W.nsIn K mainGlobals "NotLive" = some (some (.ref (gA17 K))) := Hd.pickD (e1) 4 rfl
  have hn_NoWord : PySem.W.nsIn K mainGlobals "NoWord" = some (some (.ref (gA16 K))) := Hd.pickD (e1) 5 rfl
  have hn_Unlike : PySem.W.nsIn K mainGlobals "Unlike" = some (some (.ref (gA22 K))) := Hd.pickD (e1) 6 rfl
  have hn_UnknownName : PySem.W.nsIn K mainGlobals "UnknownName" = some (some (.ref (gA21 K))) := Hd.pickD (e1) 7 rfl
  have hn_NothingLeft : PySem.W.nsIn K mainGlobals "NothingLeft" = some (some (.ref (gA18 K))) := Hd.pickD (e1) 8 rfl
  have hn_LineError : PySem.W.nsIn K mainGlobals "LineError" = some (some (.ref (gA13 K))) := Hd.pickD (e1) 9 rfl
  have hn_Missing : PySem.W.nsIn K mainGlobals "Missing" = some (some (.ref (gA14 K))) := Hd.pickD (e1) 10 rfl
  have xopq : PySem.W.nsIn K cStatics "thirdparty.any" = some none := Hd.pickD (e1) 11 rfl
  have xsa_InvalidWord : PySem.W.findIn K (.ref (gA12 K)) "__setattr__" = some (some (.builtin "object.__setattr__")) := Hd.pickD (e1) 12 rfl
  have xeb_InvalidWord : PySem.W.subIn K (.ref (gA12 K)) (.type "BaseException") = some true := Hd.pickD (e1) 13 rfl
  have xty_InvalidWord : PySem.W.typeIn K (.ref (gA12 K)) = some (.type "type") := Hd.pickD (e1) 14 rfl
  have xkp_InvalidWord : PySem.W.keepIn K (.ref (gA12 K)) = true := Hd.pickD (e1) 15 rfl
  have xin_InvalidWord : PySem.W.findIn K (.ref (gA12 K)) "__init__" = some (some (.ref (Hd.fAt K "InvalidWord"))) := Hd.pickD (e1) 16 rfl
  have xif_InvalidWord : PySem.W.typeIn K (.ref (Hd.fAt K "InvalidWord")) = some (.type "function") := Hd.pickD (e1) 17 rfl
  have xsu_InvalidWord : PySem.W.ks_superIn K (gA12 K) (gA12 K) "__init__" = some (some (.builtin "ValueError.__init__")) := Hd.pickD (e1) 18 rfl
  have xve_InvalidWord : PySem.W.subIn K (.ref (gA12 K)) (.type "ValueError") = some true := Hd.pickD (e1) 19 rfl
  have xmr_InvalidWord : PySem.W.mroIn K (gA12 K) (.ref (gA12 K)) = some true := Hd.pickD (e2) 0 rfl
  have xga_InvalidWord : PySem.W.findIn K (.ref (gA12 K)) "__getattribute__" = some (some (.builtin "BaseException.__getattribute__")) := Hd.pickD (e2) 1 rfl
  have xgg_InvalidWord : PySem.W.findIn K (.ref (gA12 K)) "__getattr__" = some none := Hd.pickD (e2) 2 rfl
  have xhd_InvalidWord : PySem.W.hasDictIn K (gA12 K) = true := Hd.pickD (e2) 3 rfl
  have xno_InvalidWord_given : PySem.W.findIn K (.ref (gA12 K)) "given" = some none := Hd.pickD (e2) 4 rfl
  have xno_InvalidWord_code : PySem.W.findIn K (.ref (gA12 K)) "code" = some none := Hd.pickD (e2) 5 rfl
  have xsa_InvalidName : PySem.W.findIn K (.ref (gA6 K)) "__setattr__" = some (some (.builtin "object.__setattr__")) := Hd.pickD (e2) 6 rfl
  have xeb_InvalidName : PySem.W.subIn K (.ref (gA6 K)) (.type "BaseException") = some true := Hd.pickD (e2) 7 rfl
  have xty_InvalidName : PySem.W.typeIn K (.ref (gA6 K)) = some (.type "type") := Hd.pickD (e2) 8 rfl
  have xkp_InvalidName : PySem.W.keepIn K (.ref (gA6 K)) = true := Hd.pickD (e2) 9 rfl
  have xin_InvalidName : PySem.W.findIn K (.ref (gA6 K)) "__init__" = some (some (.ref (Hd.fAt K "InvalidName"))) := Hd.pickD (e2) 10 rfl
  have xif_InvalidName : PySem.W.typeIn K (.ref (Hd.fAt K "InvalidName")) = some (.type "function") := Hd.pickD (e2) 11 rfl
  have xsu_InvalidName : PySem.W.ks_superIn K (gA6 K) (gA6 K) "__init__" = some (some (.builtin "ValueError.__init__")) := Hd.pickD (e2) 12 rfl
  have xve_InvalidName : PySem.W.subIn K (.ref (gA6 K)) (.type "ValueError") = some true := Hd.pickD (e2) 13 rfl
  have xmr_InvalidName : PySem.W.mroIn K (gA6 K) (.ref (gA6 K)) = some true := Hd.pickD (e2) 14 rfl
  have xga_InvalidName : PySem.W.findIn K (.ref (gA6 K)) "__getattribute__" = some (some (.builtin "BaseException.__getattribute__")) := Hd.pickD (e2) 15 rfl
  have xgg_InvalidName : PySem.W.findIn K (.ref (gA6 K)) "__getattr__" = some none := Hd.pickD (e2) 16 rfl
  have xhd_InvalidName : PySem.W.hasDictIn K (gA6 K) = true := Hd.pickD (e2) 17 rfl
  have xno_InvalidName_given : PySem.W.findIn K (.ref (gA6 K)) "given" = some none := Hd.pickD (e2) 18 rfl
  have xno_InvalidName_code : PySem.W.findIn K (.ref (gA6 K)) "code" = some none := Hd.pickD (e2) 19 rfl
  have xsa_InvalidNumber : PySem.W.findIn K (.ref (gA7 K)) "__setattr__" = some (some (.builtin "object.__setattr__")) := Hd.pickD (e3) 0 rfl
  have xeb_InvalidNumber : PySem.W.subIn K (.ref (gA7 K)) (.type "BaseException") = some true := Hd.pickD (e3) 1 rfl
  have xty_InvalidNumber : PySem.W.typeIn K (.ref (gA7 K)) = some (.type "type") := Hd.pickD (e3) 2 rfl
  have xkp_InvalidNumber : PySem.W.keepIn K (.ref (gA7 K)) = true := Hd.pickD (e3) 3 rfl
  have xin_InvalidNumber : PySem.W.findIn K (.ref (gA7 K)) "__init__" = some (some (.ref (Hd.fAt K "InvalidNumber"))) := Hd.pickD (e3) 4 rfl
  have xif_InvalidNumber : PySem.W.typeIn K (.ref (Hd.fAt K "InvalidNumber")) = some (.type "function") := Hd.pickD (e3) 5 rfl
  have xsu_InvalidNumber : PySem.W.ks_superIn K (gA7 K) (gA7 K) "__init__" = some (some (.builtin "ValueError.__init__")) := Hd.pickD (e3) 6 rfl
  have xve_InvalidNumber : PySem.W.subIn K (.ref (gA7 K)) (.type "ValueError") = some true := Hd.pickD (e3) 7 rfl
  have xmr_InvalidNumber : PySem.W.mroIn K (gA7 K) (.ref (gA7 K)) = some true := Hd.pickD (e3) 8 rfl
  have xga_InvalidNumber : PySem.W.findIn K (.ref (gA7 K)) "__getattribute__" = some (some (.builtin "BaseException.__getattribute__")) := Hd.pickD (e3) 9 rfl
  have xgg_InvalidNumber : PySem.W.findIn K (.ref (gA7 K)) "__getattr__" = some none := Hd.pickD (e3) 10 rfl
  have xhd_InvalidNumber : PySem.W.hasDictIn K (gA7 K) = true := Hd.pickD (e3) 11 rfl
  have xno_InvalidNumber_given : PySem.W.findIn K (.ref (gA7 K)) "given" = some none := Hd.pickD (e3) 12 rfl
  have xno_InvalidNumber_code : PySem.W.findIn K (.ref (gA7 K)) "code" = some none := Hd.pickD (e3) 13 rfl
  have xsa_InvalidRule : PySem.W.findIn K (.ref (gA9 K)) "__setattr__" = some (some (.builtin "object.__setattr__")) := Hd.pickD (e3) 14 rfl
  have xeb_InvalidRule : PySem.W.subIn K (.ref (gA9 K)) (.type "BaseException") = some true := Hd.pickD (e3) 15 rfl
  have xty_InvalidRule : PySem.W.typeIn K (.ref (gA9 K)) = some (.type "type") := Hd.pickD (e3) 16 rfl
  have xkp_InvalidRule : PySem.W.keepIn K (.ref (gA9 K)) = true := Hd.pickD (e3) 17 rfl
  have xin_InvalidRule : PySem.W.findIn K (.ref (gA9 K)) "__init__" = some (some (.ref (Hd.fAt K "InvalidRule"))) := Hd.pickD (e3) 18 rfl
  have xif_InvalidRule : PySem.W.typeIn K (.ref (Hd.fAt K "InvalidRule")) = some (.type "function") := Hd.pickD (e3) 19 rfl
  have xsu_InvalidRule : PySem.W.ks_superIn K (gA9 K) (gA9 K) "__init__" = some (some (.builtin "ValueError.__init__")) := Hd.pickD (e4) 0 rfl
  have xve_InvalidRule : PySem.W.subIn K (.ref (gA9 K)) (.type "ValueError") = some true := Hd.pickD (e4) 1 rfl
  have xmr_InvalidRule : PySem.W.mroIn K (gA9 K) (.ref (gA9 K)) = some true := Hd.pickD (e4) 2 rfl
  have xga_InvalidRule : PySem.W.findIn K (.ref (gA9 K)) "__getattribute__" = some (some (.builtin "BaseException.__getattribute__")) := Hd.pickD (e4) 3 rfl
  have xgg_InvalidRule : PySem.W.findIn K (.ref (gA9 K)) "__getattr__" = some none := Hd.pickD (e4) 4 rfl
  have xhd_InvalidRule : PySem.W.hasDictIn K (gA9 K) = true := Hd.pickD (e4) 5 rfl
  have xno_InvalidRule_at : PySem.W.findIn K (.ref (gA9 K)) "at" = some none := Hd.pickD (e4) 6 rfl
  have xno_InvalidRule_code : PySem.W.findIn K (.ref (gA9 K)) "code" = some none := Hd.pickD (e4) 7 rfl
  have xsa_InvalidRow : PySem.W.findIn K (.ref (gA8 K)) "__setattr__" = some (some (.builtin "object.__setattr__")) := Hd.pickD (e4) 8 rfl
  have xeb_InvalidRow : PySem.W.subIn K (.ref (gA8 K)) (.type "BaseException") = some true := Hd.pickD (e4) 9 rfl
  have xty_InvalidRow : PySem.W.typeIn K (.ref (gA8 K)) = some (.type "type") := Hd.pickD (e4) 10 rfl
  have xkp_InvalidRow : PySem.W.keepIn K (.ref (gA8 K)) = true := Hd.pickD (e4) 11 rfl
  have xin_InvalidRow : PySem.W.findIn K (.ref (gA8 K)) "__init__" = some (some (.ref (Hd.fAt K "InvalidRow"))) := Hd.pickD (e4) 12 rfl
  have xif_InvalidRow : PySem.W.typeIn K (.ref (Hd.fAt K "InvalidRow")) = some (.type "function") := Hd.pickD (e4) 13 rfl
  have xsu_InvalidRow : PySem.W.ks_superIn K (gA8 K) (gA8 K) "__init__" = some (some (.builtin "ValueError.__init__")) := Hd.pickD (e4) 14 rfl
  have xve_InvalidRow : PySem.W.subIn K (.ref (gA8 K)) (.type "ValueError") = some true := Hd.pickD (e4) 15 rfl
  have xmr_InvalidRow : PySem.W.mroIn K (gA8 K) (.ref (gA8 K)) = some true := Hd.pickD (e4) 16 rfl
  have xga_InvalidRow : PySem.W.findIn K (.ref (gA8 K)) "__getattribute__" = some (some (.builtin "BaseException.__getattribute__")) := Hd.pickD (e4) 17 rfl
  have xgg_InvalidRow : PySem.W.findIn K (.ref (gA8 K)) "__getattr__" = some none := Hd.pickD (e4) 18 rfl
  have xhd_InvalidRow : PySem.W.hasDictIn K (gA8 K) = true := Hd.pickD (e4) 19 rfl
  have xno_InvalidRow_at : PySem.W.findIn K (.ref (gA8 K)) "at" = some none := Hd.pickD (e5) 0 rfl
  have xno_InvalidRow_code : PySem.W.findIn K (.ref (gA8 K)) "code" = some none := Hd.pickD (e5) 1 rfl
  have xsa_InvalidChange : PySem.W.findIn K (.ref (gA2 K)) "__setattr__" = some (some (.builtin "object.__setattr__")) := Hd.pickD (e5) 2 rfl
  have xeb_InvalidChange : PySem.W.subIn K (.ref (gA2 K)) (.type "BaseException") = some true := Hd.pickD (e5) 3 rfl
  have xty_InvalidChange : PySem.W.typeIn K (.ref (gA2 K)) = some (.type "type") := Hd.pickD (e5) 4 rfl
  have xkp_InvalidChange : PySem.W.keepIn K (.ref (gA2 K)) = true := Hd.pickD (e5) 5 rfl
  have xin_InvalidChange : PySem.W.findIn K (.ref (gA2 K)) "__init__" = some (some (.ref (Hd.fAt K "InvalidChange"))) := Hd.pickD (e5) 6 rfl
  have xif_InvalidChange : PySem.W.typeIn K (.ref (Hd.fAt K "InvalidChange")) = some (.type "function") := Hd.pickD (e5) 7 rfl
  have xsu_InvalidChange : PySem.W.ks_superIn K (gA2 K) (gA2 K) "__init__" = some (some (.builtin "ValueError.__init__")) := Hd.pickD (e5) 8 rfl
  have xve_InvalidChange : PySem.W.subIn K (.ref (gA2 K)) (.type "ValueError") = some true := Hd.pickD (e5) 9 rfl
  have xmr_InvalidChange : PySem.W.mroIn K (gA2 K) (.ref (gA2 K)) = some true := Hd.pickD (e5) 10 rfl
  have xga_InvalidChange : PySem.W.findIn K (.ref (gA2 K)) "__getattribute__" = some (some (.builtin "BaseException.__getattribute__")) := Hd.pickD (e5) 11 rfl
  have xgg_InvalidChange : PySem.W.findIn K (.ref (gA2 K)) "__getattr__" = some none := Hd.pickD (e5) 12 rfl
  have xhd_InvalidChange : PySem.W.hasDictIn K (gA2 K) = true := Hd.pickD (e5) 13 rfl
  have xno_InvalidChange_at : PySem.W.findIn K (.ref (gA2 K)) "at" = some none := Hd.pickD (e5) 14 rfl
  have xno_InvalidChange_code : PySem.W.findIn K (.ref (gA2 K)) "code" = some none := Hd.pickD (e5) 15 rfl
  have xsa_InvalidKey : PySem.W.findIn K (.ref (gA4 K)) "__setattr__" = some (some (.builtin "object.__setattr__")) := Hd.pickD (e5) 16 rfl
  have xeb_InvalidKey : PySem.W.subIn K (.ref (gA4 K)) (.type "BaseException") = some true := Hd.pickD (e5) 17 rfl
  have xty_InvalidKey : PySem.W.typeIn K (.ref (gA4 K)) = some (.type "type") := Hd.pickD (e5) 18 rfl
  have xkp_InvalidKey : PySem.W.keepIn K (.ref (gA4 K)) = true := Hd.pickD (e5) 19 rfl
  have xin_InvalidKey : PySem.W.findIn K (.ref (gA4 K)) "__init__" = some (some (.ref (Hd.fAt K "InvalidKey"))) := Hd.pickD (e6) 0 rfl
  have xif_InvalidKey : PySem.W.typeIn K (.ref (Hd.fAt K "InvalidKey")) = some (.type "function") := Hd.pickD (e6) 1 rfl
  have xsu_InvalidKey : PySem.W.ks_superIn K (gA4 K) (gA4 K) "__init__" = some (some (.builtin "ValueError.__init__")) := Hd.pickD (e6) 2 rfl
  have xve_InvalidKey : PySem.W.subIn K (.ref (gA4 K)) (.type "ValueError") = some true := Hd.pickD (e6) 3 rfl
  have xmr_InvalidKey : PySem.W.mroIn K (gA4 K) (.ref (gA4 K)) = some true := Hd.pickD (e6) 4 rfl
  have xga_InvalidKey : PySem.W.findIn K (.ref (gA4 K)) "__getattribute__" = some (some (.builtin "BaseException.__getattribute__")) := Hd.pickD (e6) 5 rfl
  have xgg_InvalidKey : PySem.W.findIn K (.ref (gA4 K)) "__getattr__" = some none := Hd.pickD (e6) 6 rfl
  have xhd_InvalidKey : PySem.W.hasDictIn K (gA4 K) = true := Hd.pickD (e6) 7 rfl
  have xno_InvalidKey_at : PySem.W.findIn K (.ref (gA4 K)) "at" = some none := Hd.pickD (e6) 8 rfl
  have xno_InvalidKey_code : PySem.W.findIn K (.ref (gA4 K)) "code" = some none := Hd.pickD (e6) 9 rfl
  have xsa_InvalidText : PySem.W.findIn K (.ref (gA10 K)) "__setattr__" = some (some (.builtin "object.__setattr__")) := Hd.pickD (e6) 10 rfl
  have xeb_InvalidText : PySem.W.subIn K (.ref (gA10 K)) (.type "BaseException") = some true := Hd.pickD (e6) 11 rfl
  have xty_InvalidText : PySem.W.typeIn K (.ref (gA10 K)) = some (.type "type") := Hd.pickD (e6) 12 rfl
  have xkp_InvalidText : PySem.W.keepIn K (.ref (gA10 K)) = true := Hd.pickD (e6) 13 rfl
  have xin_InvalidText : PySem.W.findIn K (.ref (gA10 K)) "__init__" = some (some (.ref (Hd.fAt K "InvalidText"))) := Hd.pickD (e6) 14 rfl
  have xif_InvalidText : PySem.W.typeIn K (.ref (Hd.fAt K "InvalidText")) = some (.type "function") := Hd.pickD (e6) 15 rfl
  have xsu_InvalidText : PySem.W.ks_superIn K (gA10 K) (gA10 K) "__init__" = some (some (.builtin "ValueError.__init__")) := Hd.pickD (e6) 16 rfl
  have xve_InvalidText : PySem.W.subIn K (.ref (gA10 K)) (.type "ValueError") = some true := Hd.pickD (e6) 17 rfl
  have xmr_InvalidText : PySem.W.mroIn K (gA10 K) (.ref (gA10 K)) = some true := Hd.pickD (e6) 18 rfl
  have xga_InvalidText : PySem.W.findIn K (.ref (gA10 K)) "__getattribute__" = some (some (.builtin "BaseException.__getattribute__")) := Hd.pickD (e6) 19 rfl
  have xgg_InvalidText : PySem.W.findIn K (.ref (gA10 K)) "__getattr__" = some none := Hd.pickD (e7) 0 rfl
  have xhd_InvalidText : PySem.W.hasDictIn K (gA10 K) = true := Hd.pickD (e7) 1 rfl
  have xno_InvalidText_at : PySem.W.findIn K (.ref (gA10 K)) "at" = some none := Hd.pickD (e7) 2 rfl
  have xno_InvalidText_code : PySem.W.findIn K (.ref (gA10 K)) "code" = some none := Hd.pickD (e7) 3 rfl
  have xsa_InvalidWish : PySem.W.findIn K (.ref (gA11 K)) "__setattr__" = some (some (.builtin "object.__setattr__")) := Hd.pickD (e7) 4 rfl
  have xeb_InvalidWish : PySem.W.subIn K (.ref (gA11 K)) (.type "BaseException") = some true := Hd.pickD (e7) 5 rfl
  have xty_InvalidWish : PySem.W.typeIn K (.ref (gA11 K)) = some (.type "type") := Hd.pickD (e7) 6 rfl
  have xkp_InvalidWish : PySem.W.keepIn K (.ref (gA11 K)) = true := Hd.pickD (e7) 7 rfl
  have xin_InvalidWish : PySem.W.findIn K (.ref (gA11 K)) "__init__" = some (some (.ref (Hd.fAt K "InvalidWish"))) := Hd.pickD (e7) 8 rfl
  have xif_InvalidWish : PySem.W.typeIn K (.ref (Hd.fAt K "InvalidWish")) = some (.type "function") := Hd.pickD (e7) 9 rfl
  have xsu_InvalidWish : PySem.W.ks_superIn K (gA11 K) (gA11 K) "__init__" = some (some (.builtin "ValueError.__init__")) := Hd.pickD (e7) 10 rfl
  have xve_InvalidWish : PySem.W.subIn K (.ref (gA11 K)) (.type "ValueError") = some true := Hd.pickD (e7) 11 rfl
  have xmr_InvalidWish : PySem.W.mroIn K (gA11 K) (.ref (gA11 K)) = some true := Hd.pickD (e7) 12 rfl
  have xga_InvalidWish : PySem.W.findIn K (.ref (gA11 K)) "__getattribute__" = some (some (.builtin "BaseException.__getattribute__")) := Hd.pickD (e7) 13 rfl
  have xgg_InvalidWish : PySem.W.findIn K (.ref (gA11 K)) "__getattr__" = some none := Hd.pickD (e7) 14 rfl
  have xhd_InvalidWish : PySem.W.hasDictIn K (gA11 K) = true := Hd.pickD (e7) 15 rfl
  have xno_InvalidWish_given : PySem.W.findIn K (.ref (gA11 K)) "given" = some none := Hd.pickD (e7) 16 rfl
  have xno_InvalidWish_code : PySem.W.findIn K (.ref (gA11 K)) "code" = some none := Hd.pickD (e7) 17 rfl
  have xsa_InvalidLimit : PySem.W.findIn K (.ref (gA5 K)) "__setattr__" = some (some (.builtin "object.__setattr__")) := Hd.pickD (e7) 18 rfl
  have xeb_InvalidLimit : PySem.W.subIn K (.ref (gA5 K)) (.type "BaseException") = some true := Hd.pickD (e7) 19 rfl
  have xty_InvalidLimit : PySem.W.typeIn K (.ref (gA5 K)) = some (.type "type") := Hd.pickD (e8) 0 rfl
  have xkp_InvalidLimit : PySem.W.keepIn K (.ref (gA5 K)) = true := Hd.pickD (e8) 1 rfl
  have xin_InvalidLimit : PySem.W.findIn K (.ref (gA5 K)) "__init__" = some (some (.ref (Hd.fAt K "InvalidLimit"))) := Hd.pickD (e8) 2 rfl
  have xif_InvalidLimit : PySem.W.typeIn K (.ref (Hd.fAt K "InvalidLimit")) = some (.type "function") := Hd.pickD (e8) 3 rfl
  have xsu_InvalidLimit : PySem.W.ks_superIn K (gA5 K) (gA5 K) "__init__" = some (some (.builtin "ValueError.__init__")) := Hd.pickD (e8) 4 rfl
  have xve_InvalidLimit : PySem.W.subIn K (.ref (gA5 K)) (.type "ValueError") = some true := Hd.pickD (e8) 5 rfl
  have xmr_InvalidLimit : PySem.W.mroIn K (gA5 K) (.ref (gA5 K)) = some true := Hd.pickD (e8) 6 rfl
  have xga_InvalidLimit : PySem.W.findIn K (.ref (gA5 K)) "__getattribute__" = some (some (.builtin "BaseException.__getattribute__")) := Hd.pickD (e8) 7 rfl
  have xgg_InvalidLimit : PySem.W.findIn K (.ref (gA5 K)) "__getattr__" = some none := Hd.pickD (e8) 8 rfl
  have xhd_InvalidLimit : PySem.W.hasDictIn K (gA5 K) = true := Hd.pickD (e8) 9 rfl
  have xno_InvalidLimit_given : PySem.W.findIn K (.ref (gA5 K)) "given" = some none := Hd.pickD (e8) 10 rfl
  have xno_InvalidLimit_code : PySem.W.findIn K (.ref (gA5 K)) "code" = some none := Hd.pickD (e8) 11 rfl
  have xsa_InvalidCommand : PySem.W.findIn K (.ref (gA3 K)) "__setattr__" = some (some (.builtin "object.__setattr__")) := Hd.pickD (e8) 12 rfl
  have xeb_InvalidCommand : PySem.W.subIn K (.ref (gA3 K)) (.type "BaseException") = some true := Hd.pickD (e8) 13 rfl
  have xty_InvalidCommand : PySem.W.typeIn K (.ref (gA3 K)) = some (.type "type") := Hd.pickD (e8) 14 rfl
  have xkp_InvalidCommand : PySem.W.keepIn K (.ref (gA3 K)) = true := Hd.pickD (e8) 15 rfl
  have xin_InvalidCommand : PySem.W.findIn K (.ref (gA3 K)) "__init__" = some (some (.ref (Hd.fAt K "InvalidCommand"))) := Hd.pickD (e8) 16 rfl
  have xif_InvalidCommand : PySem.W.typeIn K (.ref (Hd.fAt K "InvalidCommand")) = some (.type "function") := Hd.pickD (e8) 17 rfl
  have xsu_InvalidCommand : PySem.W.ks_superIn K (gA3 K) (gA3 K) "__init__" = some (some (.builtin "ValueError.__init__")) := Hd.pickD (e8) 18 rfl
  have xve_InvalidCommand : PySem.W.subIn K (.ref (gA3 K)) (.type "ValueError") = some true := Hd.pickD (e8) 19 rfl
  have xmr_InvalidCommand : PySem.W.mroIn K (gA3 K) (.ref (gA3 K)) = some true := Hd.pickD (e9) 0 rfl
  have xga_InvalidCommand : PySem.W.findIn K (.ref (gA3 K)) "__getattribute__" = some (some (.builtin "BaseException.__getattribute__")) := Hd.pickD (e9) 1 rfl
  have xgg_InvalidCommand : PySem.W.findIn K (.ref (gA3 K)) "__getattr__" = some none := Hd.pickD (e9) 2 rfl
  have xhd_InvalidCommand : PySem.W.hasDictIn K (gA3 K) = true := Hd.pickD (e9) 3 rfl
  have xno_InvalidCommand_at : PySem.W.findIn K (.ref (gA3 K)) "at" = some none := Hd.pickD (e9) 4 rfl
  have xno_InvalidCommand_code : PySem.W.findIn K (.ref (gA3 K)) "code" = some none := Hd.pickD (e9) 5 rfl
  have xsa_DuplicateName : PySem.W.findIn K (.ref (gA0 K)) "__setattr__" = some (some (.builtin "object.__setattr__")) := Hd.pickD (e9) 6 rfl
  have xeb_DuplicateName : PySem.W.subIn K (.ref (gA0 K)) (.type "BaseException") = some true := Hd.pickD (e9) 7 rfl
  have xty_DuplicateName : PySem.W.typeIn K (.ref (gA0 K)) = some (.type "type") := Hd.pickD (e9) 8 rfl
  have xkp_DuplicateName : PySem.W.keepIn K (.ref (gA0 K)) = true := Hd.pickD (e9) 9 rfl
  have xin_DuplicateName : PySem.W.findIn K (.ref (gA0 K)) "__init__" = some (some (.ref (Hd.fAt K "DuplicateName"))) := Hd.pickD (e9) 10 rfl
  have xif_DuplicateName : PySem.W.typeIn K (.ref (Hd.fAt K "DuplicateName")) = some (.type "function") := Hd.pickD (e9) 11 rfl
  have xsu_DuplicateName : PySem.W.ks_superIn K (gA0 K) (gA0 K) "__init__" = some (some (.builtin "ValueError.__init__")) := Hd.pickD (e9) 12 rfl
  have xve_DuplicateName : PySem.W.subIn K (.ref (gA0 K)) (.type "ValueError") = some true := Hd.pickD (e9) 13 rfl
  have xmr_DuplicateName : PySem.W.mroIn K (gA0 K) (.ref (gA0 K)) = some true := Hd.pickD (e9) 14 rfl
  have xga_DuplicateName : PySem.W.findIn K (.ref (gA0 K)) "__getattribute__" = some (some (.builtin "BaseException.__getattribute__")) := Hd.pickD (e9) 15 rfl
  have xgg_DuplicateName : PySem.W.findIn K (.ref (gA0 K)) "__getattr__" = some none := Hd.pickD (e9) 16 rfl
  have xhd_DuplicateName : PySem.W.hasDictIn K (gA0 K) = true := Hd.pickD (e9) 17 rfl
  have xno_DuplicateName_name : PySem.W.findIn K (.ref (gA0 K)) "name" = some none := Hd.pickD (e9) 18 rfl
  have xno_DuplicateName_code : PySem.W.findIn K (.ref (gA0 K)) "code" = some none := Hd.pickD (e9) 19 rfl
  have xsa_WrongKind : PySem.W.findIn K (.ref (gA23 K)) "__setattr__" = some (some (.builtin "object.__setattr__")) := Hd.pickD (e10) 0 rfl
  have xeb_WrongKind : PySem.W.subIn K (.ref (gA23 K)) (.type "BaseException") = some true := Hd.pickD (e10) 1 rfl
  have xty_WrongKind : PySem.W.typeIn K (.ref (gA23 K)) = some (.type "type") := Hd.pickD (e10) 2 rfl
  have xkp_WrongKind : PySem.W.keepIn K (.ref (gA23 K)) = true := Hd.pickD (e10) 3 rfl
  have xin_WrongKind : PySem.W.findIn K (.ref (gA23 K)) "__init__" = some (some (.ref (Hd.fAt K "WrongKind"))) := Hd.pickD (e10) 4 rfl
  have xif_WrongKind : PySem.W.typeIn K (.ref (Hd.fAt K "WrongKind")) = some (.type "function") := Hd.pickD (e10) 5 rfl
  have xsu_WrongKind : PySem.W.ks_superIn K (gA23 K) (gA23 K) "__init__" = some (some (.builtin "ValueError.__init__")) := Hd.pickD (e10) 6 rfl
  have xve_WrongKind : PySem.W.subIn K (.ref (gA23 K)) (.type "ValueError") = some true := Hd.pickD (e10) 7 rfl
  have xmr_WrongKind : PySem.W.mroIn K (gA23 K) (.ref (gA23 K)) = some true := Hd.pickD (e10) 8 rfl
  have xga_WrongKind : PySem.W.findIn K (.ref (gA23 K)) "__getattribute__" = some (some (.builtin "BaseException.__getattribute__")) := Hd.pickD (e10) 9 rfl
  have xgg_WrongKind : PySem.W.findIn K (.ref (gA23 K)) "__getattr__" = some none := Hd.pickD (e10) 10 rfl
  have xhd_WrongKind : PySem.W.hasDictIn K (gA23 K) = true := Hd.pickD (e10) 11 rfl
  have xno_WrongKind_name : PySem.W.findIn K (.ref (gA23 K)) "name" = some none := Hd.pickD (e10) 12 rfl
  have xno_WrongKind_code : PySem.W.findIn K (.ref (gA23 K)) "code" = some none := Hd.pickD (e10) 13 rfl
  have xsa_TooMany : PySem.W.findIn K (.ref (gA20 K)) "__setattr__" = some (some (.builtin "object.__setattr__")) := Hd.pickD (e10) 14 rfl
  have xeb_TooMany : PySem.W.subIn K (.ref (gA20 K)) (.type "BaseException") = some true := Hd.pickD (e10) 15 rfl
  have xty_TooMany : PySem.W.typeIn K (.ref (gA20 K)) = some (.type "type") := Hd.pickD (e10) 16 rfl
  have xkp_TooMany : PySem.W.keepIn K (.ref (gA20 K)) = true := Hd.pickD (e10) 17 rfl
  have xin_TooMany : PySem.W.findIn K (.ref (gA20 K)) "__init__" = some (some (.ref (Hd.fAt K "TooMany"))) := Hd.pickD (e10) 18 rfl
  have xif_TooMany : PySem.W.typeIn K (.ref (Hd.fAt K "TooMany")) = some (.type "function") := Hd.pickD (e10) 19 rfl
  have xsu_TooMany : PySem.W.ks_superIn K (gA20 K) (gA20 K) "__init__" = some (some (.builtin "ValueError.__init__")) := Hd.pickD (e11) 0 rfl
  have xve_TooMany : PySem.W.subIn K (.ref (gA20 K)) (.type "ValueError") = some true := Hd.pickD (e11) 1 rfl
  have xmr_TooMany : PySem.W.mroIn K (gA20 K) (.ref (gA20 K)) = some true := Hd.pickD (e11) 2 rfl
  have xga_TooMany : PySem.W.findIn K (.ref (gA20 K)) "__getattribute__" = some (some (.builtin "BaseException.__getattribute__")) := Hd.pickD (e11) 3 rfl
  have xgg_TooMany : PySem.W.findIn K (.ref (gA20 K)) "__getattr__" = some none := Hd.pickD (e11) 4 rfl
  have xhd_TooMany : PySem.W.hasDictIn K (gA20 K) = true := Hd.pickD (e11) 5 rfl
  have xno_TooMany_subject : PySem.W.findIn K (.ref (gA20 K)) "subject" = some none := Hd.pickD (e11) 6 rfl
  have xno_TooMany_most : PySem.W.findIn K (.ref (gA20 K)) "most" = some none := Hd.pickD (e11) 7 rfl
  have xno_TooMany_code : PySem.W.findIn K (.ref (gA20 K)) "code" = some none := Hd.pickD (e11) 8 rfl
  have xsa_TooLong : PySem.W.findIn K (.ref (gA19 K)) "__setattr__" = some (some (.builtin "object.__setattr__")) := Hd.pickD (e11) 9 rfl
  have xeb_TooLong : PySem.W.subIn K (.ref (gA19 K)) (.type "BaseException") = some true := Hd.pickD (e11) 10 rfl
  have xty_TooLong : PySem.W.typeIn K (.ref (gA19 K)) = some (.type "type") := Hd.pickD (e11) 11 rfl
  have xkp_TooLong : PySem.W.keepIn K (.ref (gA19 K)) = true := Hd.pickD (e11) 12 rfl
  have xin_TooLong : PySem.W.findIn K (.ref (gA19 K)) "__init__" = some (some (.ref (Hd.fAt K "TooLong"))) := Hd.pickD (e11) 13 rfl
  have xif_TooLong : PySem.W.typeIn K (.ref (Hd.fAt K "TooLong")) = some (.type "function") := Hd.pickD (e11) 14 rfl
  have xsu_TooLong : PySem.W.ks_superIn K (gA19 K) (gA19 K) "__init__" = some (some (.builtin "ValueError.__init__")) := Hd.pickD (e11) 15 rfl
  have xve_TooLong : PySem.W.subIn K (.ref (gA19 K)) (.type "ValueError") = some true := Hd.pickD (e11) 16 rfl
  have xmr_TooLong : PySem.W.mroIn K (gA19 K) (.ref (gA19 K)) = some true := Hd.pickD (e11) 17 rfl
  have xga_TooLong : PySem.W.findIn K (.ref (gA19 K)) "__getattribute__" = some (some (.builtin "BaseException.__getattribute__")) := Hd.pickD (e11) 18 rfl
  have xgg_TooLong : PySem.W.findIn K (.ref (gA19 K)) "__getattr__" = some none := Hd.pickD (e11) 19 rfl
  have xhd_TooLong : PySem.W.hasDictIn K (gA19 K) = true := Hd.pickD (e12) 0 rfl
  have xno_TooLong_most : PySem.W.findIn K (.ref (gA19 K)) "most" = some none := Hd.pickD (e12) 1 rfl
  have xno_TooLong_code : PySem.W.findIn K (.ref (gA19 K)) "code" = some none := Hd.pickD (e12) 2 rfl
  have xsa_Full : PySem.W.findIn K (.ref (gA1 K)) "__setattr__" = some (some (.builtin "object.__setattr__")) := Hd.pickD (e12) 3 rfl
  have xeb_Full : PySem.W.subIn K (.ref (gA1 K)) (.type "BaseException") = some true := Hd.pickD (e12) 4 rfl
  have xty_Full : PySem.W.typeIn K (.ref (gA1 K)) = some (.type "type") := Hd.pickD (e12) 5 rfl
  have xkp_Full : PySem.W.keepIn K (.ref (gA1 K)) = true := Hd.pickD (e12) 6 rfl
  have xin_Full : PySem.W.findIn K (.ref (gA1 K)) "__init__" = some (some (.ref (Hd.fAt K "Full"))) := Hd.pickD (e12) 7 rfl
  have xif_Full : PySem.W.typeIn K (.ref (Hd.fAt K "Full")) = some (.type "function") := Hd.pickD (e12) 8 rfl
  have xsu_Full : PySem.W.ks_superIn K (gA1 K) (gA1 K) "__init__" = some (some (.builtin "ValueError.__init__")) := Hd.pickD (e12) 9 rfl
  have xve_Full : PySem.W.subIn K (.ref (gA1 K)) (.type "ValueError") = some true := Hd.pickD (e12) 10 rfl
  have xmr_Full : PySem.W.mroIn K (gA1 K) (.ref (gA1 K)) = some true := Hd.pickD (e12) 11 rfl
  have xga_Full : PySem.W.findIn K (.ref (gA1 K)) "__getattribute__" = some (some (.builtin "BaseException.__getattribute__")) := Hd.pickD (e12) 12 rfl
  have xgg_Full : PySem.W.findIn K (.ref (gA1 K)) "__getattr__" = some none := Hd.pickD (e12) 13 rfl
  have xhd_Full : PySem.W.hasDictIn K (gA1 K) = true := Hd.pickD (e12) 14 rfl
  have xno_Full_most : PySem.W.findIn K (.ref (gA1 K)) "most" = some none := Hd.pickD (e12) 15 rfl
  have xno_Full_code : PySem.W.findIn K (.ref (gA1 K)) "code" = some none := Hd.pickD (e12) 16 rfl
  have xsa_WrongWord : PySem.W.findIn K (.ref (gA24 K)) "__setattr__" = some (some (.builtin "object.__setattr__")) := Hd.pickD (e12) 17 rfl
  have xeb_WrongWord : PySem.W.subIn K (.ref (gA24 K)) (.type "BaseException") = some true := Hd.pickD (e12) 18 rfl
  have xty_WrongWord : PySem.W.typeIn K (.ref (gA24 K)) = some (.type "type") := Hd.pickD (e12) 19 rfl
  have xkp_WrongWord : PySem.W.keepIn K (.ref (gA24 K)) = true := Hd.pickD (e13) 0 rfl
  have xin_WrongWord : PySem.W.findIn K (.ref (gA24 K)) "__init__" = some (some (.ref (Hd.fAt K "WrongWord"))) := Hd.pickD (e13) 1 rfl
  have xif_WrongWord : PySem.W.typeIn K (.ref (Hd.fAt K "WrongWord")) = some (.type "function") := Hd.pickD (e13) 2 rfl
  have xsu_WrongWord : PySem.W.ks_superIn K (gA24 K) (gA24 K) "__init__" = some (some (.builtin "ValueError.__init__")) := Hd.pickD (e13) 3 rfl
  have xve_WrongWord : PySem.W.subIn K (.ref (gA24 K)) (.type "ValueError") = some true := Hd.pickD (e13) 4 rfl
  have xmr_WrongWord : PySem.W.mroIn K (gA24 K) (.ref (gA24 K)) = some true := Hd.pickD (e13) 5 rfl
  have xga_WrongWord : PySem.W.findIn K (.ref (gA24 K)) "__getattribute__" = some (some (.builtin "BaseException.__getattribute__")) := Hd.pickD (e13) 6 rfl
  have xgg_WrongWord : PySem.W.findIn K (.ref (gA24 K)) "__getattr__" = some none := Hd.pickD (e13) 7 rfl
  have xhd_WrongWord : PySem.W.hasDictIn K (gA24 K) = true := Hd.pickD (e13) 8 rfl
  have xno_WrongWord_at : PySem.W.findIn K (.ref (gA24 K)) "at" = some none := Hd.pickD (e13) 9 rfl
  have xno_WrongWord_why : PySem.W.findIn K (.ref (gA24 K)) "why" = some none := Hd.pickD (e13) 10 rfl
  have xno_WrongWord_code : PySem.W.findIn K (.ref (gA24 K)) "code" = some none := Hd.pickD (e13) 11 rfl
  have xsa_Mixed : PySem.W.findIn K (.ref (gA15 K)) "__setattr__" = some (some (.builtin "object.__setattr__")) := Hd.pickD (e13) 12 rfl
  have xeb_Mixed : PySem.W.subIn K (.ref (gA15 K)) (.type "BaseException") = some true := Hd.pickD (e13) 13 rfl
  have xty_Mixed : PySem.W.typeIn K (.ref (gA15 K)) = some (.type "type") := Hd.pickD (e13) 14 rfl
  have xkp_Mixed : PySem.W.keepIn K (.ref (gA15 K)) = true := Hd.pickD (e13) 15 rfl
  have xin_Mixed : PySem.W.findIn K (.ref (gA15 K)) "__init__" = some (some (.ref (Hd.fAt K "Mixed"))) := Hd.pickD (e13) 16 rfl
  have xif_Mixed : PySem.W.typeIn K (.ref (Hd.fAt K "Mixed")) = some (.type "function") := Hd.pickD (e13) 17 rfl
  have xsu_Mixed : PySem.W.ks_superIn K (gA15 K) (gA15 K) "__init__" = some (some (.builtin "ValueError.__init__")) := Hd.pickD (e13) 18 rfl
  have xve_Mixed : PySem.W.subIn K (.ref (gA15 K)) (.type "ValueError") = some true := Hd.pickD (e13) 19 rfl
  have xmr_Mixed : PySem.W.mroIn K (gA15 K) (.ref (gA15 K)) = some true := Hd.pickD (e14) 0 rfl
  have xga_Mixed : PySem.W.findIn K (.ref (gA15 K)) "__getattribute__" = some (some (.builtin "BaseException.__getattribute__")) := Hd.pickD (e14) 1 rfl
  have xgg_Mixed : PySem.W.findIn K (.ref (gA15 K)) "__getattr__" = some none := Hd.pickD (e14) 2 rfl
  have xhd_Mixed : PySem.W.hasDictIn K (gA15 K) = true := Hd.pickD (e14) 3 rfl
  have xno_Mixed_code : PySem.W.findIn K (.ref (gA15 K)) "code" = some none := Hd.pickD (e14) 4 rfl
  have xsa_NotLive : PySem.W.findIn K (.ref (gA17 K)) "__setattr__" = some (some (.builtin "object.__setattr__")) := Hd.pickD (e14) 5 rfl
  have xeb_NotLive : PySem.W.subIn K (.ref (gA17 K)) (.type "BaseException") = some true := Hd.pickD (e14) 6 rfl
  have xty_NotLive : PySem.W.typeIn K (.ref (gA17 K)) = some (.type "type") := Hd.pickD (e14) 7 rfl
  have xkp_NotLive : PySem.W.keepIn K (.ref (gA17 K)) = true := Hd.pickD (e14) 8 rfl
  have xin_NotLive : PySem.W.findIn K (.ref (gA17 K)) "__init__" = some (some (.ref (Hd.fAt K "NotLive"))) := Hd.pickD (e14) 9 rfl
  have xif_NotLive : PySem.W.typeIn K (.ref (Hd.fAt K "NotLive")) = some (.type "function") := Hd.pickD (e14) 10 rfl
  have xsu_NotLive : PySem.W.ks_superIn K (gA17 K) (gA17 K) "__init__" = some (some (.builtin "ValueError.__init__")) := Hd.pickD (e14) 11 rfl
  have xve_NotLive : PySem.W.subIn K (.ref (gA17 K)) (.type "ValueError") = some true := Hd.pickD (e14) 12 rfl
  have xmr_NotLive : PySem.W.mroIn K (gA17 K) (.ref (gA17 K)) = some true := Hd.pickD (e14) 13 rfl
  have xga_NotLive : PySem.W.findIn K (.ref (gA17 K)) "__getattribute__" = some (some (.builtin "BaseException.__getattribute__")) := Hd.pickD (e14) 14 rfl
  have xgg_NotLive : PySem.W.findIn K (.ref (gA17 K)) "__getattr__" = some none := Hd.pickD (e14) 15 rfl
  have xhd_NotLive : PySem.W.hasDictIn K (gA17 K) = true := Hd.pickD (e14) 16 rfl
  have xno_NotLive_code : PySem.W.findIn K (.ref (gA17 K)) "code" = some none := Hd.pickD (e14) 17 rfl
  have xsa_NoWord : PySem.W.findIn K (.ref (gA16 K)) "__setattr__" = some (some (.builtin "object.__setattr__")) := Hd.pickD (e14) 18 rfl
  have xeb_NoWord : PySem.W.subIn K (.ref (gA16 K)) (.type "BaseException") = some true := Hd.pickD (e14) 19 rfl
  have xty_NoWord : PySem.W.typeIn K (.ref (gA16 K)) = some (.type "type") := Hd.pickD (e15) 0 rfl
  have xkp_NoWord : PySem.W.keepIn K (.ref (gA16 K)) = true := Hd.pickD (e15) 1 rfl
  have xin_NoWord : PySem.W.findIn K (.ref (gA16 K)) "__init__" = some (some (.ref (Hd.fAt K "NoWord"))) := Hd.pickD (e15) 2 rfl
  have xif_NoWord : PySem.W.typeIn K (.ref (Hd.fAt K "NoWord")) = some (.type "function") := Hd.pickD (e15) 3 rfl
  have xsu_NoWord : PySem.W.ks_superIn K (gA16 K) (gA16 K) "__init__" = some (some (.builtin "ValueError.__init__")) := Hd.pickD (e15) 4 rfl
  have xve_NoWord : PySem.W.subIn K (.ref (gA16 K)) (.type "ValueError") = some true := Hd.pickD (e15) 5 rfl
  have xmr_NoWord : PySem.W.mroIn K (gA16 K) (.ref (gA16 K)) = some true := Hd.pickD (e15) 6 rfl
  have xga_NoWord : PySem.W.findIn K (.ref (gA16 K)) "__getattribute__" = some (some (.builtin "BaseException.__getattribute__")) := Hd.pickD (e15) 7 rfl
  have xgg_NoWord : PySem.W.findIn K (.ref (gA16 K)) "__getattr__" = some none := Hd.pickD (e15) 8 rfl
  have xhd_NoWord : PySem.W.hasDictIn K (gA16 K) = true := Hd.pickD (e15) 9 rfl
  have xno_NoWord_code : PySem.W.findIn K (.ref (gA16 K)) "code" = some none := Hd.pickD (e15) 10 rfl
  have xsa_Unlike : PySem.W.findIn K (.ref (gA22 K)) "__setattr__" = some (some (.builtin "object.__setattr__")) := Hd.pickD (e15) 11 rfl
  have xeb_Unlike : PySem.W.subIn K (.ref (gA22 K)) (.type "BaseException") = some true := Hd.pickD (e15) 12 rfl
  have xty_Unlike : PySem.W.typeIn K (.ref (gA22 K)) = some (.type "type") := Hd.pickD (e15) 13 rfl
  have xkp_Unlike : PySem.W.keepIn K (.ref (gA22 K)) = true := Hd.pickD (e15) 14 rfl
  have xin_Unlike : PySem.W.findIn K (.ref (gA22 K)) "__init__" = some (some (.ref (Hd.fAt K "Unlike"))) := Hd.pickD (e15) 15 rfl
  have xif_Unlike : PySem.W.typeIn K (.ref (Hd.fAt K "Unlike")) = some (.type "function") := Hd.pickD (e15) 16 rfl
  have xsu_Unlike : PySem.W.ks_superIn K (gA22 K) (gA22 K) "__init__" = some (some (.builtin "ValueError.__init__")) := Hd.pickD (e15) 17 rfl
  have xve_Unlike : PySem.W.subIn K (.ref (gA22 K)) (.type "ValueError") = some true := Hd.pickD (e15) 18 rfl
  have xmr_Unlike : PySem.W.mroIn K (gA22 K) (.ref (gA22 K)) = some true := Hd.pickD (e15) 19 rfl
  have xga_Unlike : PySem.W.findIn K (.ref (gA22 K)) "__getattribute__" = some (some (.builtin "BaseException.__getattribute__")) := Hd.pickD (e16) 0 rfl
  have xgg_Unlike : PySem.W.findIn K (.ref (gA22 K)) "__getattr__" = some none := Hd.pickD (e16) 1 rfl
  have xhd_Unlike : PySem.W.hasDictIn K (gA22 K) = true := Hd.pickD (e16) 2 rfl
  have xno_Unlike_code : PySem.W.findIn K (.ref (gA22 K)) "code" = some none := Hd.pickD (e16) 3 rfl
  have xsa_UnknownName : PySem.W.findIn K (.ref (gA21 K)) "__setattr__" = some (some (.builtin "object.__setattr__")) := Hd.pickD (e16) 4 rfl
  have xeb_UnknownName : PySem.W.subIn K (.ref (gA21 K)) (.type "BaseException") = some true := Hd.pickD (e16) 5 rfl
  have xty_UnknownName : PySem.W.typeIn K (.ref (gA21 K)) = some (.type "type") := Hd.pickD (e16) 6 rfl
  have xkp_UnknownName : PySem.W.keepIn K (.ref (gA21 K)) = true := Hd.pickD (e16) 7 rfl
  have xin_UnknownName : PySem.W.findIn K (.ref (gA21 K)) "__init__" = some (some (.ref (Hd.fAt K "UnknownName"))) := Hd.pickD (e16) 8 rfl
  have xif_UnknownName : PySem.W.typeIn K (.ref (Hd.fAt K "UnknownName")) = some (.type "function") := Hd.pickD (e16) 9 rfl
  have xsu_UnknownName : PySem.W.ks_superIn K (gA21 K) (gA21 K) "__init__" = some (some (.builtin "LookupError.__init__")) := Hd.pickD (e16) 10 rfl
  have xve_UnknownName : PySem.W.subIn K (.ref (gA21 K)) (.type "LookupError") = some true := Hd.pickD (e16) 11 rfl
  have xmr_UnknownName : PySem.W.mroIn K (gA21 K) (.ref (gA21 K)) = some true := Hd.pickD (e16) 12 rfl
  have xga_UnknownName : PySem.W.findIn K (.ref (gA21 K)) "__getattribute__" = some (some (.builtin "BaseException.__getattribute__")) := Hd.pickD (e16) 13 rfl
  have xgg_UnknownName : PySem.W.findIn K (.ref (gA21 K)) "__getattr__" = some none := Hd.pickD (e16) 14 rfl
  have xhd_UnknownName : PySem.W.hasDictIn K (gA21 K) = true := Hd.pickD (e16) 15 rfl
  have xno_UnknownName_name : PySem.W.findIn K (.ref (gA21 K)) "name" = some none := Hd.pickD (e16) 16 rfl
  have xno_UnknownName_code : PySem.W.findIn K (.ref (gA21 K)) "code" = some none := Hd.pickD (e16) 17 rfl
  have xsa_NothingLeft : PySem.W.findIn K (.ref (gA18 K)) "__setattr__" = some (some (.builtin "object.__setattr__")) := Hd.pickD (e16) 18 rfl
  have xeb_NothingLeft : PySem.W.subIn K (.ref (gA18 K)) (.type "BaseException") = some true := Hd.pickD (e16) 19 rfl
  have xty_NothingLeft : PySem.W.typeIn K (.ref (gA18 K)) = some (.type "type") := Hd.pickD (e17) 0 rfl
  have xkp_NothingLeft : PySem.W.keepIn K (.ref (gA18 K)) = true := Hd.pickD (e17) 1 rfl
  have xin_NothingLeft : PySem.W.findIn K (.ref (gA18 K)) "__init__" = some (some (.ref (Hd.fAt K "NothingLeft"))) := Hd.pickD (e17) 2 rfl
  have xif_NothingLeft : PySem.W.typeIn K (.ref (Hd.fAt K "NothingLeft")) = some (.type "function") := Hd.pickD (e17) 3 rfl
  have xsu_NothingLeft : PySem.W.ks_superIn K (gA18 K) (gA18 K) "__init__" = some (some (.builtin "IndexError.__init__")) := Hd.pickD (e17) 4 rfl
  have xve_NothingLeft : PySem.W.subIn K (.ref (gA18 K)) (.type "IndexError") = some true := Hd.pickD (e17) 5 rfl
  have xmr_NothingLeft : PySem.W.mroIn K (gA18 K) (.ref (gA18 K)) = some true := Hd.pickD (e17) 6 rfl
  have xga_NothingLeft : PySem.W.findIn K (.ref (gA18 K)) "__getattribute__" = some (some (.builtin "BaseException.__getattribute__")) := Hd.pickD (e17) 7 rfl
  have xgg_NothingLeft : PySem.W.findIn K (.ref (gA18 K)) "__getattr__" = some none := Hd.pickD (e17) 8 rfl
  have xhd_NothingLeft : PySem.W.hasDictIn K (gA18 K) = true := Hd.pickD (e17) 9 rfl
  have xno_NothingLeft_code : PySem.W.findIn K (.ref (gA18 K)) "code" = some none := Hd.pickD (e17) 10 rfl
  have ecn : PySem.W.specialIn K (.builtin "object.__class__") "__get__" = some (some (.builtin "getset_descriptor.__get__")) := Hd.pickD (e17) 11 rfl
  have ect : PySem.W.takesIn K (.builtin "object.__class__") = some true := Hd.pickD (e17) 12 rfl
  have zb_IndexError : PySem.W.nsIn K mainGlobals "IndexError" = some none := Hd.pickD (e17) 13 rfl
  have zb_LookupError : PySem.W.nsIn K mainGlobals "LookupError" = some none := Hd.pickD (e17) 14 rfl
  have zb_ValueError : PySem.W.nsIn K mainGlobals "ValueError" = some none := Hd.pickD (e17) 15 rfl
  have ecl_InvalidWord : PySem.W.findIn K (.ref (gA12 K)) "__class__" = some (some (.builtin "object.__class__")) := Hd.pickD (e17) 16 rfl
  have ecm_InvalidWord : PySem.W.mroIn K (gA12 K) (.type "object") = some true := Hd.pickD (e17) 17 rfl
  have eki_InvalidWord_LineError : PySem.W.kitOne K (.ref (gA12 K)) (.ref (gA13 K)) = some true := Hd.pickD (e17) 18 rfl
  have eki_InvalidWord_Missing : PySem.W.kitOne K (.ref (gA12 K)) (.ref (gA14 K)) = some false := Hd.pickD (e17) 19 rfl
  have eki_InvalidWord_IndexError : PySem.W.kitOne K (.ref (gA12 K)) (.type "IndexError") = some false := Hd.pickD (e18) 0 rfl
  have eki_InvalidWord_LookupError : PySem.W.kitOne K (.ref (gA12 K)) (.type "LookupError") = some false := Hd.pickD (e18) 1 rfl
  have eki_InvalidWord_ValueError : PySem.W.kitOne K (.ref (gA12 K)) (.type "ValueError") = some true := Hd.pickD (e18) 2 rfl
  have ecl_TooMany : PySem.W.findIn K (.ref (gA20 K)) "__class__" = some (some (.builtin "object.__class__")) := Hd.pickD (e18) 3 rfl
  have ecm_TooMany : PySem.W.mroIn K (gA20 K) (.type "object") = some true := Hd.pickD (e18) 4 rfl
  have eki_TooMany_LineError : PySem.W.kitOne K (.ref (gA20 K)) (.ref (gA13 K)) = some true := Hd.pickD (e18) 5 rfl
  have eki_TooMany_Missing : PySem.W.kitOne K (.ref (gA20 K)) (.ref (gA14 K)) = some false := Hd.pickD (e18) 6 rfl
  have eki_TooMany_IndexError : PySem.W.kitOne K (.ref (gA20 K)) (.type "IndexError") = some false := Hd.pickD (e18) 7 rfl
  have eki_TooMany_LookupError : PySem.W.kitOne K (.ref (gA20 K)) (.type "LookupError") = some false := Hd.pickD (e18) 8 rfl
  have eki_TooMany_ValueError : PySem.W.kitOne K (.ref (gA20 K)) (.type "ValueError") = some true := Hd.pickD (e18) 9 rfl
  have ecl_Mixed : PySem.W.findIn K (.ref (gA15 K)) "__class__" = some (some (.builtin "object.__class__")) := Hd.pickD (e18) 10 rfl
  have ecm_Mixed : PySem.W.mroIn K (gA15 K) (.type "object") = some true := Hd.pickD (e18) 11 rfl
  have eki_Mixed_LineError : PySem.W.kitOne K (.ref (gA15 K)) (.ref (gA13 K)) = some true := Hd.pickD (e18) 12 rfl
  have eki_Mixed_Missing : PySem.W.kitOne K (.ref (gA15 K)) (.ref (gA14 K)) = some false := Hd.pickD (e18) 13 rfl
  have eki_Mixed_IndexError : PySem.W.kitOne K (.ref (gA15 K)) (.type "IndexError") = some false := Hd.pickD (e18) 14 rfl
  have eki_Mixed_LookupError : PySem.W.kitOne K (.ref (gA15 K)) (.type "LookupError") = some false := Hd.pickD (e18) 15 rfl
  have eki_Mixed_ValueError : PySem.W.kitOne K (.ref (gA15 K)) (.type "ValueError") = some true := Hd.pickD (e18) 16 rfl
  have ecl_WrongWord : PySem.W.findIn K (.ref (gA24 K)) "__class__" = some (some (.builtin "object.__class__")) := Hd.pickD (e18) 17 rfl
  have ecm_WrongWord : PySem.W.mroIn K (gA24 K) (.type "object") = some true := Hd.pickD (e18) 18 rfl
  have eki_WrongWord_LineError : PySem.W.kitOne K (.ref (gA24 K)) (.ref (gA13 K)) = some true := Hd.pickD (e18) 19 rfl
  have eki_WrongWord_Missing : PySem.W.kitOne K (.ref (gA24 K)) (.ref (gA14 K)) = some false := Hd.pickD (e19) 0 rfl
  have eki_WrongWord_IndexError : PySem.W.kitOne K (.ref (gA24 K)) (.type "IndexError") = some false := Hd.pickD (e19) 1 rfl
  have eki_WrongWord_LookupError : PySem.W.kitOne K (.ref (gA24 K)) (.type "LookupError") = some false := Hd.pickD (e19) 2 rfl
  have eki_WrongWord_ValueError : PySem.W.kitOne K (.ref (gA24 K)) (.type "ValueError") = some true := Hd.pickD (e19) 3 rfl
  have ecl_Full : PySem.W.findIn K (.ref (gA1 K)) "__class__" = some (some (.builtin "object.__class__")) := Hd.pickD (e19) 4 rfl
  have ecm_Full : PySem.W.mroIn K (gA1 K) (.type "object") = some true := Hd.pickD (e19) 5 rfl
  have eki_Full_LineError : PySem.W.kitOne K (.ref (gA1 K)) (.ref (gA13 K)) = some true := Hd.pickD (e19) 6 rfl
  have eki_Full_Missing : PySem.W.kitOne K (.ref (gA1 K)) (.ref (gA14 K)) = some false := Hd.pickD (e19) 7 rfl
  have eki_Full_IndexError : PySem.W.kitOne K (.ref (gA1 K)) (.type "IndexError") = some false := Hd.pickD (e19) 8 rfl
  have eki_Full_LookupError : PySem.W.kitOne K (.ref (gA1 K)) (.type "LookupError") = some false := Hd.pickD (e19) 9 rfl
  have eki_Full_ValueError : PySem.W.kitOne K (.ref (gA1 K)) (.type "ValueError") = some true := Hd.pickD (e19) 10 rfl
  have ecl_UnknownName : PySem.W.findIn K (.ref (gA21 K)) "__class__" = some (some (.builtin "object.__class__")) := Hd.pickD (e19) 11 rfl
  have ecm_UnknownName : PySem.W.mroIn K (gA21 K) (.type "object") = some true := Hd.pickD (e19) 12 rfl
  have eki_UnknownName_LineError : PySem.W.kitOne K (.ref (gA21 K)) (.ref (gA13 K)) = some false := Hd.pickD (e19) 13 rfl
  have eki_UnknownName_Missing : PySem.W.kitOne K (.ref (gA21 K)) (.ref (gA14 K)) = some true := Hd.pickD (e19) 14 rfl
  have eki_UnknownName_IndexError : PySem.W.kitOne K (.ref (gA21 K)) (.type "IndexError") = some false := Hd.pickD (e19) 15 rfl
  have eki_UnknownName_LookupError : PySem.W.kitOne K (.ref (gA21 K)) (.type "LookupError") = some true := Hd.pickD (e19) 16 rfl
  have eki_UnknownName_ValueError : PySem.W.kitOne K (.ref (gA21 K)) (.type "ValueError") = some false := Hd.pickD (e19) 17 rfl
  have ecl_NothingLeft : PySem.W.findIn K (.ref (gA18 K)) "__class__" = some (some (.builtin "object.__class__")) := Hd.pickD (e19) 18 rfl
  have ecm_NothingLeft : PySem.W.mroIn K (gA18 K) (.type "object") = some true := Hd.pickD (e19) 19 rfl
  have eki_NothingLeft_LineError : PySem.W.kitOne K (.ref (gA18 K)) (.ref (gA13 K)) = some false := Hd.pickD (e20) 0 rfl
  have eki_NothingLeft_Missing : PySem.W.kitOne K (.ref (gA18 K)) (.ref (gA14 K)) = some false := Hd.pickD (e20) 1 rfl
  have eki_NothingLeft_IndexError : PySem.W.kitOne K (.ref (gA18 K)) (.type "IndexError") = some true := Hd.pickD (e20) 2 rfl
  have eki_NothingLeft_LookupError : PySem.W.kitOne K (.ref (gA18 K)) (.type "LookupError") = some true := Hd.pickD (e20) 3 rfl
  have eki_NothingLeft_ValueError : PySem.W.kitOne K (.ref (gA18 K)) (.type "ValueError") = some false := Hd.pickD (e20) 4 rfl
  have z0 : PySem.W.nsIn K mainGlobals "len" = some none := Hd.pickD (e20) 5 rfl
  have z1 : PySem.W.nsIn K mainGlobals "int" = some none := Hd.pickD (e20) 6 rfl
  have z2 : PySem.W.nsIn K mainGlobals "str" = some none := Hd.pickD (e20) 7 rfl
  have z3 : PySem.W.nsIn K mainGlobals "bool" = some none := Hd.pickD (e20) 8 rfl
  have z4 : PySem.W.nsIn K mainGlobals "list" = some none := Hd.pickD (e20) 9 rfl
  have z5 : PySem.W.nsIn K mainGlobals "tuple" = some none := Hd.pickD (e20) 10 rfl
  have z6 : PySem.W.nsIn K mainGlobals "range" = some none := Hd.pickD (e20) 11 rfl
  have z7 : PySem.W.nsIn K mainGlobals "isinstance" = some none := Hd.pickD (e20) 12 rfl
  have z8 : PySem.W.nsIn K mainGlobals "all" = some none := Hd.pickD (e20) 13 rfl
  have z9 : PySem.W.nsIn K mainGlobals "any" = some none := Hd.pickD (e20) 14 rfl
  have z10 : PySem.W.nsIn K mainGlobals "sum" = some none := Hd.pickD (e20) 15 rfl
  have z11 : PySem.W.nsIn K mainGlobals "max" = some none := Hd.pickD (e20) 16 rfl
  have z12 : PySem.W.nsIn K mainGlobals "min" = some none := Hd.pickD (e20) 17 rfl
  have z13 : PySem.W.nsIn K mainGlobals "sorted" = some none := Hd.pickD (e20) 18 rfl
  have z14 : PySem.W.nsIn K mainGlobals "enumerate" = some none := Hd.pickD (e20) 19 rfl
  have z15 : PySem.W.nsIn K mainGlobals "zip" = some none := Hd.pickD (e21) 0 rfl
  have z16 : PySem.W.nsIn K mainGlobals "dict" = some none := Hd.pickD (e21) 1 rfl
  have z17 : PySem.W.nsIn K mainGlobals "set" = some none := Hd.pickD (e21) 2 rfl
  have z18 : PySem.W.nsIn K mainGlobals "repr" = some none := Hd.pickD (e21) 3 rfl
  have z19 : PySem.W.nsIn K mainGlobals "super" = some none := Hd.pickD (e21) 4 rfl
  obtain ⟨fd__law_feed, D__law_feed⟩ := c0.def_ 0 (d := zbU_) rfl
  have k__law_feed := D__law_feed.kp
  obtain ⟨fd__law_take, D__law_take⟩ := c0.def_ 1 (d := zbW_) rfl
  have k__law_take := D__law_take.kp
  obtain ⟨fd__law_of, D__law_of⟩ := c0.def_ 2 (d := zcy_) rfl
  have k__law_of := D__law_of.kp
  obtain ⟨fd__law_same, D__law_same⟩ := c0.def_ 3 (d := zbX_) rfl
  have k__law_same := D__law_same.kp
  obtain ⟨fd__law_bases, D__law_bases⟩ := c0.def_ 4 (d := zbN_) rfl
  have k__law_bases := D__law_bases.kp
  obtain ⟨fd_law, D_law⟩ := c0.def_ 5 (d := dD_law) rfl
  have k_law := D_law.kp
  have so0 : _root_.G.SdOk P w K (dxL w ⟨(gA12 K), (gA6 K), (gA7 K), (gA9 K), (gA8 K), (gA2 K), (gA4 K), (gA10 K), (gA11 K), (gA5 K), (gA3 K), (gA0 K), (gA23 K), (gA20 K), (gA19 K), (gA1 K), (gA24 K), (gA15 K), (gA17 K), (gA16 K), (gA22 K), (gA21 K), (gA18 K), (gA13 K), (gA14 K)⟩) := ⟨rfl, fun a kvs h => by
    cases h⟩
  exact ⟨⟨(gA12 K), (gA6 K), (gA7 K), (gA9 K), (gA8 K), (gA2 K), (gA4 K), (gA10 K), (gA11 K), (gA5 K), (gA3 K), (gA0 K), (gA23 K), (gA20 K), (gA19 K), (gA1 K), (gA24 K), (gA15 K), (gA17 K), (gA16 K), (gA22 K), (gA21 K), (gA18 K), (gA13 K), (gA14 K)⟩, { so := so0, toAlls := {
    d__law_feed := Hd.df_of D__law_feed (PySem.W.mg_of X G hn__law_feed),
    d__law_take := Hd.df_of D__law_take (PySem.W.mg_of X G hn__law_take),
    g__law_of := ⟨_, ⟨⟨⟨_, D__law_of⟩⟩, PySem.W.mg_of X G hn__law_of, k__law_of⟩⟩,
    g__law_same := ⟨_, ⟨⟨⟨_, D__law_same⟩⟩, PySem.W.mg_of X G hn__law_same, k__law_same⟩⟩,
    g__law_bases := ⟨_, ⟨⟨⟨_, D__law_bases⟩⟩, PySem.W.mg_of X G hn__law_bases, k__law_bases⟩⟩,
    d_law := Hd.df_of D_law (PySem.W.mg_of X G hn_law),
    n_InvalidWord := PySem.W.mg_of X G hn_InvalidWord,
    n_InvalidName := PySem.W.mg_of X G hn_InvalidName,
    n_InvalidNumber := PySem.W.mg_of X G hn_InvalidNumber,
    n_InvalidRule := PySem.W.mg_of X G hn_InvalidRule,
    n_InvalidRow := PySem.W.mg_of X G hn_InvalidRow,
    n_InvalidChange := PySem.W.mg_of X G hn_InvalidChange,
    n_InvalidKey := PySem.W.mg_of X G hn_InvalidKey,
    n_InvalidText := PySem.W.mg_of X G hn_InvalidText,
    n_InvalidWish := PySem.W.mg_of X G hn_InvalidWish,
    n_InvalidLimit := PySem.W.mg_of X G hn_InvalidLimit,
    n_InvalidCommand := PySem.W.mg_of X G hn_InvalidCommand,
    n_DuplicateName := PySem.W.mg_of X G hn_DuplicateName,
    n_WrongKind := PySem.W.mg_of X G hn_WrongKind,
    n_TooMany := PySem.W.mg_of X G hn_TooMany,
    n_TooLong := PySem.W.mg_of X G hn_TooLong,
    n_Full := PySem.W.mg_of X G hn_Full,
    n_WrongWord := PySem.W.mg_of X G hn_WrongWord,
    n_Mixed := PySem.W.mg_of X G hn_Mixed,
    n_NotLive := PySem.W.mg_of X G hn_NotLive,
    n_NoWord := PySem.W.mg_of X G hn_NoWord,
    n_Unlike := PySem.W.mg_of X G hn_Unlike,
    n_UnknownName := PySem.W.mg_of X G hn_UnknownName,
    n_NothingLeft := PySem.W.mg_of X G hn_NothingLeft,
    n_LineError := PySem.W.mg_of X G hn_LineError,
    n_Missing := PySem.W.mg_of X G hn_Missing,
    xno_InvalidWord_given := xno_InvalidWord_given,
    xno_InvalidWord_code := xno_InvalidWord_code,
    xf_InvalidWord := ⟨xga_InvalidWord, xgg_InvalidWord, xeb_InvalidWord, xhd_InvalidWord⟩,
    sx_InvalidWord := Hd.sx_of (b := PySem.GXB.vE) PySem.GXB.vE_ok (d := zbx_) (c0.fx_ 0 rfl) (Hd.pick (e21) 5 rfl) xsa_InvalidWord xeb_InvalidWord xty_InvalidWord xkp_InvalidWord xin_InvalidWord xif_InvalidWord (by decide +kernel) xopq xsu_InvalidWord xve_InvalidWord xmr_InvalidWord (NdefX.nscope_by (show NdefX.nscB ["self", "given", "__class__"] ["self", "given"] ["__class__"] (defScope zam_) = true by decide +kernel)) (show (defScope zam_).names.lookup ("super" : Str) = some .globalImplicit by decide +kernel) (show ((defArgs zam_).posonlyargs ++ (defArgs zam_).args).head?.map (·.arg) = some ("self" : Str) by decide +kernel) rfl,
    xno_InvalidName_given := xno_InvalidName_given,
    xno_InvalidName_code := xno_InvalidName_code,
    xf_InvalidName := ⟨xga_InvalidName, xgg_InvalidName, xeb_InvalidName, xhd_InvalidName⟩,
    sx_InvalidName := Hd.sx_of (b := PySem.GXB.vE) PySem.GXB.vE_ok (d := zbJ_) (c0.fx_ 1 rfl) (Hd.pick (e21) 6 rfl) xsa_InvalidName xeb_InvalidName xty_InvalidName xkp_InvalidName xin_InvalidName xif_InvalidName (by decide +kernel) xopq xsu_InvalidName xve_InvalidName xmr_InvalidName (NdefX.nscope_by (show NdefX.nscB ["self", "given", "__class__"] ["self", "given"] ["__class__"] (defScope zag_) = true by decide +kernel)) (show (defScope zag_).names.lookup ("super" : Str) = some .globalImplicit by decide +kernel) (show ((defArgs zag_).posonlyargs ++ (defArgs zag_).args).head?.map (·.arg) = some ("self" : Str) by decide +kernel) rfl,
    xno_InvalidNumber_given := xno_InvalidNumber_given,
    xno_InvalidNumber_code := xno_InvalidNumber_code,
    xf_InvalidNumber := ⟨xga_InvalidNumber, xgg_InvalidNumber, xeb_InvalidNumber, xhd_InvalidNumber⟩,
    sx_InvalidNumber := Hd.sx_of (b := PySem.GXB.vE) PySem.GXB.vE_ok (d := zbj_) (c0.fx_ 2 rfl) (Hd.pick (e21) 7 rfl) xsa_InvalidNumber xeb_InvalidNumber xty_InvalidNumber xkp_InvalidNumber xin_InvalidNumber xif_InvalidNumber (by decide +kernel) xopq xsu_InvalidNumber xve_InvalidNumber xmr_InvalidNumber (NdefX.nscope_by (show NdefX.nscB ["self", "given", "__class__"] ["self", "given"] ["__class__"] (defScope zad_) = true by decide +kernel)) (show (defScope zad_).names.lookup ("super" : Str) = some .globalImplicit by decide +kernel) (show ((defArgs zad_).posonlyargs ++ (defArgs zad_).args).head?.map (·.arg) = some ("self" : Str) by decide +kernel) rfl,
    xno_InvalidRule_at := xno_InvalidRule_at,
    xno_InvalidRule_code := xno_InvalidRule_code,
    xf_InvalidRule := ⟨xga_InvalidRule, xgg_InvalidRule, xeb_InvalidRule, xhd_InvalidRule⟩,
    sx_InvalidRule := Hd.sx_of (b := PySem.GXB.vE) PySem.GXB.vE_ok (d := zbF_) (c0.fx_ 3 rfl) (Hd.pick (e21) 8 rfl) xsa_InvalidRule xeb_InvalidRule xty_InvalidRule xkp_InvalidRule xin_InvalidRule xif_InvalidRule (by decide +kernel) xopq xsu_InvalidRule xve_InvalidRule xmr_InvalidRule (NdefX.nscope_by (show NdefX.nscB ["self", "at", "__class__"] ["self", "at"] ["__class__"] (defScope zai_) = true by decide +kernel)) (show (defScope zai_).names.lookup ("super" : Str) = some .globalImplicit by decide +kernel) (show ((defArgs zai_).posonlyargs ++ (defArgs zai_).args).head?.map (·.arg) = some ("self" : Str) by decide +kernel) rfl,
    xno_InvalidRow_at := xno_InvalidRow_at,
    xno_InvalidRow_code := xno_InvalidRow_code,
    xf_InvalidRow := ⟨xga_InvalidRow, xgg_InvalidRow, xeb_InvalidRow, xhd_InvalidRow⟩,
    sx_InvalidRow := Hd.sx_of (b := PySem.GXB.vE) PySem.GXB.vE_ok (d := zbK_) (c0.fx_ 4 rfl) (Hd.pick (e21) 9 rfl) xsa_InvalidRow xeb_InvalidRow xty_InvalidRow xkp_InvalidRow xin_InvalidRow xif_InvalidRow (by decide +kernel) xopq xsu_InvalidRow xve_InvalidRow xmr_InvalidRow (NdefX.nscope_by (show NdefX.nscB ["self", "at", "__class__"] ["self", "at"] ["__class__"] (defScope zao_) = true by decide +kernel)) (show (defScope zao_).names.lookup ("super" : Str) = some .globalImplicit by decide +kernel) (show ((defArgs zao_).posonlyargs ++ (defArgs zao_).args).head?.map (·.arg) = some ("self" : Str) by decide +kernel) rfl,
    xno_InvalidChange_at := xno_InvalidChange_at,
    xno_InvalidChange_code := xno_InvalidChange_code,
    xf_InvalidChange := ⟨xga_InvalidChange, xgg_InvalidChange, xeb_InvalidChange, xhd_InvalidChange⟩,
    sx_InvalidChange := Hd.sx_of (b := PySem.GXB.vE) PySem.GXB.vE_ok (d := zbo_) (c0.fx_ 5 rfl) (Hd.pick (e21) 10 rfl) xsa_InvalidChange xeb_InvalidChange xty_InvalidChange xkp_InvalidChange xin_InvalidChange xif_InvalidChange (by decide +kernel) xopq xsu_InvalidChange xve_InvalidChange xmr_InvalidChange (NdefX.nscope_by (show NdefX.nscB ["self", "at", "__class__"] ["self", "at"] ["__class__"] (defScope zac_) = true by decide +kernel)) (show (defScope zac_).names.lookup ("super" : Str) = some .globalImplicit by decide +kernel) (show ((defArgs zac_).posonlyargs ++ (defArgs zac_).args).head?.map (·.arg) = some ("self" : Str) by decide +kernel) rfl,
    xno_InvalidKey_at := xno_InvalidKey_at,
    xno_InvalidKey_code := xno_InvalidKey_code,
    xf_InvalidKey := ⟨xga_InvalidKey, xgg_InvalidKey, xeb_InvalidKey, xhd_InvalidKey⟩,
    sx_InvalidKey := Hd.sx_of (b := PySem.GXB.vE) PySem.GXB.vE_ok (d := zbM_) (c0.fx_ 6 rfl) (Hd.pick (e21) 11 rfl) xsa_InvalidKey xeb_InvalidKey xty_InvalidKey xkp_InvalidKey xin_InvalidKey xif_InvalidKey (by decide +kernel) xopq xsu_InvalidKey xve_InvalidKey xmr_InvalidKey (NdefX.nscope_by (show NdefX.nscB ["self", "at", "__class__"] ["self", "at"] ["__class__"] (defScope zan_) = true by decide +kernel)) (show (defScope zan_).names.lookup ("super" : Str) = some .globalImplicit by decide +kernel) (show ((defArgs zan_).posonlyargs ++ (defArgs zan_).args).head?.map (·.arg) = some ("self" : Str) by decide +kernel) rfl,
    xno_InvalidText_at := xno_InvalidText_at,
    xno_InvalidText_code := xno_InvalidText_code,
    xf_InvalidText := ⟨xga_InvalidText, xgg_InvalidText, xeb_InvalidText, xhd_InvalidText⟩,
    sx_InvalidText := Hd.sx_of (b := PySem.GXB.vE) PySem.GXB.vE_ok (d := zbH_) (c0.fx_ 7 rfl) (Hd.pick (e21) 12 rfl) xsa_InvalidText xeb_InvalidText xty_InvalidText xkp_InvalidText xin_InvalidText xif_InvalidText (by decide +kernel) xopq xsu_InvalidText xve_InvalidText xmr_InvalidText (NdefX.nscope_by (show NdefX.nscB ["self", "at", "__class__"] ["self", "at"] ["__class__"] (defScope zaj_) = true by decide +kernel)) (show (defScope zaj_).names.lookup ("super" : Str) = some .globalImplicit by decide +kernel) (show ((defArgs zaj_).posonlyargs ++ (defArgs zaj_).args).head?.map (·.arg) = some ("self" : Str) by decide +kernel) rfl,
    xno_InvalidWish_given := xno_InvalidWish_given,
    xno_InvalidWish_code := xno_InvalidWish_code,
    xf_InvalidWish := ⟨xga_InvalidWish, xgg_InvalidWish, xeb_InvalidWish, xhd_InvalidWish⟩,
    sx_InvalidWish := Hd.sx_of (b := PySem.GXB.vE) PySem.GXB.vE_ok (d := zbw_) (c0.fx_ 8 rfl) (Hd.pick (e21) 13 rfl) xsa_InvalidWish xeb_InvalidWish xty_InvalidWish xkp_InvalidWish xin_InvalidWish xif_InvalidWish (by decide +kernel) xopq xsu_InvalidWish xve_InvalidWish xmr_InvalidWish (NdefX.nscope_by (show NdefX.nscB ["self", "given", "__class__"] ["self", "given"] ["__class__"] (defScope zal_) = true by decide +kernel)) (show (defScope zal_).names.lookup ("super" : Str) = some .globalImplicit by decide +kernel) (show ((defArgs zal_).posonlyargs ++ (defArgs zal_).args).head?.map (·.arg) = some ("self" : Str) by decide +kernel) rfl,
    xno_InvalidLimit_given := xno_InvalidLimit_given,
    xno_InvalidLimit_code := xno_InvalidLimit_code,
    xf_InvalidLimit := ⟨xga_InvalidLimit, xgg_InvalidLimit, xeb_InvalidLimit, xhd_InvalidLimit⟩,
    sx_InvalidLimit := Hd.sx_of (b := PySem.GXB.vE) PySem.GXB.vE_ok (d := zbt_) (c0.fx_ 9 rfl) (Hd.pick (e21) 14 rfl) xsa_InvalidLimit xeb_InvalidLimit xty_InvalidLimit xkp_InvalidLimit xin_InvalidLimit xif_InvalidLimit (by decide +kernel) xopq xsu_InvalidLimit xve_InvalidLimit xmr_InvalidLimit (NdefX.nscope_by (show NdefX.nscB ["self", "given", "__class__"] ["self", "given"] ["__class__"] (defScope zaf_) = true by decide +kernel)) (show (defScope zaf_).names.lookup ("super" : Str) = some .globalImplicit by decide +kernel) (show ((defArgs zaf_).posonlyargs ++ (defArgs zaf_).args).head?.map (·.arg) = some ("self" : Str) by decide +kernel) rfl,
    xno_InvalidCommand_at := xno_InvalidCommand_at,
    xno_InvalidCommand_code := xno_InvalidCommand_code,
    xf_InvalidCommand := ⟨xga_InvalidCommand, xgg_InvalidCommand, xeb_InvalidCommand, xhd_InvalidCommand⟩,
    sx_InvalidCommand := Hd.sx_of (b := PySem.GXB.vE) PySem.GXB.vE_ok (d := zbf_) (c0.fx_ 10 rfl) (Hd.pick (e21) 15 rfl) xsa_InvalidCommand xeb_InvalidCommand xty_InvalidCommand xkp_InvalidCommand xin_InvalidCommand xif_InvalidCommand (by decide +kernel) xopq xsu_InvalidCommand xve_InvalidCommand xmr_InvalidCommand (NdefX.nscope_by (show NdefX.nscB ["self", "at", "__class__"] ["self", "at"] ["__class__"] (defScope zab_) = true by decide +kernel)) (show (defScope zab_).names.lookup ("super" : Str) = some .globalImplicit by decide +kernel) (show ((defArgs zab_).posonlyargs ++ (defArgs zab_).args).head?.map (·.arg) = some ("self" : Str) by decide +kernel) rfl,
    xno_DuplicateName_name := xno_DuplicateName_name,
    xno_DuplicateName_code := xno_DuplicateName_code,
    xf_DuplicateName := ⟨xga_DuplicateName, xgg_DuplicateName, xeb_DuplicateName, xhd_DuplicateName⟩,
    sx_DuplicateName := Hd.sx_of (b := PySem.GXB.vE) PySem.GXB.vE_ok (d := zbm_) (c0.fx_ 11 rfl) (Hd.pick (e21) 16 rfl) xsa_DuplicateName xeb_DuplicateName xty_DuplicateName xkp_DuplicateName xin_DuplicateName xif_DuplicateName (by decide +kernel) xopq xsu_DuplicateName xve_DuplicateName xmr_DuplicateName (NdefX.nscope_by (show NdefX.nscB ["self", "name", "__class__"] ["self", "name"] ["__class__"] (defScope zae_) = true by decide +kernel)) (show (defScope zae_).names.lookup ("super" : Str) = some .globalImplicit by decide +kernel) (show ((defArgs zae_).posonlyargs ++ (defArgs zae_).args).head?.map (·.arg) = some ("self" : Str) by decide +kernel) rfl,
    xno_WrongKind_name := xno_WrongKind_name,
    xno_WrongKind_code := xno_WrongKind_code,
    xf_WrongKind := ⟨xga_WrongKind, xgg_WrongKind, xeb_WrongKind, xhd_WrongKind⟩,
    sx_WrongKind := Hd.sx_of (b := PySem.GXB.vE) PySem.GXB.vE_ok (d := zbY_) (c0.fx_ 12 rfl) (Hd.pick (e21) 17 rfl) xsa_WrongKind xeb_WrongKind xty_WrongKind xkp_WrongKind xin_WrongKind xif_WrongKind (by decide +kernel) xopq xsu_WrongKind xve_WrongKind xmr_WrongKind (NdefX.nscope_by (show NdefX.nscB ["self", "name", "__class__"] ["self", "name"] ["__class__"] (defScope zap_) = true by decide +kernel)) (show (defScope zap_).names.lookup ("super" : Str) = some .globalImplicit by decide +kernel) (show ((defArgs zap_).posonlyargs ++ (defArgs zap_).args).head?.map (·.arg) = some ("self" : Str) by decide +kernel) rfl,
    xno_TooMany_subject := xno_TooMany_subject,
    xno_TooMany_most := xno_TooMany_most,
    xno_TooMany_code := xno_TooMany_code,
    xf_TooMany := ⟨xga_TooMany, xgg_TooMany, xeb_TooMany, xhd_TooMany⟩,
    sx_TooMany := Hd.sx_of (b := PySem.GXB.vE) PySem.GXB.vE_ok (d := zcr_) (c0.fx_ 13 rfl) (Hd.pick (e21) 18 rfl) xsa_TooMany xeb_TooMany xty_TooMany xkp_TooMany xin_TooMany xif_TooMany (by decide +kernel) xopq xsu_TooMany xve_TooMany xmr_TooMany (NdefX.nscope_by (show NdefX.nscB ["self", "subject", "most", "__class__"] ["self", "subject", "most"] ["__class__"] (defScope zat_) = true by decide +kernel)) (show (defScope zat_).names.lookup ("super" : Str) = some .globalImplicit by decide +kernel) (show ((defArgs zat_).posonlyargs ++ (defArgs zat_).args).head?.map (·.arg) = some ("self" : Str) by decide +kernel) rfl,
    xno_TooLong_most := xno_TooLong_most,
    xno_TooLong_code := xno_TooLong_code,
    xf_TooLong := ⟨xga_TooLong, xgg_TooLong, xeb_TooLong, xhd_TooLong⟩,
    sx_TooLong := Hd.sx_of (b := PySem.GXB.vE) PySem.GXB.vE_ok (d := zcE_) (c0.fx_ 14 rfl) (Hd.pick (e21) 19 rfl) xsa_TooLong xeb_TooLong xty_TooLong xkp_TooLong xin_TooLong xif_TooLong (by decide +kernel) xopq xsu_TooLong xve_TooLong xmr_TooLong (NdefX.nscope_by (show NdefX.nscB ["self", "most", "__class__"] ["self", "most"] ["__class__"] (defScope zar_) = true by decide +kernel)) (show (defScope zar_).names.lookup ("super" : Str) = some .globalImplicit by decide +kernel) (show ((defArgs zar_).posonlyargs ++ (defArgs zar_).args).head?.map (·.arg) = some ("self" : Str) by decide +kernel) rfl,
    xno_Full_most := xno_Full_most,
    xno_Full_code := xno_Full_code,
    xf_Full := ⟨xga_Full, xgg_Full, xeb_Full, xhd_Full⟩,
    sx_Full := Hd.sx_of (b := PySem.GXB.vE) PySem.GXB.vE_ok (d := dX_Full) (c0.fx_ 15 rfl) (Hd.pick (e22) 0 rfl) xsa_Full xeb_Full xty_Full xkp_Full xin_Full xif_Full (by decide +kernel) xopq xsu_Full xve_Full xmr_Full (NdefX.nscope_by (show NdefX.nscB ["self", "most", "__class__"] ["self", "most"] ["__class__"] (defScope zay_) = true by decide +kernel)) (show (defScope zay_).names.lookup ("super" : Str) = some .globalImplicit by decide +kernel) (show ((defArgs zay_).posonlyargs ++ (defArgs zay_).args).head?.map (·.arg) = some ("self" : Str) by decide +kernel) rfl,
    xno_WrongWord_at := xno_WrongWord_at,
    xno_WrongWord_why := xno_WrongWord_why,
    xno_WrongWord_code := xno_WrongWord_code,
    xf_WrongWord := ⟨xga_WrongWord, xgg_WrongWord, xeb_WrongWord, xhd_WrongWord⟩,
    sx_WrongWord := Hd.sx_of (b := PySem.GXB.vE) PySem.GXB.vE_ok (d := zbT_) (c0.fx_ 16 rfl) (Hd.pick (e22) 1 rfl) xsa_WrongWord xeb_WrongWord xty_WrongWord xkp_WrongWord xin_WrongWord xif_WrongWord (by decide +kernel) xopq xsu_WrongWord xve_WrongWord xmr_WrongWord (NdefX.nscope_by (show NdefX.nscB ["self", "at", "why", "__class__"] ["self", "at", "why"] ["__class__"] (defScope zaq_) = true by decide +kernel)) (show (defScope zaq_).names.lookup ("super" : Str) = some .globalImplicit by decide +kernel) (show ((defArgs zaq_).posonlyargs ++ (defArgs zaq_).args).head?.map (·.arg) = some ("self" : Str) by decide +kernel) rfl,
    xno_Mixed_code := xno_Mixed_code,
    xf_Mixed := ⟨xga_Mixed, xgg_Mixed, xeb_Mixed, xhd_Mixed⟩,
    sx_Mixed := Hd.sx_of (b := PySem.GXB.vE) PySem.GXB.vE_ok (d := zcW_) (c0.fx_ 17 rfl) (Hd.pick (e22) 2 rfl) xsa_Mixed xeb_Mixed xty_Mixed xkp_Mixed xin_Mixed xif_Mixed (by decide +kernel) xopq xsu_Mixed xve_Mixed xmr_Mixed (NdefX.nscope_by (show NdefX.nscB ["self", "__class__"] ["self"] ["__class__"] (defScope zaw_) = true by decide +kernel)) (show (defScope zaw_).names.lookup ("super" : Str) = some .globalImplicit by decide +kernel) (show ((defArgs zaw_).posonlyargs ++ (defArgs zaw_).args).head?.map (·.arg) = some ("self" : Str) by decide +kernel) rfl,
    xno_NotLive_code := xno_NotLive_code,
    xf_NotLive := ⟨xga_NotLive, xgg_NotLive, xeb_NotLive, xhd_NotLive⟩,
    sx_NotLive := Hd.sx_of (b := PySem.GXB.vE) PySem.GXB.vE_ok (d := zct_) (c0.fx_ 18 rfl) (Hd.pick (e22) 3 rfl) xsa_NotLive xeb_NotLive xty_NotLive xkp_NotLive xin_NotLive xif_NotLive (by decide +kernel) xopq xsu_NotLive xve_NotLive xmr_NotLive (NdefX.nscope_by (show NdefX.nscB ["self", "__class__"] ["self"] ["__class__"] (defScope zas_) = true by decide +kernel)) (show (defScope zas_).names.lookup ("super" : Str) = some .globalImplicit by decide +kernel) (show ((defArgs zas_).posonlyargs ++ (defArgs zas_).args).head?.map (·.arg) = some ("self" : Str) by decide +kernel) rfl,
    xno_NoWord_code := xno_NoWord_code,
    xf_NoWord := ⟨xga_NoWord, xgg_NoWord, xeb_NoWord, xhd_NoWord⟩,
    sx_NoWord := Hd.sx_of (b := PySem.GXB.vE) PySem.GXB.vE_ok (d := zcQ_) (c0.fx_ 19 rfl) (Hd.pick (e22) 4 rfl) xsa_NoWord xeb_NoWord xty_NoWord xkp_NoWord xin_NoWord xif_NoWord (by decide +kernel) xopq xsu_NoWord xve_NoWord xmr_NoWord (NdefX.nscope_by (show NdefX.nscB ["self", "__class__"] ["self"] ["__class__"] (defScope zau_) = true by decide +kernel)) (show (defScope zau_).names.lookup ("super" : Str) = some .globalImplicit by decide +kernel) (show ((defArgs zau_).posonlyargs ++ (defArgs zau_).args).head?.map (·.arg) = some ("self" : Str) by decide +kernel) rfl,
    xno_Unlike_code := xno_Unlike_code,
    xf_Unlike := ⟨xga_Unlike, xgg_Unlike, xeb_Unlike, xhd_Unlike⟩,
    sx_Unlike := Hd.sx_of (b := PySem.GXB.vE) PySem.GXB.vE_ok (d := zcP_) (c0.fx_ 20 rfl) (Hd.pick (e22) 5 rfl) xsa_Unlike xeb_Unlike xty_Unlike xkp_Unlike xin_Unlike xif_Unlike (by decide +kernel) xopq xsu_Unlike xve_Unlike xmr_Unlike (NdefX.nscope_by (show NdefX.nscB ["self", "__class__"] ["self"] ["__class__"] (defScope zav_) = true by decide +kernel)) (show (defScope zav_).names.lookup ("super" : Str) = some .globalImplicit by decide +kernel) (show ((defArgs zav_).posonlyargs ++ (defArgs zav_).args).head?.map (·.arg) = some ("self" : Str) by decide +kernel) rfl,
    xno_UnknownName_name := xno_UnknownName_name,
    xno_UnknownName_code := xno_UnknownName_code,
    xf_UnknownName := ⟨xga_UnknownName, xgg_UnknownName, xeb_UnknownName, xhd_UnknownName⟩,
    sx_UnknownName := Hd.sx_of (b := PySem.GXB.lE) PySem.GXB.lE_ok (d := zbA_) (c0.fx_ 21 rfl) (Hd.pick (e22) 6 rfl) xsa_UnknownName xeb_UnknownName xty_UnknownName xkp_UnknownName xin_UnknownName xif_UnknownName (by decide +kernel) xopq xsu_UnknownName xve_UnknownName xmr_UnknownName (NdefX.nscope_by (show NdefX.nscB ["self", "name", "__class__"] ["self", "name"] ["__class__"] (defScope zah_) = true by decide +kernel)) (show (defScope zah_).names.lookup ("super" : Str) = some .globalImplicit by decide +kernel) (show ((defArgs zah_).posonlyargs ++ (defArgs zah_).args).head?.map (·.arg) = some ("self" : Str) by decide +kernel) rfl,
    xno_NothingLeft_code := xno_NothingLeft_code,
    xf_NothingLeft := ⟨xga_NothingLeft, xgg_NothingLeft, xeb_NothingLeft, xhd_NothingLeft⟩,
    sx_NothingLeft := Hd.sx_of (b := PySem.GXB.iE) PySem.GXB.iE_ok (d := zbC_) (c0.fx_ 22 rfl) (Hd.pick (e22) 7 rfl) xsa_NothingLeft xeb_NothingLeft xty_NothingLeft xkp_NothingLeft xin_NothingLeft xif_NothingLeft (by decide +kernel) xopq xsu_NothingLeft xve_NothingLeft xmr_NothingLeft (NdefX.nscope_by (show NdefX.nscB ["self", "__class__"] ["self"] ["__class__"] (defScope zak_) = true by decide +kernel)) (show (defScope zak_).names.lookup ("super" : Str) = some .globalImplicit by decide +kernel) (show ((defArgs zak_).posonlyargs ++ (defArgs zak_).args).head?.map (·.arg) = some ("self" : Str) by decide +kernel) rfl,
    bx_IndexError := PySem.W.mg_none_of X G zb_IndexError,
    bx_LookupError := PySem.W.mg_none_of X G zb_LookupError,
    bx_ValueError := PySem.W.mg_none_of X G zb_ValueError,
    ec_InvalidWord := ⟨xga_InvalidWord, xgg_InvalidWord, xeb_InvalidWord, xhd_InvalidWord, ecl_InvalidWord, ecn, ect, ecm_InvalidWord⟩,
    eki_InvalidWord_LineError := eki_InvalidWord_LineError,
    eki_InvalidWord_Missing := eki_InvalidWord_Missing,
    eki_InvalidWord_IndexError := eki_InvalidWord_IndexError,
    eki_InvalidWord_LookupError := eki_InvalidWord_LookupError,
    eki_InvalidWord_ValueError := eki_InvalidWord_ValueError,
    ec_TooMany := ⟨xga_TooMany, xgg_TooMany, xeb_TooMany, xhd_TooMany, ecl_TooMany, ecn, ect, ecm_TooMany⟩,
    eki_TooMany_LineError := eki_TooMany_LineError,
    eki_TooMany_Missing := eki_TooMany_Missing,
    eki_TooMany_IndexError := eki_TooMany_IndexError,
    eki_TooMany_LookupError := eki_TooMany_LookupError,
    eki_TooMany_ValueError := eki_TooMany_ValueError,
    ec_Mixed := ⟨xga_Mixed, xgg_Mixed, xeb_Mixed, xhd_Mixed, ecl_Mixed, ecn, ect, ecm_Mixed⟩,
    eki_Mixed_LineError := eki_Mixed_LineError,
    eki_Mixed_Missing := eki_Mixed_Missing,
    eki_Mixed_IndexError := eki_Mixed_IndexError,
    eki_Mixed_LookupError := eki_Mixed_LookupError,
    eki_Mixed_ValueError := eki_Mixed_ValueError,
    ec_WrongWord := ⟨xga_WrongWord, xgg_WrongWord, xeb_WrongWord, xhd_WrongWord, ecl_WrongWord, ecn, ect, ecm_WrongWord⟩,
    eki_WrongWord_LineError := eki_WrongWord_LineError,
    eki_WrongWord_Missing := eki_WrongWord_Missing,
    eki_WrongWord_IndexError := eki_WrongWord_IndexError,
    eki_WrongWord_LookupError := eki_WrongWord_LookupError,
    eki_WrongWord_ValueError := eki_WrongWord_ValueError,
    ec_Full := ⟨xga_Full, xgg_Full, xeb_Full, xhd_Full, ecl_Full, ecn, ect, ecm_Full⟩,
    eki_Full_LineError := eki_Full_LineError,
    eki_Full_Missing := eki_Full_Missing,
    eki_Full_IndexError := eki_Full_IndexError,
    eki_Full_LookupError := eki_Full_LookupError,
    eki_Full_ValueError := eki_Full_ValueError,
    ec_UnknownName := ⟨xga_UnknownName, xgg_UnknownName, xeb_UnknownName, xhd_UnknownName, ecl_UnknownName, ecn, ect, ecm_UnknownName⟩,
    eki_UnknownName_LineError := eki_UnknownName_LineError,
    eki_UnknownName_Missing := eki_UnknownName_Missing,
    eki_UnknownName_IndexError := eki_UnknownName_IndexError,
    eki_UnknownName_LookupError := eki_UnknownName_LookupError,
    eki_UnknownName_ValueError := eki_UnknownName_ValueError,
    ec_NothingLeft := ⟨xga_NothingLeft, xgg_NothingLeft, xeb_NothingLeft, xhd_NothingLeft, ecl_NothingLeft, ecn, ect, ecm_NothingLeft⟩,
    eki_NothingLeft_LineError := eki_NothingLeft_LineError,
    eki_NothingLeft_Missing := eki_NothingLeft_Missing,
    eki_NothingLeft_IndexError := eki_NothingLeft_IndexError,
    eki_NothingLeft_LookupError := eki_NothingLeft_LookupError,
    eki_NothingLeft_ValueError := eki_NothingLeft_ValueError,
    T := ⟨PySem.W.mg_none_of X G z0, PySem.W.mg_none_of X G z1, PySem.W.mg_none_of X G z2, PySem.W.mg_none_of X G z3, PySem.W.mg_none_of X G z4, PySem.W.mg_none_of X G z5, PySem.W.mg_none_of X G z6, PySem.W.mg_none_of X G z7, PySem.W.mg_none_of X G z8, PySem.W.mg_none_of X G z9, PySem.W.mg_none_of X G z10, PySem.W.mg_none_of X G z11, PySem.W.mg_none_of X G z12, PySem.W.mg_none_of X G z13, PySem.W.mg_none_of X G z14, PySem.W.mg_none_of X G z15, PySem.W.mg_none_of X G z16, PySem.W.mg_none_of X G z17, PySem.W.mg_none_of X G z18, PySem.W.mg_none_of X G z19⟩ } }⟩
section
variable {P : Program} {w : World} {K : PySem.W.Frag} {mg : Str → Option Value} {base : Heap}
theorem zcG_ : FnScope ["_law_script"] ["_law_script"] (defScope za3_) := ⟨rfl, rfl, rfl, by decide +kernel, rfl, by decide +kernel, by decide +kernel⟩
theorem zcm_ (D : Df K mg "_law_feed" za3_) (T : Txt mg) : Cl P w K mg base CX0 1 "_law_feed" (spFeed K) [] := by
  refine cal_mk D zcG_ (fun _ _ _ _ _ _ us hl => match us, hl with | [_], _ => rfl) (fun vs H Q E h => ?_) (fun f cdv A outer s H vs Q E hr h => ?_)
  · obtain ⟨a, ns, rfl, _⟩ := h; rfl
  · obtain ⟨a, ns, rfl, hS, hn, k⟩ := h
    refine ⟨_, (pss_one (ps_ret (pe_lst (pa_cons (pe_callTy call_list_of (by rfl) T.b_list (by decide +kernel) (pa_cons (pe_slice sl_list (pv 0) po_none (po_some pe_int)) pa_nil)) (pa_cons pe_int (pa_cons pe_int (pa_cons (pe_op op_add pe_int (pe_op op_mul pe_int (pe_callB call_len_seq (by rfl) T.b_len (by decide +kernel) (pa_cons (pv 0) pa_nil)))) pa_nil))))))), ?_⟩
    refine ⟨_, rfl, 60, rfl, a, _, rfl, hS, fun p1 h1 => ?_⟩
    refine ⟨p1, _, rfl, .inl (SqL.of upd_same), fun p2 h2 => ?_⟩
    have e1 : Same H (upd H p1 (.lst (cutV (ns.map V.int) none (some 60)))) := Same.newT h1
    have e2 := e1.trans (Same.newT (o := .lst (cutV (ns.map V.int) none (some 60))) h2)
    refine ⟨_, rfl, a, _, rfl, .inl (Same.seq e2 hS), _, _, rfl, rfl, .inl (by decide), ?_⟩
    refine ⟨_, _, rfl, rfl, ?_⟩
    refine ⟨by show 4 ≤ sizeLine; decide, fun p3 h3 => ?_⟩
    have hc : cutV (ns.map V.int) none (some 60) = (ns.take (HT.sIx ns.length ns.length (some 60))).map V.int := by
      unfold cutV
      rw [List.length_map]
      show List.take (_ - 0) (List.drop 0 _) = _
      rw [Nat.sub_zero, List.drop_zero, List.map_take]
    refine k _ p2 _ (e2.trans (Same.newT h3)) ⟨ns.take (HT.sIx ns.length ns.length (some 60)), 0, 0, _, upd_same, ?_, ?_, by omega, by omega, ?_, ?_, ?_⟩ ?_ ?_
    · rw [upd_ne (ne_of_none upd_same h3), upd_same, hc]
    · exact ne_of_none upd_same h3
    · rw [List.length_map]; omega
    · rw [List.length_map]; omega
    · rw [List.length_take]; omega
    · exact e2.free h3
    · exact e1.free h2
theorem zbb_ : FnScope ["_law_feed_here", "_law_many", "_law_cell", "_law_got", "_law_seed"] ["_law_feed_here", "_law_many"] (defScope za2_) := ⟨rfl, rfl, rfl, by decide +kernel, rfl, by decide +kernel, by decide +kernel⟩
theorem zcd_ (D : Df K mg "_law_take" za2_) (T : Txt mg) : Cl P w K mg base CX0 1 "_law_take" spTake [] := by
  refine cal_mk D zbb_ (fun _ _ _ _ _ _ us hl => match us, hl with | [_, _], _ => rfl) (fun vs H Q E h => ?_) (fun f cdv A outer s H vs Q E hr h => ?_)
  · obtain ⟨a, l, m, rfl, _⟩ := h; rfl
  · obtain ⟨p, l, m, rfl, hF, m0, m1, k⟩ := h
    refine ⟨_, (Evl.pss_cut (ps_if (PW.pt (pw_and (pt_cmpR op_eq (pe_ix ix_list (pv 0) pe_int (fun _ _ => rfl)) pe_int (nomark _)) (pw_and1 (pt_cmpR op_lt (pe_ix ix_list (pv 0) pe_int (fun _ _ => rfl)) (pe_callB call_len (by rfl) T.b_len (by decide +kernel) (pa_cons (pe_ix ix_list (pv 0) pe_int (fun _ _ => rfl)) pa_nil)) (nomark _))))) (pss_cons (ps_set (i := 2) zbb_.nd rfl (by first | exact Or.inl rfl | exact Or.inr rfl) (pe_ix ix_seq (pe_ix ix_list (pv 0) pe_int (fun _ _ => rfl)) (pe_ix ix_list (pv 0) pe_int (fun _ _ => rfl)) (fun _ _ => rfl)))
  (pss_cons (ps_asg (pe_op op_add (pe_ix ix_list (pv 0) pe_int (fun _ _ => rfl)) pe_int) (pg_sub (pv 0) pe_int set_list))
  (pss_one (ps_if (pt_cmpR op_ge (pv 2) (pe_op op_pow pe_int pe_int) (nomark _)) (pss_one (ps_asg (pv 2) (pg_sub (pv 0) pe_int set_list))) (pss_one (ps_asg (pe_op op_modN (pe_callTy call_int1 (by rfl) T.b_int (by decide +kernel) (pa_cons (pe_op op_add (pe_op op_add (pe_op op_mul (pe_ix ix_list (pv 0) pe_int (fun _ _ => rfl)) pe_int) (pe_op op_mul (pe_op op_modN (pe_callTy call_int1 (by rfl) T.b_int (by decide +kernel) (pa_cons (pv 2) pa_nil)) pe_int) pe_int)) pe_int) pa_nil)) pe_int) (pg_sub (pv 0) pe_int set_list))))))) pss_nil)
  (pss_cons (ps_if (pt_cmpR op_gt (pe_ix ix_list (pv 0) pe_int (fun _ _ => rfl)) pe_int (nomark _)) (pss_cons (ps_set (i := 3) zbb_.nd rfl (by first | exact Or.inl rfl | exact Or.inr rfl) (pe_op op_modN (pe_callTy call_int1 (by rfl) T.b_int (by decide +kernel) (pa_cons (pe_ix ix_list (pv 0) pe_int (fun _ _ => rfl)) pa_nil)) (pv 1)))
  (pss_cons (ps_asg (pe_op op_fdivN (pe_ix ix_list (pv 0) pe_int (fun _ _ => rfl)) (pv 1)) (pg_sub (pv 0) pe_int set_list))
  (pss_one (ps_ret (pv 3))))) pss_nil)
  (pss_cons (ps_set (i := 4) zbb_.nd rfl (by first | exact Or.inl rfl | exact Or.inr rfl) (pe_ix ix_list (pv 0) pe_int (fun _ _ => rfl)))
  (pss_cons (ps_asg (pe_op op_modN (pe_callTy call_int1 (by rfl) T.b_int (by decide +kernel) (pa_cons (pe_op op_add (pe_op op_add (pe_op op_mul (pv 4) (pv 4)) (pe_op op_mul (pv 4) pe_int)) pe_int) pa_nil)) pe_int) (pg_sub (pv 0) pe_int set_list))
  (pss_one (ps_ret (pe_op op_modN (pe_callTy call_int1 (by rfl) T.b_int (by decide +kernel) (pa_cons (pe_op op_add (pe_op op_fdivN (pe_ix ix_list (pv 0) pe_int (fun _ _ => rfl)) pe_int) (pe_op op_mul (pe_op op_modN (pe_callTy call_int1 (by rfl) T.b_int (by decide +kernel) (pa_cons (pe_ix ix_list (pv 0) pe_int (fun _ _ => rfl)) pa_nil)) pe_int) pe_int)) pa_nil)) (pv 1)))))))), ?_⟩
    obtain ⟨ns, i, c, s, hp, hl, hlp, hi, hc, hs, hs2, hn⟩ := id hF
    refine ⟨fun σ' H' => (∃ x, σ' = [some (.ref p), some (.int m), x, none, none]) ∧ Mv p l H H', ?_, ?_⟩
    · have skip : ∀ x, (∃ y, [some (V.ref p), some (V.int m), x, none, none] = [some (V.ref p), some (V.int m), y, none, none]) ∧ Mv p l H H := fun x => ⟨⟨x, rfl⟩, Mv.refl hF⟩
      refine ⟨_, rfl, _, _, _, _, rfl, rfl, SqL.of hp, rfl, rfl, _, rfl, ?_⟩
      refine ite2 (fun hc0 => ?_) (fun _ => iteF (skip none))
      refine ⟨_, rfl, _, _, _, _, rfl, rfl, SqL.of hp, rfl, ⟨_, rfl, _, _, _, _, rfl, rfl, SqL.of hp, rfl, .ref l, _, rfl, .inl ⟨_, SqL.of hl, rfl⟩, ?_⟩⟩
      refine ⟨_, _, rfl, rfl, _, rfl, ?_⟩
      refine ite2 (fun hlt => ?_) (fun _ => skip none)
      have hlt2 : i < ((ns.map V.int).length : Int) := of_decide_eq_true hlt
      rw [List.length_map] at hlt2
      obtain ⟨z, hz⟩ : ∃ z, ns[i.toNat]? = some z := ⟨ns[i.toNat]'(by omega), List.getElem?_eq_getElem (by omega)⟩
      have hat : atI (ns.map V.int) i = some (.int z) := by
        have e : i = (i.toNat : Int) := by omega
        rw [e]
        exact atI_nat (by rw [List.getElem?_map, hz]; rfl)
      refine ⟨_, rfl, _, _, _, _, rfl, rfl, SqL.of hp, rfl, _, rfl, _, _, _, _, rfl, rfl, SqL.of hp, rfl, .inl ⟨l, _, _, _, rfl, rfl, SqL.of hl, hat, ?_⟩⟩
      -- feed[1] = feed[1] + 1
      refine ⟨_, rfl, _, _, _, _, rfl, rfl, SqL.of hp, rfl, _, _, rfl, rfl, _, rfl, p, _, 1, 1, rfl, rfl, hp, rfl, ?_⟩
      have hm1 : Mv p l H (upd H p (.lst [.ref l, .int (i + 1), .int c, .int s])) := Mv.put hl hlp (by omega) hc hs hs2 hn
      refine ⟨_, rfl, _, _, rfl, rfl, ⟨by decide, by decide, by decide⟩, _, _, rfl, rfl, _, rfl, ?_⟩
      refine ite2 (fun hz1 => ?_) (fun _ => ?_)
      · have hz2 : (10 : Int) ^ 18 ≤ z := of_decide_eq_true hz1
        refine ⟨_, rfl, _, rfl, p, _, 2, 2, rfl, rfl, upd_same, rfl, ⟨_, rfl⟩, ?_⟩
        have hz3 : (0 : Int) ≤ z := Int.le_trans (by decide) hz2
        rw [upd_upd]
        exact Mv.put hl hlp (by omega) hz3 hs hs2 hn
      · refine ⟨_, rfl, _, _, _, _, rfl, rfl, SqL.of upd_same, rfl, _, _, rfl, rfl, .inl ⟨by omega, by omega⟩, ?_⟩
        refine ⟨_, rfl, .inl ⟨_, rfl, ?_⟩⟩
        refine ⟨_, _, rfl, rfl, (show (2147483399 : Int) ≠ 0 by decide), _, _, rfl, rfl, .inr ⟨by decide, by decide⟩, _, _, rfl, rfl, _, _, rfl, rfl, .inl ⟨_, rfl, ?_⟩⟩
        refine ⟨_, _, rfl, rfl, (show (2147483647 : Int) ≠ 0 by decide), _, rfl, p, _, 3, 3, rfl, rfl, upd_same, rfl, ⟨_, rfl⟩, ?_⟩
        rw [upd_upd]
        exact Mv.put hl hlp (by omega) hc (zcv_ (by decide)).1 (zcv_ (by decide)).2 hn
    · rintro σ' H' ⟨⟨x, rfl⟩, hm⟩
      obtain ⟨ns, i, c, s, hp, hl, hlp, hi, hc, hs, hs2, hn⟩ := id hm.2
      refine ⟨_, rfl, _, _, _, _, rfl, rfl, SqL.of hp, rfl, _, _, rfl, rfl, _, rfl, ?_⟩
      refine ite2 (fun hc1 => ?_) (fun _ => ?_)
      · have hc2 : (0 : Int) < c := of_decide_eq_true hc1
        refine ⟨_, rfl, _, _, _, _, rfl, rfl, SqL.of hp, rfl, .inl ⟨_, rfl, _, rfl, _, _, rfl, rfl, by omega, ?_⟩⟩
        refine ⟨_, rfl, _, _, _, _, rfl, rfl, SqL.of hp, rfl, _, rfl, _, _, rfl, rfl, ⟨by omega, by omega⟩, _, rfl, p, _, 2, 2, rfl, rfl, hp, rfl, ?_⟩
        refine ⟨_, rfl, ?_⟩
        refine k _ _ (zcv_ m0).1 (zcv_ m0).2 (hm.trans (Mv.put hl hlp hi ?_ hs hs2 hn))
        exact Int.fdiv_nonneg hc (by omega)
      · refine ⟨_, rfl, _, _, _, _, rfl, rfl, SqL.of hp, rfl, ?_⟩
        refine ⟨_, rfl, _, rfl, _, _, rfl, rfl, .inl ⟨by omega, by omega⟩, _, rfl, _, _, rfl, rfl, .inl ⟨by omega, by omega⟩, _, _, rfl, rfl, _, _, rfl, rfl, .inl ⟨_, rfl, ?_⟩⟩
        refine ⟨_, _, rfl, rfl, (show (2147483647 : Int) ≠ 0 by decide), _, rfl, p, _, 3, 3, rfl, rfl, hp, rfl, ?_⟩
        have hm2 := hm.trans (Mv.put hl hlp hi hc (zcv_ (a := s * s + s * 16807 + 1299709) (b := 2147483647) (by decide)).1 (zcv_ (by decide)).2 hn)
        refine ⟨_, rfl, _, _, _, _, rfl, rfl, SqL.of upd_same, rfl, _, _, rfl, rfl, ⟨by decide, by decide⟩, ?_⟩
        refine ⟨_, rfl, _, _, _, _, rfl, rfl, SqL.of upd_same, rfl, .inl ⟨_, rfl, _, _, rfl, rfl, (show (6469 : Int) ≠ 0 by decide), _, _, rfl, rfl, .inr ⟨by decide, by decide⟩, _, _, rfl, rfl, .inl ⟨_, rfl, _, rfl, _, _, rfl, rfl, by omega, ?_⟩⟩⟩
        exact k _ _ (zcv_ m0).1 (zcv_ m0).2 hm2
end
end Toy
namespace Toy
open PySem PySem.Spec L2 G
open PyProof.Rows hiding St
def xnD : Nat → List Str := fun C => match C with | 0 => ["given", "code"] | 1 => ["given", "code"] | 2 => ["given", "code"] | 3 => ["at", "code"] | 4 => ["at", "code"] | 5 => ["at", "code"] | 6 => ["at", "code"] | 7 => ["at", "code"] | 8 => ["given", "code"] | 9 => ["given", "code"] | 10 => ["at", "code"] | 11 => ["name", "code"] | 12 => ["name", "code"] | 13 => ["subject", "most", "code"] | 14 => ["most", "code"] | 15 => ["most", "code"] | 16 => ["at", "why", "code"] | 17 => ["code"] | 18 => ["code"] | 19 => ["code"] | 20 => ["code"] | 21 => ["name", "code"] | 22 => ["code"] | _ => []
def cP (C : Nat) : Bool := decide (C < 0)
def zaJ_ : List D → List D := fun ds => [ds.headD .non, .str "InvalidWord"]
def zaK_ : List D → List D := fun ds => [ds.headD .non, .str "InvalidName"]
def zaE_ : List D → List D := fun ds => [ds.headD .non, .str "InvalidNumber"]
def zaN_ : List D → List D := fun ds => [ds.headD .non, .str "InvalidRule"]
def zaS_ : List D → List D := fun ds => [ds.headD .non, .str "InvalidRow"]
def zaC_ : List D → List D := fun ds => [ds.headD .non, .str "InvalidChange"]
def zaT_ : List D → List D := fun ds => [ds.headD .non, .str "InvalidKey"]
def zaL_ : List D → List D := fun ds => [ds.headD .non, .str "InvalidText"]
def zaM_ : List D → List D := fun ds => [ds.headD .non, .str "InvalidWish"]
def zaG_ : List D → List D := fun ds => [ds.headD .non, .str "InvalidLimit"]
def zaA_ : List D → List D := fun ds => [ds.headD .non, .str "InvalidCommand"]
def zaB_ : List D → List D := fun ds => [ds.headD .non, .str "DuplicateName"]
def zaX_ : List D → List D := fun ds => [ds.headD .non, .str "WrongKind"]
def zaU_ : List D → List D := fun ds => [ds.headD .non, (ds.drop 1).headD .non, .str "TooMany"]
def za7_ : List D → List D := fun ds => [ds.headD .non, .str "TooLong"]
def zcb_ : List D → List D := fun ds => [ds.headD .non, .str "Full"]
def zaF_ : List D → List D := fun ds => [ds.headD .non, (ds.drop 1).headD .non, .str "WrongWord"]
def zcH_ : List D → List D := fun ds => [.str "Mixed"]
def zb2_ : List D → List D := fun ds => [.str "NotLive"]
def zce_ : List D → List D := fun ds => [.str "NoWord"]
def zcg_ : List D → List D := fun ds => [.str "Unlike"]
def zaI_ : List D → List D := fun ds => [ds.headD .non, .str "UnknownName"]
def zbd_ : List D → List D := fun ds => [.str "NothingLeft"]
def zaH_ : Nat → Option Bool := fun j => match j with | 0 => some true | 13 => some true | 17 => some true | 16 => some true | 15 => some true | 21 => some false | 22 => some false | _ => none
def za6_ : Nat → Option Bool := fun j => match j with | 0 => some false | 13 => some false | 17 => some false | 16 => some false | 15 => some false | 21 => some true | 22 => some false | _ => none
def zaQ_ : Nat → Option Bool := fun j => match j with | 0 => some false | 13 => some false | 17 => some false | 16 => some false | 15 => some false | 21 => some false | 22 => some true | _ => none
def za1_ : Nat → Option Bool := fun j => match j with | 0 => some false | 13 => some false | 17 => some false | 16 => some false | 15 => some false | 21 => some true | 22 => some true | _ => none
def za5_ : Nat → Option Bool := fun j => match j with | 0 => some true | 13 => some true | 17 => some true | 16 => some true | 15 => some true | 21 => some false | 22 => some false | _ => none
def zcJ_ : Sst := (sRet (s2 ixD (sNm 1) (sCal 0 semTake (sCons (sNm 0) (sCons (sN lenD (sCons (sNm 1) sNil)) sNil)) sNil)))
def zaY_ (ds : List D) : M R := runB 2 zcJ_ ds
def zb9_ (F : Nat → List D → M R) : Sst := (sSeq (sIfS (tOrB (sB (s2 (isND false) (sNm 1) (sK .non))) (sB (s2 (isND false) (sNm 0) (sK .non)))) (sRet (sAnd (s2 (isND false) (sNm 0) (sK .non)) (s2 (isND false) (sNm 1) (sK .non)))) sSkip)
  (sSeq (sIfS (sB (sIsi (fun d => match bList d, bTuple d with | some a, some b => some (a || b) | _, _ => none) (sNm 1))) (sSeq (sIfS (sB (s2 (eqPy true) (sIsi bList (sNm 1)) (sIsi bList (sNm 0)))) (sRet (sK (.bl false))) sSkip)
  (sSeq (sIfS (sB (s2 (eqPy true) (sIsi bTuple (sNm 1)) (sIsi bTuple (sNm 0)))) (sRet (sK (.bl false))) sSkip)
  (sSeq (sIfS (sB (s2 (eqPy true) (sN lenD (sCons (sNm 0) sNil)) (sN lenD (sCons (sNm 1) sNil)))) (sRet (sK (.bl false))) sSkip)
  (sRet (sN allD (sCons (sLc (sRg1 (sCons (sN lenD (sCons (sNm 1) sNil)) sNil)) (.n 2) [2] tYesB (sCal 0 (runF 2 [0, 1] [] (F 0)) (sCons (s2 ixD (sNm 0) (sNm 2)) (sCons (s2 ixD (sNm 1) (sNm 2)) sNil)) sNil)) sNil)))))) sSkip)
  (sSeq (sIfS (sB (sIsi (fun d => match bList d, bTuple d with | some a, some b => some (a || b) | _, _ => none) (sNm 0))) (sRet (sK (.bl false))) sSkip)
  (sSeq (sIfS (sB (s2 (eqPy true) (sIsi bBool (sNm 0)) (sIsi bBool (sNm 1)))) (sRet (sK (.bl false))) sSkip)
  (sRet (sAnd (s2 (eqPy false) (sIsi bStr (sNm 0)) (sIsi bStr (sNm 1))) (s2 (eqPy false) (sNm 0) (sNm 1))))))))
def F_1 : Nat → Nat → List D → M R
  | 0, _, _ => .fail
  | n + 1, k, ds => match k with | 0 => runB 3 (zb9_ (F_1 n)) ds | _ => .fail
def zbq_ (n : Nat) : List D → M R := F_1 n 0
def zb1_ : Sst := (sSeq (sAsg false 0 (sLst (sCons (sOex 0 1 (sCons (sK (.int (1))) sNil)) (sCons (sOex 13 2 (sCons (sK (.int (1))) (sCons (sK (.int (2))) sNil))) (sCons (sOex 17 0 sNil) (sCons (sOex 16 2 (sCons (sK (.int (0))) (sCons (sK (.str "")) sNil))) (sCons (sOex 15 1 (sCons (sK (.int (1))) sNil)) sNil)))))))
  (sSeq (sIfS (tNotB (sB (sN allD (sCons (sLc (sSq (sNm 0)) (.n 1) [1] tYesB (sAnd (sIsx zaH_ (sNm 1)) (sIsx za5_ (sNm 1)))) sNil)))) (sRet (sK (.bl false))) sSkip)
  (sSeq (sPar2 false false 2 3 (sOex 21 1 (sCons (sK (.int (1))) sNil)) (sOex 22 0 sNil))
  (sSeq (sIfS (tOrB (tNotB (sB (sIsx za6_ (sNm 2)))) (tNotB (sB (sIsx za1_ (sNm 2))))) (sRet (sK (.bl false))) sSkip)
  (sSeq (sIfS (tOrB (sB (sIsx zaH_ (sNm 2))) (tOrB (sB (sIsx zaH_ (sNm 3))) (sB (sIsx za6_ (sNm 3))))) (sRet (sK (.bl false))) sSkip)
  (sRet (sAnd (sIsx zaQ_ (sNm 3)) (sNot (sIsx zaQ_ (sNm 2))))))))))
def zbe_ (ds : List D) : M R := runB 4 zb1_ ds
def b_law : Sst := (sSeq (sPar2 false false 2 3 (sCal 0 (runF 2 [0, 1] [] zaY_) (sCons (sNm 1) (sCons (sLst (sCons (sK (.int (0))) (sCons (sK (.str "x")) (sCons (sK .non) (sCons (sTup (sCons (sK (.int (1))) sNil)) (sCons (sK (.bl true)) sNil)))))) sNil)) sNil) (sCal 0 (runF 2 [0, 1] [] zaY_) (sCons (sNm 1) (sCons (sLst (sCons (sK (.int (3))) (sCons (sK (.str "y")) (sCons (sK (.str "value")) (sCons (sK (.int (0))) sNil))))) sNil)) sNil))
  (sSeq (sAsg false 4 (sLst (sCons (sOexF 1 zaJ_ 0 (sCons (sNm 2) sNil)) (sCons (sOexF 1 zaK_ 0 (sCons (sNm 2) sNil)) (sCons (sOexF 1 zaE_ 0 (sCons (sNm 2) sNil)) (sCons (sOexF 1 zaM_ 0 (sCons (sNm 2) sNil)) (sCons (sOexF 1 zaG_ 0 (sCons (sNm 2) sNil)) (sCons (sOexF 1 zaN_ 0 (sCons (sNm 2) sNil)) (sCons (sOexF 1 zaS_ 0 (sCons (sNm 2) sNil)) (sCons (sOexF 1 zaC_ 0 (sCons (sNm 2) sNil)) (sCons (sOexF 1 zaT_ 0 (sCons (sNm 2) sNil)) (sCons (sOexF 1 zaL_ 0 (sCons (sNm 2) sNil)) (sCons (sOexF 1 zaA_ 0 (sCons (sNm 2) sNil)) (sCons (sOexF 1 zaB_ 0 (sCons (sNm 2) sNil)) (sCons (sOexF 1 zaX_ 0 (sCons (sNm 2) sNil)) (sCons (sOexF 1 zaI_ 0 (sCons (sNm 2) sNil)) (sCons (sOexF 1 za7_ 0 (sCons (sNm 2) sNil)) (sCons (sOexF 1 zcb_ 0 (sCons (sNm 2) sNil)) (sCons (sOexF 2 zaU_ 0 (sCons (sNm 2) (sCons (sNm 3) sNil))) (sCons (sOexF 2 zaF_ 0 (sCons (sNm 2) (sCons (sNm 3) sNil))) sNil))))))))))))))))))))
  (sSeq (sIfS (tNotB (sB (sCal 0 (runF 2 [0, 1] [] (zbq_ 8)) (sCons (sNm 4) (sCons (s2 mulD (sLst (sCons (sNm 2) sNil)) (sK (.int (18)))) sNil)) sNil))) (sRet (sK (.bl false))) sSkip)
  (sSeq (sIfS (tNotB (sB (sCal 0 (runF 2 [0, 1] [] (zbq_ 8)) (sCons (sLst (sCons (sOexF 2 zaU_ 1 (sCons (sNm 2) (sCons (sNm 3) sNil))) (sCons (sOexF 2 zaF_ 1 (sCons (sNm 2) (sCons (sNm 3) sNil))) sNil))) (sCons (sLst (sCons (sNm 3) (sCons (sNm 3) sNil))) sNil)) sNil))) (sRet (sK (.bl false))) sSkip)
  (sSeq (sAsg false 5 (sLst (sCons (sOexF 1 zaJ_ 1 (sCons (sK (.int (1))) sNil)) (sCons (sOexF 1 zaK_ 1 (sCons (sK (.int (1))) sNil)) (sCons (sOexF 1 zaE_ 1 (sCons (sK (.int (1))) sNil)) (sCons (sOexF 1 zaN_ 1 (sCons (sK (.int (1))) sNil)) (sCons (sOexF 1 zaS_ 1 (sCons (sK (.int (1))) sNil)) (sCons (sOexF 1 zaC_ 1 (sCons (sK (.int (1))) sNil)) (sCons (sOexF 1 zaT_ 1 (sCons (sK (.int (1))) sNil)) (sCons (sOexF 1 zaL_ 1 (sCons (sK (.int (1))) sNil)) (sCons (sOexF 1 zaM_ 1 (sCons (sK (.int (1))) sNil)) sNil)))))))))))
  (sSeq (sIfS (sB (s2 (eqPy true) (sNm 5) (sLst (sCons (sK (.str "InvalidWord")) (sCons (sK (.str "InvalidName")) (sCons (sK (.str "InvalidNumber")) (sCons (sK (.str "InvalidRule")) (sCons (sK (.str "InvalidRow")) (sCons (sK (.str "InvalidChange")) (sCons (sK (.str "InvalidKey")) (sCons (sK (.str "InvalidText")) (sCons (sK (.str "InvalidWish")) sNil)))))))))))) (sRet (sK (.bl false))) sSkip)
  (sSeq (sAsg false 5 (sLst (sCons (sOexF 1 zaG_ 1 (sCons (sK (.int (1))) sNil)) (sCons (sOexF 1 zaA_ 1 (sCons (sK (.int (1))) sNil)) (sCons (sOexF 1 zaB_ 1 (sCons (sK (.int (1))) sNil)) (sCons (sOexF 1 zaX_ 1 (sCons (sK (.int (1))) sNil)) (sCons (sOexF 2 zaU_ 2 (sCons (sK (.int (1))) (sCons (sK (.int (2))) sNil))) (sCons (sOexF 1 za7_ 1 (sCons (sK (.int (1))) sNil)) (sCons (sOexF 1 zcb_ 1 (sCons (sK (.int (1))) sNil)) (sCons (sOexF 2 zaF_ 2 (sCons (sK (.int (1))) (sCons (sK (.int (2))) sNil))) (sCons (sOexF 0 zcH_ 0 sNil) (sCons (sOexF 0 zb2_ 0 sNil) (sCons (sOexF 0 zce_ 0 sNil) (sCons (sOexF 0 zcg_ 0 sNil) (sCons (sOexF 1 zaI_ 1 (sCons (sK (.int (1))) sNil)) (sCons (sOexF 0 zbd_ 0 sNil) sNil))))))))))))))))
  (sSeq (sIfS (sB (s2 (eqPy true) (sNm 5) (sLst (sCons (sK (.str "InvalidLimit")) (sCons (sK (.str "InvalidCommand")) (sCons (sK (.str "DuplicateName")) (sCons (sK (.str "WrongKind")) (sCons (sK (.str "TooMany")) (sCons (sK (.str "TooLong")) (sCons (sK (.str "Full")) (sCons (sK (.str "WrongWord")) (sCons (sK (.str "Mixed")) (sCons (sK (.str "NotLive")) (sCons (sK (.str "NoWord")) (sCons (sK (.str "Unlike")) (sCons (sK (.str "UnknownName")) (sCons (sK (.str "NothingLeft")) sNil))))))))))))))))) (sRet (sK (.bl false))) sSkip)
  (sRet (sCal 0 (runF 0 [] [] zbe_) sNil sNil))))))))))
end Toy
namespace Toy
open PySem PySem.Spec L2 G
open PyProof.Rows hiding St
def Bc (w : World) (K : PySem.W.Frag) (c : Cs) : Cf := { K := K, ad := fun C => match C with  | _ => c.InvalidWord, fl := fun C => match C with  | _ => [], ae := fun C => match C with | 0 => c.InvalidWord | 1 => c.InvalidName | 2 => c.InvalidNumber | 3 => c.InvalidRule | 4 => c.InvalidRow | 5 => c.InvalidChange | 6 => c.InvalidKey | 7 => c.InvalidText | 8 => c.InvalidWish | 9 => c.InvalidLimit | 10 => c.InvalidCommand | 11 => c.DuplicateName | 12 => c.WrongKind | 13 => c.TooMany | 14 => c.TooLong | 15 => c.Full | 16 => c.WrongWord | 17 => c.Mixed | 18 => c.NotLive | 19 => c.NoWord | 20 => c.Unlike | 21 => c.UnknownName | 22 => c.NothingLeft | _ => 0, xn := xnD, fd := Fdx.no, self := none, dx := dxL w c }
section
variable {w : World} {K : PySem.W.Frag} {mg : Str → Option Value} {base : Heap} {c : Cs}
theorem tyf (A : AllW w K mg c) : TyF (Bc w K c) cP := ⟨fun C h => match C, h with  | (_ + 0), h => absurd h (by simp [cP])⟩
theorem zbc_ (A : AllW w K mg c) : XMk P w K mg base "InvalidWord" c.InvalidWord 1 fun vs => [("code", .str "InvalidWord"), ("given", vs.headD .non)] := by
  obtain ⟨f, cc, cd, T⟩ := A.sx_InvalidWord
  exact xmk1 (code := "InvalidWord") T A.n_InvalidWord A.T.b_super rfl (fun L => ⟨_, rfl⟩) (by decide) (by decide) A.xno_InvalidWord_given A.xno_InvalidWord_code (fun kV doc pm an ct => L2.Binds.all fun us hl => match us, hl with | [_, _], _ => rfl)
theorem zch_ (A : AllW w K mg c) : XMk P w K mg base "InvalidName" c.InvalidName 1 fun vs => [("code", .str "InvalidName"), ("given", vs.headD .non)] := by
  obtain ⟨f, cc, cd, T⟩ := A.sx_InvalidName
  exact xmk1 (code := "InvalidName") T A.n_InvalidName A.T.b_super rfl (fun L => ⟨_, rfl⟩) (by decide) (by decide) A.xno_InvalidName_given A.xno_InvalidName_code (fun kV doc pm an ct => L2.Binds.all fun us hl => match us, hl with | [_, _], _ => rfl)
theorem zb7_ (A : AllW w K mg c) : XMkK P w K mg base "InvalidName" c.InvalidName "given" fun vs => [("code", .str "InvalidName"), ("given", vs.headD .non)] := by
  obtain ⟨f, cc, cd, T⟩ := A.sx_InvalidName
  exact xmk1k (code := "InvalidName") T A.n_InvalidName A.T.b_super rfl (fun L => ⟨_, rfl⟩) (by decide) (by decide) A.xno_InvalidName_given A.xno_InvalidName_code (fun kV doc pm an ct u v => rfl)
theorem zbn_ (A : AllW w K mg c) : XMk P w K mg base "InvalidNumber" c.InvalidNumber 1 fun vs => [("code", .str "InvalidNumber"), ("given", vs.headD .non)] := by
  obtain ⟨f, cc, cd, T⟩ := A.sx_InvalidNumber
  exact xmk1 (code := "InvalidNumber") T A.n_InvalidNumber A.T.b_super rfl (fun L => ⟨_, rfl⟩) (by decide) (by decide) A.xno_InvalidNumber_given A.xno_InvalidNumber_code (fun kV doc pm an ct => L2.Binds.all fun us hl => match us, hl with | [_, _], _ => rfl)
theorem zbE_ (A : AllW w K mg c) : XMk P w K mg base "InvalidRule" c.InvalidRule 1 fun vs => [("code", .str "InvalidRule"), ("at", vs.headD .non)] := by
  obtain ⟨f, cc, cd, T⟩ := A.sx_InvalidRule
  exact xmk1 (code := "InvalidRule") T A.n_InvalidRule A.T.b_super rfl (fun L => ⟨_, rfl⟩) (by decide) (by decide) A.xno_InvalidRule_at A.xno_InvalidRule_code (fun kV doc pm an ct => L2.Binds.all fun us hl => match us, hl with | [_, _], _ => rfl)
theorem zcn_ (A : AllW w K mg c) : XMk P w K mg base "InvalidRow" c.InvalidRow 1 fun vs => [("code", .str "InvalidRow"), ("at", vs.headD .non)] := by
  obtain ⟨f, cc, cd, T⟩ := A.sx_InvalidRow
  exact xmk1 (code := "InvalidRow") T A.n_InvalidRow A.T.b_super rfl (fun L => ⟨_, rfl⟩) (by decide) (by decide) A.xno_InvalidRow_at A.xno_InvalidRow_code (fun kV doc pm an ct => L2.Binds.all fun us hl => match us, hl with | [_, _], _ => rfl)
theorem zcf_ (A : AllW w K mg c) : XMkK P w K mg base "InvalidRow" c.InvalidRow "at" fun vs => [("code", .str "InvalidRow"), ("at", vs.headD .non)] := by
  obtain ⟨f, cc, cd, T⟩ := A.sx_InvalidRow
  exact xmk1k (code := "InvalidRow") T A.n_InvalidRow A.T.b_super rfl (fun L => ⟨_, rfl⟩) (by decide) (by decide) A.xno_InvalidRow_at A.xno_InvalidRow_code (fun kV doc pm an ct u v => rfl)
theorem zbl_ (A : AllW w K mg c) : XMk P w K mg base "InvalidChange" c.InvalidChange 1 fun vs => [("code", .str "InvalidChange"), ("at", vs.headD .non)] := by
  obtain ⟨f, cc, cd, T⟩ := A.sx_InvalidChange
  exact xmk1 (code := "InvalidChange") T A.n_InvalidChange A.T.b_super rfl (fun L => ⟨_, rfl⟩) (by decide) (by decide) A.xno_InvalidChange_at A.xno_InvalidChange_code (fun kV doc pm an ct => L2.Binds.all fun us hl => match us, hl with | [_, _], _ => rfl)
theorem zbL_ (A : AllW w K mg c) : XMk P w K mg base "InvalidKey" c.InvalidKey 1 fun vs => [("code", .str "InvalidKey"), ("at", vs.headD .non)] := by
  obtain ⟨f, cc, cd, T⟩ := A.sx_InvalidKey
  exact xmk1 (code := "InvalidKey") T A.n_InvalidKey A.T.b_super rfl (fun L => ⟨_, rfl⟩) (by decide) (by decide) A.xno_InvalidKey_at A.xno_InvalidKey_code (fun kV doc pm an ct => L2.Binds.all fun us hl => match us, hl with | [_, _], _ => rfl)
theorem zbG_ (A : AllW w K mg c) : XMk P w K mg base "InvalidText" c.InvalidText 1 fun vs => [("code", .str "InvalidText"), ("at", vs.headD .non)] := by
  obtain ⟨f, cc, cd, T⟩ := A.sx_InvalidText
  exact xmk1 (code := "InvalidText") T A.n_InvalidText A.T.b_super rfl (fun L => ⟨_, rfl⟩) (by decide) (by decide) A.xno_InvalidText_at A.xno_InvalidText_code (fun kV doc pm an ct => L2.Binds.all fun us hl => match us, hl with | [_, _], _ => rfl)
theorem zbD_ (A : AllW w K mg c) : XMk P w K mg base "InvalidWish" c.InvalidWish 1 fun vs => [("code", .str "InvalidWish"), ("given", vs.headD .non)] := by
  obtain ⟨f, cc, cd, T⟩ := A.sx_InvalidWish
  exact xmk1 (code := "InvalidWish") T A.n_InvalidWish A.T.b_super rfl (fun L => ⟨_, rfl⟩) (by decide) (by decide) A.xno_InvalidWish_given A.xno_InvalidWish_code (fun kV doc pm an ct => L2.Binds.all fun us hl => match us, hl with | [_, _], _ => rfl)
theorem zbs_ (A : AllW w K mg c) : XMk P w K mg base "InvalidLimit" c.InvalidLimit 1 fun vs => [("code", .str "InvalidLimit"), ("given", vs.headD .non)] := by
  obtain ⟨f, cc, cd, T⟩ := A.sx_InvalidLimit
  exact xmk1 (code := "InvalidLimit") T A.n_InvalidLimit A.T.b_super rfl (fun L => ⟨_, rfl⟩) (by decide) (by decide) A.xno_InvalidLimit_given A.xno_InvalidLimit_code (fun kV doc pm an ct => L2.Binds.all fun us hl => match us, hl with | [_, _], _ => rfl)
theorem zbg_ (A : AllW w K mg c) : XMk P w K mg base "InvalidCommand" c.InvalidCommand 1 fun vs => [("code", .str "InvalidCommand"), ("at", vs.headD .non)] := by
  obtain ⟨f, cc, cd, T⟩ := A.sx_InvalidCommand
  exact xmk1 (code := "InvalidCommand") T A.n_InvalidCommand A.T.b_super rfl (fun L => ⟨_, rfl⟩) (by decide) (by decide) A.xno_InvalidCommand_at A.xno_InvalidCommand_code (fun kV doc pm an ct => L2.Binds.all fun us hl => match us, hl with | [_, _], _ => rfl)
theorem zbp_ (A : AllW w K mg c) : XMk P w K mg base "DuplicateName" c.DuplicateName 1 fun vs => [("code", .str "DuplicateName"), ("name", vs.headD .non)] := by
  obtain ⟨f, cc, cd, T⟩ := A.sx_DuplicateName
  exact xmk1 (code := "DuplicateName") T A.n_DuplicateName A.T.b_super rfl (fun L => ⟨_, rfl⟩) (by decide) (by decide) A.xno_DuplicateName_name A.xno_DuplicateName_code (fun kV doc pm an ct => L2.Binds.all fun us hl => match us, hl with | [_, _], _ => rfl)
theorem zbR_ (A : AllW w K mg c) : XMk P w K mg base "WrongKind" c.WrongKind 1 fun vs => [("code", .str "WrongKind"), ("name", vs.headD .non)] := by
  obtain ⟨f, cc, cd, T⟩ := A.sx_WrongKind
  exact xmk1 (code := "WrongKind") T A.n_WrongKind A.T.b_super rfl (fun L => ⟨_, rfl⟩) (by decide) (by decide) A.xno_WrongKind_name A.xno_WrongKind_code (fun kV doc pm an ct => L2.Binds.all fun us hl => match us, hl with | [_, _], _ => rfl)
theorem zbI_ (A : AllW w K mg c) : XMk P w K mg base "TooMany" c.TooMany 2 fun vs => [("code", .str "TooMany"), ("most", (vs.drop 1).headD .non), ("subject", vs.headD .non)] := by
  obtain ⟨f, cc, cd, T⟩ := A.sx_TooMany
  exact xmk2 (code := "TooMany") T A.n_TooMany A.T.b_super rfl (fun L => ⟨_, rfl⟩) (by decide) (by decide) (by decide) (by decide) A.xno_TooMany_subject A.xno_TooMany_most A.xno_TooMany_code (fun kV doc pm an ct => L2.Binds.all fun us hl => match us, hl with | [_, _, _], _ => rfl)
theorem zcs_ (A : AllW w K mg c) : XMk P w K mg base "TooLong" c.TooLong 1 fun vs => [("code", .str "TooLong"), ("most", vs.headD .non)] := by
  obtain ⟨f, cc, cd, T⟩ := A.sx_TooLong
  exact xmk1 (code := "TooLong") T A.n_TooLong A.T.b_super rfl (fun L => ⟨_, rfl⟩) (by decide) (by decide) A.xno_TooLong_most A.xno_TooLong_code (fun kV doc pm an ct => L2.Binds.all fun us hl => match us, hl with | [_, _], _ => rfl)
theorem zdp_ (A : AllW w K mg c) : XMk P w K mg base "Full" c.Full 1 fun vs => [("code", .str "Full"), ("most", vs.headD .non)] := by
  obtain ⟨f, cc, cd, T⟩ := A.sx_Full
  exact xmk1 (code := "Full") T A.n_Full A.T.b_super rfl (fun L => ⟨_, rfl⟩) (by decide) (by decide) A.xno_Full_most A.xno_Full_code (fun kV doc pm an ct => L2.Binds.all fun us hl => match us, hl with | [_, _], _ => rfl)
theorem zba_ (A : AllW w K mg c) : XMk P w K mg base "WrongWord" c.WrongWord 2 fun vs => [("code", .str "WrongWord"), ("why", (vs.drop 1).headD .non), ("at", vs.headD .non)] := by
  obtain ⟨f, cc, cd, T⟩ := A.sx_WrongWord
  exact xmk2 (code := "WrongWord") T A.n_WrongWord A.T.b_super rfl (fun L => ⟨_, rfl⟩) (by decide) (by decide) (by decide) (by decide) A.xno_WrongWord_at A.xno_WrongWord_why A.xno_WrongWord_code (fun kV doc pm an ct => L2.Binds.all fun us hl => match us, hl with | [_, _, _], _ => rfl)
theorem zcY_ (A : AllW w K mg c) : XMk P w K mg base "Mixed" c.Mixed 0 fun vs => [("code", .str "Mixed")] := by
  obtain ⟨f, cc, cd, T⟩ := A.sx_Mixed
  exact xmk0 (code := "Mixed") T A.n_Mixed A.T.b_super rfl (fun L => ⟨_, rfl⟩)   A.xno_Mixed_code (fun kV doc pm an ct => L2.Binds.all fun us hl => match us, hl with | [_], _ => rfl)
theorem zc5_ (A : AllW w K mg c) : XMk P w K mg base "NotLive" c.NotLive 0 fun vs => [("code", .str "NotLive")] := by
  obtain ⟨f, cc, cd, T⟩ := A.sx_NotLive
  exact xmk0 (code := "NotLive") T A.n_NotLive A.T.b_super rfl (fun L => ⟨_, rfl⟩)   A.xno_NotLive_code (fun kV doc pm an ct => L2.Binds.all fun us hl => match us, hl with | [_], _ => rfl)
theorem xk_NoWord (A : AllW w K mg c) : XMk P w K mg base "NoWord" c.NoWord 0 fun vs => [("code", .str "NoWord")] := by
  obtain ⟨f, cc, cd, T⟩ := A.sx_NoWord
  exact xmk0 (code := "NoWord") T A.n_NoWord A.T.b_super rfl (fun L => ⟨_, rfl⟩)   A.xno_NoWord_code (fun kV doc pm an ct => L2.Binds.all fun us hl => match us, hl with | [_], _ => rfl)
theorem xk_Unlike (A : AllW w K mg c) : XMk P w K mg base "Unlike" c.Unlike 0 fun vs => [("code", .str "Unlike")] := by
  obtain ⟨f, cc, cd, T⟩ := A.sx_Unlike
  exact xmk0 (code := "Unlike") T A.n_Unlike A.T.b_super rfl (fun L => ⟨_, rfl⟩)   A.xno_Unlike_code (fun kV doc pm an ct => L2.Binds.all fun us hl => match us, hl with | [_], _ => rfl)
theorem zby_ (A : AllW w K mg c) : XMk P w K mg base "UnknownName" c.UnknownName 1 fun vs => [("code", .str "UnknownName"), ("name", vs.headD .non)] := by
  obtain ⟨f, cc, cd, T⟩ := A.sx_UnknownName
  exact xmk1 (code := "UnknownName") T A.n_UnknownName A.T.b_super rfl (fun L => ⟨_, rfl⟩) (by decide) (by decide) A.xno_UnknownName_name A.xno_UnknownName_code (fun kV doc pm an ct => L2.Binds.all fun us hl => match us, hl with | [_, _], _ => rfl)
theorem zb5_ (A : AllW w K mg c) : XMkK P w K mg base "UnknownName" c.UnknownName "name" fun vs => [("code", .str "UnknownName"), ("name", vs.headD .non)] := by
  obtain ⟨f, cc, cd, T⟩ := A.sx_UnknownName
  exact xmk1k (code := "UnknownName") T A.n_UnknownName A.T.b_super rfl (fun L => ⟨_, rfl⟩) (by decide) (by decide) A.xno_UnknownName_name A.xno_UnknownName_code (fun kV doc pm an ct u v => rfl)
theorem zbB_ (A : AllW w K mg c) : XMk P w K mg base "NothingLeft" c.NothingLeft 0 fun vs => [("code", .str "NothingLeft")] := by
  obtain ⟨f, cc, cd, T⟩ := A.sx_NothingLeft
  exact xmk0 (code := "NothingLeft") T A.n_NothingLeft A.T.b_super rfl (fun L => ⟨_, rfl⟩)   A.xno_NothingLeft_code (fun kV doc pm an ct => L2.Binds.all fun us hl => match us, hl with | [_], _ => rfl)
theorem zbv_ (A : AllW w K mg c) : ∀ j b, zaH_ j = some b → ExcC (Bc w K c).K ((Bc w K c).ae j) ∧ PySem.W.kitOne (Bc w K c).K (.ref ((Bc w K c).ae j)) (.ref c.LineError) = some b := fun j b h => by
  unfold zaH_ at h
  split at h <;> first | (cases h; exact ⟨A.ec_InvalidWord, A.eki_InvalidWord_LineError⟩) | (cases h; exact ⟨A.ec_TooMany, A.eki_TooMany_LineError⟩) | (cases h; exact ⟨A.ec_Mixed, A.eki_Mixed_LineError⟩) | (cases h; exact ⟨A.ec_WrongWord, A.eki_WrongWord_LineError⟩) | (cases h; exact ⟨A.ec_Full, A.eki_Full_LineError⟩) | (cases h; exact ⟨A.ec_UnknownName, A.eki_UnknownName_LineError⟩) | (cases h; exact ⟨A.ec_NothingLeft, A.eki_NothingLeft_LineError⟩) | (cases h; done)
theorem zcp_ (A : AllW w K mg c) : ∀ j b, za6_ j = some b → ExcC (Bc w K c).K ((Bc w K c).ae j) ∧ PySem.W.kitOne (Bc w K c).K (.ref ((Bc w K c).ae j)) (.ref c.Missing) = some b := fun j b h => by
  unfold za6_ at h
  split at h <;> first | (cases h; exact ⟨A.ec_InvalidWord, A.eki_InvalidWord_Missing⟩) | (cases h; exact ⟨A.ec_TooMany, A.eki_TooMany_Missing⟩) | (cases h; exact ⟨A.ec_Mixed, A.eki_Mixed_Missing⟩) | (cases h; exact ⟨A.ec_WrongWord, A.eki_WrongWord_Missing⟩) | (cases h; exact ⟨A.ec_Full, A.eki_Full_Missing⟩) | (cases h; exact ⟨A.ec_UnknownName, A.eki_UnknownName_Missing⟩) | (cases h; exact ⟨A.ec_NothingLeft, A.eki_NothingLeft_Missing⟩) | (cases h; done)
theorem zbO_ (A : AllW w K mg c) : ∀ j b, zaQ_ j = some b → ExcC (Bc w K c).K ((Bc w K c).ae j) ∧ PySem.W.kitOne (Bc w K c).K (.ref ((Bc w K c).ae j)) (.type "IndexError") = some b := fun j b h => by
  unfold zaQ_ at h
  split at h <;> first | (cases h; exact ⟨A.ec_InvalidWord, A.eki_InvalidWord_IndexError⟩) | (cases h; exact ⟨A.ec_TooMany, A.eki_TooMany_IndexError⟩) | (cases h; exact ⟨A.ec_Mixed, A.eki_Mixed_IndexError⟩) | (cases h; exact ⟨A.ec_WrongWord, A.eki_WrongWord_IndexError⟩) | (cases h; exact ⟨A.ec_Full, A.eki_Full_IndexError⟩) | (cases h; exact ⟨A.ec_UnknownName, A.eki_UnknownName_IndexError⟩) | (cases h; exact ⟨A.ec_NothingLeft, A.eki_NothingLeft_IndexError⟩) | (cases h; done)
theorem zci_ (A : AllW w K mg c) : ∀ j b, za1_ j = some b → ExcC (Bc w K c).K ((Bc w K c).ae j) ∧ PySem.W.kitOne (Bc w K c).K (.ref ((Bc w K c).ae j)) (.type "LookupError") = some b := fun j b h => by
  unfold za1_ at h
  split at h <;> first | (cases h; exact ⟨A.ec_InvalidWord, A.eki_InvalidWord_LookupError⟩) | (cases h; exact ⟨A.ec_TooMany, A.eki_TooMany_LookupError⟩) | (cases h; exact ⟨A.ec_Mixed, A.eki_Mixed_LookupError⟩) | (cases h; exact ⟨A.ec_WrongWord, A.eki_WrongWord_LookupError⟩) | (cases h; exact ⟨A.ec_Full, A.eki_Full_LookupError⟩) | (cases h; exact ⟨A.ec_UnknownName, A.eki_UnknownName_LookupError⟩) | (cases h; exact ⟨A.ec_NothingLeft, A.eki_NothingLeft_LookupError⟩) | (cases h; done)
theorem zcx_ (A : AllW w K mg c) : ∀ j b, za5_ j = some b → ExcC (Bc w K c).K ((Bc w K c).ae j) ∧ PySem.W.kitOne (Bc w K c).K (.ref ((Bc w K c).ae j)) (.type "ValueError") = some b := fun j b h => by
  unfold za5_ at h
  split at h <;> first | (cases h; exact ⟨A.ec_InvalidWord, A.eki_InvalidWord_ValueError⟩) | (cases h; exact ⟨A.ec_TooMany, A.eki_TooMany_ValueError⟩) | (cases h; exact ⟨A.ec_Mixed, A.eki_Mixed_ValueError⟩) | (cases h; exact ⟨A.ec_WrongWord, A.eki_WrongWord_ValueError⟩) | (cases h; exact ⟨A.ec_Full, A.eki_Full_ValueError⟩) | (cases h; exact ⟨A.ec_UnknownName, A.eki_UnknownName_ValueError⟩) | (cases h; exact ⟨A.ec_NothingLeft, A.eki_NothingLeft_ValueError⟩) | (cases h; done)
theorem zcj_ (A : AllW w K mg c) : ClF P w K mg base (L2.CX P w) 1 "_law_take" [] (spC (Bc w K c) semTake) := by
  obtain ⟨f, fd, ps, ds, F, hm, hk, hb, hv⟩ := (zcd_ (P := P) (w := w) (base := base) A.d__law_take A.T).ex
  exact ⟨f, hm, hk, G.FnOk.toTake F hb hv⟩
theorem zc0_ : FnScope ["_law_feed_here", "_law_some"] ["_law_feed_here", "_law_some"] (defScope zbr_) := ⟨rfl, rfl, rfl, by decide +kernel, rfl, by decide +kernel, by decide +kernel⟩
theorem o__law_of (A : AllW w K mg c) : ∃ f, mg "_law_of" = some (.ref f) ∧ PySem.W.keepIn K (.ref f) = true ∧ Fo P w K mg base (L2.CX P w) (1 + 1) "_law_of" "_law_of" zbr_ [] [] f ["_law_feed_here", "_law_some"] (spB (Bc w K c) zaY_ 2) := by
  obtain ⟨f, G⟩ := A.g__law_of
  exact ⟨f, G.mg, G.kp, fn_run (P := P) (w := w) (base := base) (B := Bc w K c) G.fd zc0_ rfl fun cdv A' outer s H E fd T hr hp =>
  (zbh_ (zbi_ (ev_ix rfl (ev_v 1) (zcV_ (B := Bc w K c) ⟨rfl, rfl, rfl, rfl, rfl, rfl⟩ (zcj_ A) (hr.mono (by decide)) (by rfl) (zaa_ (ev_v 0) (zaa_ (ev_cB call_len pr_len (by rfl) A.T.b_len (by decide +kernel) (zaa_ (ev_v 1) zax_)) zax_)) zb6_))))⟩
theorem zbZ_ (A : AllW w K mg c) : ClF P w K mg base (L2.CX P w) (1 + 1) "_law_of" [] (spC (Bc w K c) (runF 2 [0, 1] [] zaY_)) := by
  obtain ⟨f, h1, h2, o⟩ := o__law_of (w := w) (base := base) A
  exact ⟨f, h1, h2, (zc6_ (n := 2) (ix := [0, 1]) (dd := []) o (kbA fun kV doc pm an cdv ct us ws h1 h2 => match us, ws, h1, h2 with | [_, _], [], _, _ => rfl) (fun _ _ => .nil) rfl (by first | decide | exact (show ∀ i ∈ ([0, 1] : List Nat), i < 2 by decide)))⟩
theorem zbu_ : FnScope ["_law_found", "_law_due", "_law_k"] ["_law_found", "_law_due"] (defScope zaV_) := ⟨rfl, rfl, rfl, by decide +kernel, rfl, by decide +kernel, by decide +kernel⟩
structure Rc_1 (w : World) (K : PySem.W.Frag) (mg : Str → Option Value) (base : Heap) (c : Cs) (n : Nat) : Prop where
  cf__law_same_2 : ClF P w K mg base (L2.CX P w) (0 + 2 * n) "_law_same" [] (spC (Bc w K c) (runF 2 [0, 1] [] (F_1 n 0)))
theorem zcT_ {n : Nat} (R : Rc_1 w K mg base c n) (A : AllW w K mg c) : ∃ f, mg "_law_same" = some (.ref f) ∧ PySem.W.keepIn K (.ref f) = true ∧ Fo P w K mg base (L2.CX P w) (0 + 2 * n + 1 + 1) "_law_same" "_law_same" zaV_ [] [] f ["_law_found", "_law_due"] (spB (Bc w K c) (runB 3 (zb9_ (F_1 n))) 2) := by
  obtain ⟨f, G⟩ := A.g__law_same
  exact ⟨f, G.mg, G.kp, fn_run (P := P) (w := w) (base := base) (B := Bc w K c) G.fd zbu_ rfl fun cdv A' outer s H E fd T hr hp =>
  (zaR_ (zcO_ (et_w (ew_or (zco_ op_isN pr_isN (ev_v 1) zda_ (nomark _)) (ew_or1 (zco_ op_isN pr_isN (ev_v 0) zda_ (nomark _))))) (zbh_ (zbi_ (ev_and (ev_cmp op_isN pr_isN (ev_v 0) zda_ (nomark _)) (ev_one (ev_cmp op_isN pr_isN (ev_v 1) zda_ (nomark _)))))) zbz_)
  (zaR_ (zcO_ (zb3_ (ev_isi2 (p1 := bList) (p2 := bTuple) rfl (SameB.tf (B := Bc w K c) ⟨rfl, rfl, rfl, rfl, rfl, rfl⟩ (tyf A)) (fun C fs h => by cases h) (zcR_) (zcc_) (.ty _) (.ty _) (by rfl) A.T.b_isinstance (ev_v 1) (pe_bltn (v := .ty "list") (by rfl) A.T.b_list (by decide +kernel) rfl) (pe_bltn (v := .ty "tuple") (by rfl) A.T.b_tuple (by decide +kernel) rfl))) (zaR_ (zcO_ (zco_ (op_neD hr.units) pr_ne (zcD_ (p := bList) rfl (SameB.tf (B := Bc w K c) ⟨rfl, rfl, rfl, rfl, rfl, rfl⟩ (tyf A)) (fun C fs h => by cases h) (zcR_) (.ty _) (by rfl) A.T.b_isinstance (ev_v 1) (pe_bltn (v := .ty "list") (by rfl) A.T.b_list (by decide +kernel) rfl)) (zcD_ (p := bList) rfl (SameB.tf (B := Bc w K c) ⟨rfl, rfl, rfl, rfl, rfl, rfl⟩ (tyf A)) (fun C fs h => by cases h) (zcR_) (.ty _) (by rfl) A.T.b_isinstance (ev_v 0) (pe_bltn (v := .ty "list") (by rfl) A.T.b_list (by decide +kernel) rfl)) (nomark _)) (zbh_ (zbi_ zcS_)) zbz_)
  (zaR_ (zcO_ (zco_ (op_neD hr.units) pr_ne (zcD_ (p := bTuple) rfl (SameB.tf (B := Bc w K c) ⟨rfl, rfl, rfl, rfl, rfl, rfl⟩ (tyf A)) (fun C fs h => by cases h) (zcc_) (.ty _) (by rfl) A.T.b_isinstance (ev_v 1) (pe_bltn (v := .ty "tuple") (by rfl) A.T.b_tuple (by decide +kernel) rfl)) (zcD_ (p := bTuple) rfl (SameB.tf (B := Bc w K c) ⟨rfl, rfl, rfl, rfl, rfl, rfl⟩ (tyf A)) (fun C fs h => by cases h) (zcc_) (.ty _) (by rfl) A.T.b_isinstance (ev_v 0) (pe_bltn (v := .ty "tuple") (by rfl) A.T.b_tuple (by decide +kernel) rfl)) (nomark _)) (zbh_ (zbi_ zcS_)) zbz_)
  (zaR_ (zcO_ (zco_ (op_neD hr.units) pr_ne (ev_cB call_len pr_len (by rfl) A.T.b_len (by decide +kernel) (zaa_ (ev_v 0) zax_)) (ev_cB call_len pr_len (by rfl) A.T.b_len (by decide +kernel) (zaa_ (ev_v 1) zax_)) (nomark _)) (zbh_ (zbi_ zcS_)) zbz_)
  (zbh_ (zbi_ (ev_cB (cr_all rfl) pr_all (by rfl) A.T.b_all (by decide +kernel) (zaa_ (ev_lc (own := [("_law_k", 2)]) rfl zbu_.nd (ei_rg1 (by rfl) A.T.b_range (zaa_ (ev_cB call_len pr_len (by rfl) A.T.b_len (by decide +kernel) (zaa_ (ev_v 1) zax_)) zax_)) (blkOk_by (N := ["_law_found", "_law_due", "_law_k"]) (sc := defScope zaV_) (by decide +kernel)) (fun _ _ => .inr rfl) (by decide) (fun _ _ _ _ _ => (eg_n (i := 2) (.inr rfl) zbu_.nd rfl (.inl rfl))) (fun _ _ _ _ _ => ets_nil) (fun _ _ _ _ _ => (zcV_ (B := Bc w K c) ⟨rfl, rfl, rfl, rfl, rfl, rfl⟩ R.cf__law_same_2 (hr.blk.mono (by omega)) (by rfl) (zaa_ (ev_ix rfl (ev_v 0) (ev_v 2)) (zaa_ (ev_ix rfl (ev_v 1) (ev_v 2)) zax_)) zb6_))) zax_))))))) zbz_)
  (zaR_ (zcO_ (zb3_ (ev_isi2 (p1 := bList) (p2 := bTuple) rfl (SameB.tf (B := Bc w K c) ⟨rfl, rfl, rfl, rfl, rfl, rfl⟩ (tyf A)) (fun C fs h => by cases h) (zcR_) (zcc_) (.ty _) (.ty _) (by rfl) A.T.b_isinstance (ev_v 0) (pe_bltn (v := .ty "list") (by rfl) A.T.b_list (by decide +kernel) rfl) (pe_bltn (v := .ty "tuple") (by rfl) A.T.b_tuple (by decide +kernel) rfl))) (zbh_ (zbi_ zcS_)) zbz_)
  (zaR_ (zcO_ (zco_ (op_neD hr.units) pr_ne (zcD_ (p := bBool) rfl (SameB.tf (B := Bc w K c) ⟨rfl, rfl, rfl, rfl, rfl, rfl⟩ (tyf A)) (fun C fs h => by cases h) (ik_bool) (.ty _) (by rfl) A.T.b_isinstance (ev_v 0) (pe_bltn (v := .ty "bool") (by rfl) A.T.b_bool (by decide +kernel) rfl)) (zcD_ (p := bBool) rfl (SameB.tf (B := Bc w K c) ⟨rfl, rfl, rfl, rfl, rfl, rfl⟩ (tyf A)) (fun C fs h => by cases h) (ik_bool) (.ty _) (by rfl) A.T.b_isinstance (ev_v 1) (pe_bltn (v := .ty "bool") (by rfl) A.T.b_bool (by decide +kernel) rfl)) (nomark _)) (zbh_ (zbi_ zcS_)) zbz_)
  (zbh_ (zbi_ (ev_and (ev_cmp (op_eqD hr.units) pr_eq (zcD_ (p := bStr) rfl (SameB.tf (B := Bc w K c) ⟨rfl, rfl, rfl, rfl, rfl, rfl⟩ (tyf A)) (fun C fs h => by cases h) (ik_str) (.ty _) (by rfl) A.T.b_isinstance (ev_v 0) (pe_bltn (v := .ty "str") (by rfl) A.T.b_str (by decide +kernel) rfl)) (zcD_ (p := bStr) rfl (SameB.tf (B := Bc w K c) ⟨rfl, rfl, rfl, rfl, rfl, rfl⟩ (tyf A)) (fun C fs h => by cases h) (ik_str) (.ty _) (by rfl) A.T.b_isinstance (ev_v 1) (pe_bltn (v := .ty "str") (by rfl) A.T.b_str (by decide +kernel) rfl)) (nomark _)) (ev_one (ev_cmp (op_eqD hr.units) pr_eq (ev_v 0) (ev_v 1) (nomark _))))))))))⟩
theorem R_1 (A : AllW w K mg c) : ∀ n, Rc_1 w K mg base c n
  | 0 => ⟨(by obtain ⟨f, G⟩ := A.g__law_same; exact ⟨f, G.mg, G.kp, FnA.none (runF_fail fun _ => rfl)⟩)⟩
  | n + 1 => ⟨(by
    obtain ⟨f, h1, h2, o⟩ := zcT_ (R_1 A n) A
    exact ⟨f, h1, h2, (zc6_ (n := 2) (ix := [0, 1]) (dd := []) o (kbA fun kV doc pm an cdv ct us ws h1 h2 => match us, ws, h1, h2 with | [_, _], [], _, _ => rfl) (fun _ _ => .nil) rfl (by first | decide | exact (show ∀ i ∈ ([0, 1] : List Nat), i < 2 by decide)))⟩)⟩
theorem cf__law_same_2 (A : AllW w K mg c) : ClF P w K mg base (L2.CX P w) 16 "_law_same" [] (spC (Bc w K c) (runF 2 [0, 1] [] (F_1 8 0))) := (R_1 A 8).cf__law_same_2
theorem zaZ_ : FnScope ["_law_some", "_law_one", "_law_far", "_law_gone"] [] (defScope zaO_) := ⟨rfl, rfl, rfl, by decide +kernel, rfl, by decide +kernel, by decide +kernel⟩
theorem zcA_ : runB 4 zb1_ [] = .ret (.dt (.bl true)) := by kernel_rfl
theorem zcF_ (A : AllW w K mg c) : ∃ f, mg "_law_bases" = some (.ref f) ∧ PySem.W.keepIn K (.ref f) = true ∧ Fo P w K mg base (L2.CX P w) (2 + 1) "_law_bases" "_law_bases" zaO_ [] [] f [] (spB (Bc w K c) zbe_ 0) := by
  obtain ⟨f, G⟩ := A.g__law_bases
  exact ⟨f, G.mg, G.kp, fn_runE (P := P) (w := w) (base := base) (B := Bc w K c) G.fd zaZ_ rfl zcA_ fun cdv A' outer s H E hr hp =>
  (zaR_ (es_set (keep := false) (i := 0) (.inr rfl) zaZ_.nd rfl (.inl rfl) (zb0_ (zaa_ (zcZ_ (C := 0) (n := 1) (hr.mono (by decide)) (zbc_ A) rfl rfl (by rfl) (zaa_ zaP_ zax_)) (zaa_ (zcZ_ (C := 13) (n := 2) (hr.mono (by decide)) (zbI_ A) rfl rfl (by rfl) (zaa_ zaP_ (zaa_ zaP_ zax_))) (zaa_ (ev_oex0 (C := 17) (hr.mono (by decide)) (zcY_ A) rfl rfl (by rfl)) (zaa_ (zcZ_ (C := 16) (n := 2) (hr.mono (by decide)) (zba_ A) rfl rfl (by rfl) (zaa_ zaP_ (zaa_ zaW_ zax_))) (zaa_ (zcZ_ (C := 15) (n := 1) (hr.mono (by decide)) (zdp_ A) rfl rfl (by rfl) (zaa_ zaP_ zax_)) zax_)))))))
  (zaR_ (zcO_ (zdd_ (zb3_ (ev_cB (cr_all rfl) pr_all (by rfl) A.T.b_all (by decide +kernel) (zaa_ (ev_lc (own := [("_law_one", 1)]) rfl zaZ_.nd (ei_sq rfl (ev_v 0)) (blkOk_by (N := ["_law_some", "_law_one", "_law_far", "_law_gone"]) (sc := defScope zaO_) (by decide +kernel)) (fun _ _ => .inr rfl) (by decide) (fun _ _ _ _ _ => (eg_n (i := 1) (.inr rfl) zaZ_.nd rfl (.inl rfl))) (fun _ _ _ _ _ => ets_nil) (fun _ _ _ _ _ => (ev_and (zck_ (q := zaH_) rfl rfl (zbv_ A) (.own _) (by rfl) A.T.b_isinstance (ev_v 1) (pe_glob (v := .ref c.LineError) (by rfl) A.n_LineError rfl)) (ev_one (zck_ (q := za5_) rfl rfl (zcx_ A) (.ty _) (by rfl) A.T.b_isinstance (ev_v 1) (pe_bltn (v := .ty "ValueError") (by rfl) A.bx_ValueError (by decide +kernel) rfl)))))) zax_)))) (zbh_ (zbi_ zcS_)) zbz_)
  (zaR_ (es_par2 (kx := false) (ky := false) (i := 2) (j := 3) (.inr rfl) (.inr rfl) (by rfl) zaZ_.nd rfl rfl (by decide) rfl rfl (zcZ_ (C := 21) (n := 1) (hr.mono (by decide)) (zby_ A) rfl rfl (by rfl) (zaa_ zaP_ zax_)) (ev_oex0 (C := 22) (hr.mono (by decide)) (zbB_ A) rfl rfl (by rfl)) (by rfl))
  (zaR_ (zcO_ (et_w (ew_or (zdd_ (zb3_ (zck_ (q := za6_) rfl rfl (zcp_ A) (.own _) (by rfl) A.T.b_isinstance (ev_v 2) (pe_glob (v := .ref c.Missing) (by rfl) A.n_Missing rfl)))) (ew_or1 (zdd_ (zb3_ (zck_ (q := za1_) rfl rfl (zci_ A) (.ty _) (by rfl) A.T.b_isinstance (ev_v 2) (pe_bltn (v := .ty "LookupError") (by rfl) A.bx_LookupError (by decide +kernel) rfl))))))) (zbh_ (zbi_ zcS_)) zbz_)
  (zaR_ (zcO_ (et_w (ew_or (zb3_ (zck_ (q := zaH_) rfl rfl (zbv_ A) (.own _) (by rfl) A.T.b_isinstance (ev_v 2) (pe_glob (v := .ref c.LineError) (by rfl) A.n_LineError rfl))) (ew_or (zb3_ (zck_ (q := zaH_) rfl rfl (zbv_ A) (.own _) (by rfl) A.T.b_isinstance (ev_v 3) (pe_glob (v := .ref c.LineError) (by rfl) A.n_LineError rfl))) (ew_or1 (zb3_ (zck_ (q := za6_) rfl rfl (zcp_ A) (.own _) (by rfl) A.T.b_isinstance (ev_v 3) (pe_glob (v := .ref c.Missing) (by rfl) A.n_Missing rfl))))))) (zbh_ (zbi_ zcS_)) zbz_)
  (zbh_ (zbi_ (ev_and (zck_ (q := zaQ_) rfl rfl (zbO_ A) (.ty _) (by rfl) A.T.b_isinstance (ev_v 3) (pe_bltn (v := .ty "IndexError") (by rfl) A.bx_IndexError (by decide +kernel) rfl)) (ev_one (ev_not (zck_ (q := zaQ_) rfl rfl (zbO_ A) (.ty _) (by rfl) A.T.b_isinstance (ev_v 2) (pe_bltn (v := .ty "IndexError") (by rfl) A.bx_IndexError (by decide +kernel) rfl))))))))))))⟩
theorem zb4_ (A : AllW w K mg c) : ClF P w K mg base (L2.CX P w) (2 + 1) "_law_bases" [] (spC (Bc w K c) (runF 0 [] [] zbe_)) := by
  obtain ⟨f, h1, h2, o⟩ := zcF_ (w := w) (base := base) A
  exact ⟨f, h1, h2, (zc6_ (n := 0) (ix := []) (dd := []) o (kbA fun kV doc pm an cdv ct us ws h1 h2 => match us, ws, h1, h2 with | [], [], _, _ => rfl) (fun _ _ => .nil) rfl (by first | decide | exact (show ∀ i ∈ ([] : List Nat), i < 0 by decide)))⟩
theorem zcU_ : FnScope ["_law_script", "_law_feed_here", "_law_one", "_law_two", "_law_rows", "_law_codes"] ["_law_script"] (defScope zb8_) := ⟨rfl, rfl, rfl, by decide +kernel, rfl, by decide +kernel, by decide +kernel⟩
def lamL : LamL := fun _ => none
abbrev lawX (w : World) (K : PySem.W.Frag) (mg : Str → Option Value) (base : Heap) (cdv : Value) (A' : Around) (outer : List Env) (s : Shared) (H : Hp) (E : XK) (f : Addr) : Cx := (cxOf CX0 P w K mg base ["_law_script", "_law_feed_here", "_law_one", "_law_two", "_law_rows", "_law_codes"] "law" (defScope zb8_) f cdv A' outer s H E).nox
theorem d_law_ok (A : AllW w K mg c) (cdv : Value) (A' : Around) (outer : List Env) (s : Shared) (H He : Hp) (E : XK) (f : Addr) (fd : Fdx) (T : List Addr) (hr : Room 17 (A'.deeper (envOfC "law" (defScope zb8_) s.heap.objs.size f cdv))) (lf : LawFd (lawX w K mg base cdv A' outer s H E f) ((Bc w K c).wf fd) T lamL) :
  ESs (cxOf CX0 P w K mg base ["_law_script", "_law_feed_here", "_law_one", "_law_two", "_law_rows", "_law_codes"] "law" (defScope zb8_) f cdv A' outer s H E).nox ((Bc w K c).wf fd) XN T He (defBody zb8_).tail b_law := by
  have hr : RT 17 (cxOf CX0 P w K mg base ["_law_script", "_law_feed_here", "_law_one", "_law_two", "_law_rows", "_law_codes"] "law" (defScope zb8_) f cdv A' outer s H E).nox XN := ⟨hr, takesN⟩
  exact (zaR_ (es_par2 (kx := false) (ky := false) (i := 2) (j := 3) (.inr rfl) (.inr rfl) (by rfl) zcU_.nd rfl rfl (by decide) rfl rfl (zcV_ (B := Bc w K c) ⟨rfl, rfl, rfl, rfl, rfl, rfl⟩ (zbZ_ A) (hr.mono (by decide)) (by rfl) (zaa_ (ev_v 1) (zaa_ (zb0_ (zaa_ zaP_ (zaa_ zaW_ (zaa_ zda_ (zaa_ (ev_tup (zaa_ zaP_ zax_)) (zaa_ zcS_ zax_)))))) zax_)) zb6_) (zcV_ (B := Bc w K c) ⟨rfl, rfl, rfl, rfl, rfl, rfl⟩ (zbZ_ A) (hr.mono (by decide)) (by rfl) (zaa_ (ev_v 1) (zaa_ (zb0_ (zaa_ zaP_ (zaa_ zaW_ (zaa_ zaW_ (zaa_ zaP_ zax_))))) zax_)) zb6_) (by rfl))
  (zaR_ (es_set (keep := false) (i := 4) (.inr rfl) zcU_.nd rfl (by first | exact Or.inl rfl | exact Or.inr rfl) (zb0_ (zaa_ (zaz_ (n := 1) (i := 0) (mkD := zaJ_) (hr.mono (by decide)) (zbc_ A) A.xf_InvalidWord A.xno_InvalidWord_given rfl (rel1 (by decide) (by decide +kernel)) (by rfl) (zaa_ (ev_v 2) zax_)) (zaa_ (zcI_ (i := 0) (mkD := zaK_) (hr.mono (by decide)) (zb7_ A) A.xf_InvalidName A.xno_InvalidName_given rfl (rel1 (by decide) (by decide +kernel)) (by rfl) (zcX_ (ev_v 2) zb6_)) (zaa_ (zaz_ (n := 1) (i := 0) (mkD := zaE_) (hr.mono (by decide)) (zbn_ A) A.xf_InvalidNumber A.xno_InvalidNumber_given rfl (rel1 (by decide) (by decide +kernel)) (by rfl) (zaa_ (ev_v 2) zax_)) (zaa_ (zaz_ (n := 1) (i := 0) (mkD := zaM_) (hr.mono (by decide)) (zbD_ A) A.xf_InvalidWish A.xno_InvalidWish_given rfl (rel1 (by decide) (by decide +kernel)) (by rfl) (zaa_ (ev_v 2) zax_)) (zaa_ (zaz_ (n := 1) (i := 0) (mkD := zaG_) (hr.mono (by decide)) (zbs_ A) A.xf_InvalidLimit A.xno_InvalidLimit_given rfl (rel1 (by decide) (by decide +kernel)) (by rfl) (zaa_ (ev_v 2) zax_)) (zaa_ (zaz_ (n := 1) (i := 0) (mkD := zaN_) (hr.mono (by decide)) (zbE_ A) A.xf_InvalidRule A.xno_InvalidRule_at rfl (rel1 (by decide) (by decide +kernel)) (by rfl) (zaa_ (ev_v 2) zax_)) (zaa_ (zcI_ (i := 0) (mkD := zaS_) (hr.mono (by decide)) (zcf_ A) A.xf_InvalidRow A.xno_InvalidRow_at rfl (rel1 (by decide) (by decide +kernel)) (by rfl) (zcX_ (ev_v 2) zb6_)) (zaa_ (zaz_ (n := 1) (i := 0) (mkD := zaC_) (hr.mono (by decide)) (zbl_ A) A.xf_InvalidChange A.xno_InvalidChange_at rfl (rel1 (by decide) (by decide +kernel)) (by rfl) (zaa_ (ev_v 2) zax_)) (zaa_ (zaz_ (n := 1) (i := 0) (mkD := zaT_) (hr.mono (by decide)) (zbL_ A) A.xf_InvalidKey A.xno_InvalidKey_at rfl (rel1 (by decide) (by decide +kernel)) (by rfl) (zaa_ (ev_v 2) zax_)) (zaa_ (zaz_ (n := 1) (i := 0) (mkD := zaL_) (hr.mono (by decide)) (zbG_ A) A.xf_InvalidText A.xno_InvalidText_at rfl (rel1 (by decide) (by decide +kernel)) (by rfl) (zaa_ (ev_v 2) zax_)) (zaa_ (zaz_ (n := 1) (i := 0) (mkD := zaA_) (hr.mono (by decide)) (zbg_ A) A.xf_InvalidCommand A.xno_InvalidCommand_at rfl (rel1 (by decide) (by decide +kernel)) (by rfl) (zaa_ (ev_v 2) zax_)) (zaa_ (zaz_ (n := 1) (i := 0) (mkD := zaB_) (hr.mono (by decide)) (zbp_ A) A.xf_DuplicateName A.xno_DuplicateName_name rfl (rel1 (by decide) (by decide +kernel)) (by rfl) (zaa_ (ev_v 2) zax_)) (zaa_ (zaz_ (n := 1) (i := 0) (mkD := zaX_) (hr.mono (by decide)) (zbR_ A) A.xf_WrongKind A.xno_WrongKind_name rfl (rel1 (by decide) (by decide +kernel)) (by rfl) (zaa_ (ev_v 2) zax_)) (zaa_ (zcI_ (i := 0) (mkD := zaI_) (hr.mono (by decide)) (zb5_ A) A.xf_UnknownName A.xno_UnknownName_name rfl (rel1 (by decide) (by decide +kernel)) (by rfl) (zcX_ (ev_v 2) zb6_)) (zaa_ (zaz_ (n := 1) (i := 0) (mkD := za7_) (hr.mono (by decide)) (zcs_ A) A.xf_TooLong A.xno_TooLong_most rfl (rel1 (by decide) (by decide +kernel)) (by rfl) (zaa_ (ev_v 2) zax_)) (zaa_ (zaz_ (n := 1) (i := 0) (mkD := zcb_) (hr.mono (by decide)) (zdp_ A) A.xf_Full A.xno_Full_most rfl (rel1 (by decide) (by decide +kernel)) (by rfl) (zaa_ (ev_v 2) zax_)) (zaa_ (zaz_ (n := 2) (i := 0) (mkD := zaU_) (hr.mono (by decide)) (zbI_ A) A.xf_TooMany A.xno_TooMany_subject rfl (rel2 (by decide) (by decide) (by decide) (by decide +kernel)) (by rfl) (zaa_ (ev_v 2) (zaa_ (ev_v 3) zax_))) (zaa_ (zaz_ (n := 2) (i := 0) (mkD := zaF_) (hr.mono (by decide)) (zba_ A) A.xf_WrongWord A.xno_WrongWord_at rfl (rel2 (by decide) (by decide) (by decide) (by decide +kernel)) (by rfl) (zaa_ (ev_v 2) (zaa_ (ev_v 3) zax_))) zax_))))))))))))))))))))
  (zaR_ (zcO_ (zdd_ (zb3_ (zcV_ (B := Bc w K c) ⟨rfl, rfl, rfl, rfl, rfl, rfl⟩ (cf__law_same_2 A) (hr.mono (by decide)) (by rfl) (zaa_ (ev_v 4) (zaa_ (ev_bin op_Mul pr_mul (zb0_ (zaa_ (ev_v 2) zax_)) zaP_) zax_)) zb6_))) (zbh_ (zbi_ zcS_)) zbz_)
  (zaR_ (zcO_ (zdd_ (zb3_ (zcV_ (B := Bc w K c) ⟨rfl, rfl, rfl, rfl, rfl, rfl⟩ (cf__law_same_2 A) (hr.mono (by decide)) (by rfl) (zaa_ (zb0_ (zaa_ (zaz_ (n := 2) (i := 1) (mkD := zaU_) (hr.mono (by decide)) (zbI_ A) A.xf_TooMany A.xno_TooMany_most rfl (rel2 (by decide) (by decide) (by decide) (by decide +kernel)) (by rfl) (zaa_ (ev_v 2) (zaa_ (ev_v 3) zax_))) (zaa_ (zaz_ (n := 2) (i := 1) (mkD := zaF_) (hr.mono (by decide)) (zba_ A) A.xf_WrongWord A.xno_WrongWord_why rfl (rel2 (by decide) (by decide) (by decide) (by decide +kernel)) (by rfl) (zaa_ (ev_v 2) (zaa_ (ev_v 3) zax_))) zax_))) (zaa_ (zb0_ (zaa_ (ev_v 3) (zaa_ (ev_v 3) zax_))) zax_)) zb6_))) (zbh_ (zbi_ zcS_)) zbz_)
  (zaR_ (es_set (keep := false) (i := 5) (.inr rfl) zcU_.nd rfl (by first | exact Or.inl rfl | exact Or.inr rfl) (zb0_ (zaa_ (zaz_ (n := 1) (i := 1) (mkD := zaJ_) (hr.mono (by decide)) (zbc_ A) A.xf_InvalidWord A.xno_InvalidWord_code rfl (rel1 (by decide) (by decide +kernel)) (by rfl) (zaa_ zaP_ zax_)) (zaa_ (zaz_ (n := 1) (i := 1) (mkD := zaK_) (hr.mono (by decide)) (zch_ A) A.xf_InvalidName A.xno_InvalidName_code rfl (rel1 (by decide) (by decide +kernel)) (by rfl) (zaa_ zaP_ zax_)) (zaa_ (zaz_ (n := 1) (i := 1) (mkD := zaE_) (hr.mono (by decide)) (zbn_ A) A.xf_InvalidNumber A.xno_InvalidNumber_code rfl (rel1 (by decide) (by decide +kernel)) (by rfl) (zaa_ zaP_ zax_)) (zaa_ (zaz_ (n := 1) (i := 1) (mkD := zaN_) (hr.mono (by decide)) (zbE_ A) A.xf_InvalidRule A.xno_InvalidRule_code rfl (rel1 (by decide) (by decide +kernel)) (by rfl) (zaa_ zaP_ zax_)) (zaa_ (zaz_ (n := 1) (i := 1) (mkD := zaS_) (hr.mono (by decide)) (zcn_ A) A.xf_InvalidRow A.xno_InvalidRow_code rfl (rel1 (by decide) (by decide +kernel)) (by rfl) (zaa_ zaP_ zax_)) (zaa_ (zaz_ (n := 1) (i := 1) (mkD := zaC_) (hr.mono (by decide)) (zbl_ A) A.xf_InvalidChange A.xno_InvalidChange_code rfl (rel1 (by decide) (by decide +kernel)) (by rfl) (zaa_ zaP_ zax_)) (zaa_ (zaz_ (n := 1) (i := 1) (mkD := zaT_) (hr.mono (by decide)) (zbL_ A) A.xf_InvalidKey A.xno_InvalidKey_code rfl (rel1 (by decide) (by decide +kernel)) (by rfl) (zaa_ zaP_ zax_)) (zaa_ (zaz_ (n := 1) (i := 1) (mkD := zaL_) (hr.mono (by decide)) (zbG_ A) A.xf_InvalidText A.xno_InvalidText_code rfl (rel1 (by decide) (by decide +kernel)) (by rfl) (zaa_ zaP_ zax_)) (zaa_ (zaz_ (n := 1) (i := 1) (mkD := zaM_) (hr.mono (by decide)) (zbD_ A) A.xf_InvalidWish A.xno_InvalidWish_code rfl (rel1 (by decide) (by decide +kernel)) (by rfl) (zaa_ zaP_ zax_)) zax_)))))))))))
  (zaR_ (zcO_ (zco_ (op_neD hr.units) pr_ne (ev_v 5) (zb0_ (zaa_ zaW_ (zaa_ zaW_ (zaa_ zaW_ (zaa_ zaW_ (zaa_ zaW_ (zaa_ zaW_ (zaa_ zaW_ (zaa_ zaW_ (zaa_ zaW_ zax_)))))))))) (nomark _)) (zbh_ (zbi_ zcS_)) zbz_)
  (zaR_ (es_set (keep := false) (i := 5) (.inr rfl) zcU_.nd rfl (by first | exact Or.inl rfl | exact Or.inr rfl) (zb0_ (zaa_ (zaz_ (n := 1) (i := 1) (mkD := zaG_) (hr.mono (by decide)) (zbs_ A) A.xf_InvalidLimit A.xno_InvalidLimit_code rfl (rel1 (by decide) (by decide +kernel)) (by rfl) (zaa_ zaP_ zax_)) (zaa_ (zaz_ (n := 1) (i := 1) (mkD := zaA_) (hr.mono (by decide)) (zbg_ A) A.xf_InvalidCommand A.xno_InvalidCommand_code rfl (rel1 (by decide) (by decide +kernel)) (by rfl) (zaa_ zaP_ zax_)) (zaa_ (zaz_ (n := 1) (i := 1) (mkD := zaB_) (hr.mono (by decide)) (zbp_ A) A.xf_DuplicateName A.xno_DuplicateName_code rfl (rel1 (by decide) (by decide +kernel)) (by rfl) (zaa_ zaP_ zax_)) (zaa_ (zaz_ (n := 1) (i := 1) (mkD := zaX_) (hr.mono (by decide)) (zbR_ A) A.xf_WrongKind A.xno_WrongKind_code rfl (rel1 (by decide) (by decide +kernel)) (by rfl) (zaa_ zaP_ zax_)) (zaa_ (zaz_ (n := 2) (i := 2) (mkD := zaU_) (hr.mono (by decide)) (zbI_ A) A.xf_TooMany A.xno_TooMany_code rfl (rel2 (by decide) (by decide) (by decide) (by decide +kernel)) (by rfl) (zaa_ zaP_ (zaa_ zaP_ zax_))) (zaa_ (zaz_ (n := 1) (i := 1) (mkD := za7_) (hr.mono (by decide)) (zcs_ A) A.xf_TooLong A.xno_TooLong_code rfl (rel1 (by decide) (by decide +kernel)) (by rfl) (zaa_ zaP_ zax_)) (zaa_ (zaz_ (n := 1) (i := 1) (mkD := zcb_) (hr.mono (by decide)) (zdp_ A) A.xf_Full A.xno_Full_code rfl (rel1 (by decide) (by decide +kernel)) (by rfl) (zaa_ zaP_ zax_)) (zaa_ (zaz_ (n := 2) (i := 2) (mkD := zaF_) (hr.mono (by decide)) (zba_ A) A.xf_WrongWord A.xno_WrongWord_code rfl (rel2 (by decide) (by decide) (by decide) (by decide +kernel)) (by rfl) (zaa_ zaP_ (zaa_ zaP_ zax_))) (zaa_ (zbQ_ (i := 0) (mkD := zcH_) (hr.mono (by decide)) (zcY_ A) A.xf_Mixed A.xno_Mixed_code rfl (rel0 (by decide +kernel)) (by rfl)) (zaa_ (zbQ_ (i := 0) (mkD := zb2_) (hr.mono (by decide)) (zc5_ A) A.xf_NotLive A.xno_NotLive_code rfl (rel0 (by decide +kernel)) (by rfl)) (zaa_ (zbQ_ (i := 0) (mkD := zce_) (hr.mono (by decide)) (xk_NoWord A) A.xf_NoWord A.xno_NoWord_code rfl (rel0 (by decide +kernel)) (by rfl)) (zaa_ (zbQ_ (i := 0) (mkD := zcg_) (hr.mono (by decide)) (xk_Unlike A) A.xf_Unlike A.xno_Unlike_code rfl (rel0 (by decide +kernel)) (by rfl)) (zaa_ (zaz_ (n := 1) (i := 1) (mkD := zaI_) (hr.mono (by decide)) (zby_ A) A.xf_UnknownName A.xno_UnknownName_code rfl (rel1 (by decide) (by decide +kernel)) (by rfl) (zaa_ zaP_ zax_)) (zaa_ (zbQ_ (i := 0) (mkD := zbd_) (hr.mono (by decide)) (zbB_ A) A.xf_NothingLeft A.xno_NothingLeft_code rfl (rel0 (by decide +kernel)) (by rfl)) zax_))))))))))))))))
  (zaR_ (zcO_ (zco_ (op_neD hr.units) pr_ne (ev_v 5) (zb0_ (zaa_ zaW_ (zaa_ zaW_ (zaa_ zaW_ (zaa_ zaW_ (zaa_ zaW_ (zaa_ zaW_ (zaa_ zaW_ (zaa_ zaW_ (zaa_ zaW_ (zaa_ zaW_ (zaa_ zaW_ (zaa_ zaW_ (zaa_ zaW_ (zaa_ zaW_ zax_))))))))))))))) (nomark _)) (zbh_ (zbi_ zcS_)) zbz_)
  (zbh_ (zbi_ (ev_cal0 (B := Bc w K c) ⟨rfl, rfl, rfl, rfl, rfl, rfl⟩ (zb4_ A) (hr.mono (by decide)) (by rfl) zb6_)))))))))))
abbrev lawRoom : Nat := 17
abbrev lawN : List Str := ["_law_script", "_law_feed_here", "_law_one", "_law_two", "_law_rows", "_law_codes"]
abbrev lawNames : Nat := 6
end
--NF
end Toy
namespace Toy
open PySem PySem.Spec L2 G
open PyProof.Rows hiding St
end Toy
namespace Toy
open PySem PySem.Spec L2 G
open PyProof.Rows hiding St
theorem of_wpL {ds : List D} {Q : R → Prop} (h0 : 0 < ds.length) (h1 : ds.length < 1000) (q : ∀ d ∈ ds, Q (.dt d)) : (zaY_ [.feed, .lst ds]).ok Q := by
  have hm : (0 : Int) < ds.length ∧ (ds.length : Int) < 1000 := by omega
  simp [sNm, sK, sAnd, sOr, sNot, sIf, tAndB, tOrB, tNotB, sB, s2, sN, sM, sCh, sCons, sNil, sLst, sTup, sFl, flD, sSl, sPo, sStar, starD, X.fz, sRet, sSeq, sIfS, sSkip, sNev, sAsg, asgX, sAsgT, sPar2, sStF, putD, Tg.asg, setG, fin1, finI, runB, runI, frame, runF, runStarI, permute, sCal, sMth, sNew, sNew0, sEq, sUnI, sIsi, isND, D.isN, isBD, bStr, bInt, bBool, bList, bTuple, D.flat, List.filterMap, List.replicate, zaY_, zcJ_, semTake, lenD, hm, h0, h1, M.ok_bind]
  intro r hr
  obtain ⟨d, hd⟩ : ∃ d, ds[r]? = some d := ⟨ds[r]'(by omega), List.getElem?_eq_getElem (by omega)⟩
  have := atI_nat hd
  simp [sNm, sK, sAnd, sOr, sNot, sIf, tAndB, tOrB, tNotB, sB, s2, sN, sM, sCh, sCons, sNil, sLst, sTup, sFl, flD, sSl, sPo, sStar, starD, X.fz, sRet, sSeq, sIfS, sSkip, sNev, sAsg, asgX, sAsgT, sPar2, sStF, putD, Tg.asg, setG, fin1, finI, runB, runI, frame, runF, runStarI, permute, sCal, sMth, sNew, sNew0, sEq, sUnI, sIsi, isND, D.isN, isBD, bStr, bInt, bBool, bList, bTuple, D.flat, List.filterMap, List.replicate, ixD, this]
  exact q d (List.mem_of_getElem? hd)
end Toy
namespace Toy
open PySem PySem.Spec L2 G
open PyProof.Rows hiding St
theorem sCons_e {f : Se X} {fs : Se (List X)} {Γ : List Sl} {x : X} {xs : List X} (h : f Γ = .ret x) (h2 : fs Γ = .ret xs) : sCons f fs Γ = .ret (x :: xs) := by
  unfold sCons
  rw [h, M.bind_ret, h2]
  rfl
theorem fin_p {d : D} : R.fin false (R.dt d) = .p d := by
  show (if (false && !d.flat) = true then X.t d else X.p d) = X.p d
  rw [Bool.false_and, if_neg (by decide)]
def rtB (m : M (Fl × List Sl)) : Bool := match m with
  | .ret (.rt (.dt (.bl b)), _) => b
  | _ => false
theorem rtB_ok {m : M (Fl × List Sl)} (h : rtB m = true) : m.ok fun p => p.1 = .rt (.dt (.bl true)) := by
  unfold rtB at h
  split at h
  · subst h
    exact M.ok_of rfl rfl
  · cases h
end Toy
namespace Toy
open PySem PySem.Spec L2 G
open PyProof.Rows hiding St
abbrev LQ1 : Sst := (sPar2 false false 2 3 (sCal 0 (runF 2 [0, 1] [] zaY_) (sCons (sNm 1) (sCons (sLst (sCons (sK (.int (0))) (sCons (sK (.str "x")) (sCons (sK .non) (sCons (sTup (sCons (sK (.int (1))) sNil)) (sCons (sK (.bl true)) sNil)))))) sNil)) sNil) (sCal 0 (runF 2 [0, 1] [] zaY_) (sCons (sNm 1) (sCons (sLst (sCons (sK (.int (3))) (sCons (sK (.str "y")) (sCons (sK (.str "value")) (sCons (sK (.int (0))) sNil))))) sNil)) sNil))
abbrev LQ2 : Sst := (sAsg false 4 (sLst (sCons (sOexF 1 zaJ_ 0 (sCons (sNm 2) sNil)) (sCons (sOexF 1 zaK_ 0 (sCons (sNm 2) sNil)) (sCons (sOexF 1 zaE_ 0 (sCons (sNm 2) sNil)) (sCons (sOexF 1 zaM_ 0 (sCons (sNm 2) sNil)) (sCons (sOexF 1 zaG_ 0 (sCons (sNm 2) sNil)) (sCons (sOexF 1 zaN_ 0 (sCons (sNm 2) sNil)) (sCons (sOexF 1 zaS_ 0 (sCons (sNm 2) sNil)) (sCons (sOexF 1 zaC_ 0 (sCons (sNm 2) sNil)) (sCons (sOexF 1 zaT_ 0 (sCons (sNm 2) sNil)) (sCons (sOexF 1 zaL_ 0 (sCons (sNm 2) sNil)) (sCons (sOexF 1 zaA_ 0 (sCons (sNm 2) sNil)) (sCons (sOexF 1 zaB_ 0 (sCons (sNm 2) sNil)) (sCons (sOexF 1 zaX_ 0 (sCons (sNm 2) sNil)) (sCons (sOexF 1 zaI_ 0 (sCons (sNm 2) sNil)) (sCons (sOexF 1 za7_ 0 (sCons (sNm 2) sNil)) (sCons (sOexF 1 zcb_ 0 (sCons (sNm 2) sNil)) (sCons (sOexF 2 zaU_ 0 (sCons (sNm 2) (sCons (sNm 3) sNil))) (sCons (sOexF 2 zaF_ 0 (sCons (sNm 2) (sCons (sNm 3) sNil))) sNil))))))))))))))))))))
abbrev LQ3 : Sst := (sIfS (tNotB (sB (sCal 0 (runF 2 [0, 1] [] (zbq_ 8)) (sCons (sNm 4) (sCons (s2 mulD (sLst (sCons (sNm 2) sNil)) (sK (.int (18)))) sNil)) sNil))) (sRet (sK (.bl false))) sSkip)
abbrev LQ4 : Sst := (sIfS (tNotB (sB (sCal 0 (runF 2 [0, 1] [] (zbq_ 8)) (sCons (sLst (sCons (sOexF 2 zaU_ 1 (sCons (sNm 2) (sCons (sNm 3) sNil))) (sCons (sOexF 2 zaF_ 1 (sCons (sNm 2) (sCons (sNm 3) sNil))) sNil))) (sCons (sLst (sCons (sNm 3) (sCons (sNm 3) sNil))) sNil)) sNil))) (sRet (sK (.bl false))) sSkip)
abbrev LQ5 : Sst := (sAsg false 5 (sLst (sCons (sOexF 1 zaJ_ 1 (sCons (sK (.int (1))) sNil)) (sCons (sOexF 1 zaK_ 1 (sCons (sK (.int (1))) sNil)) (sCons (sOexF 1 zaE_ 1 (sCons (sK (.int (1))) sNil)) (sCons (sOexF 1 zaN_ 1 (sCons (sK (.int (1))) sNil)) (sCons (sOexF 1 zaS_ 1 (sCons (sK (.int (1))) sNil)) (sCons (sOexF 1 zaC_ 1 (sCons (sK (.int (1))) sNil)) (sCons (sOexF 1 zaT_ 1 (sCons (sK (.int (1))) sNil)) (sCons (sOexF 1 zaL_ 1 (sCons (sK (.int (1))) sNil)) (sCons (sOexF 1 zaM_ 1 (sCons (sK (.int (1))) sNil)) sNil)))))))))))
abbrev LQ6 : Sst := (sIfS (sB (s2 (eqPy true) (sNm 5) (sLst (sCons (sK (.str "InvalidWord")) (sCons (sK (.str "InvalidName")) (sCons (sK (.str "InvalidNumber")) (sCons (sK (.str "InvalidRule")) (sCons (sK (.str "InvalidRow")) (sCons (sK (.str "InvalidChange")) (sCons (sK (.str "InvalidKey")) (sCons (sK (.str "InvalidText")) (sCons (sK (.str "InvalidWish")) sNil)))))))))))) (sRet (sK (.bl false))) sSkip)
abbrev LQ7 : Sst := (sAsg false 5 (sLst (sCons (sOexF 1 zaG_ 1 (sCons (sK (.int (1))) sNil)) (sCons (sOexF 1 zaA_ 1 (sCons (sK (.int (1))) sNil)) (sCons (sOexF 1 zaB_ 1 (sCons (sK (.int (1))) sNil)) (sCons (sOexF 1 zaX_ 1 (sCons (sK (.int (1))) sNil)) (sCons (sOexF 2 zaU_ 2 (sCons (sK (.int (1))) (sCons (sK (.int (2))) sNil))) (sCons (sOexF 1 za7_ 1 (sCons (sK (.int (1))) sNil)) (sCons (sOexF 1 zcb_ 1 (sCons (sK (.int (1))) sNil)) (sCons (sOexF 2 zaF_ 2 (sCons (sK (.int (1))) (sCons (sK (.int (2))) sNil))) (sCons (sOexF 0 zcH_ 0 sNil) (sCons (sOexF 0 zb2_ 0 sNil) (sCons (sOexF 0 zce_ 0 sNil) (sCons (sOexF 0 zcg_ 0 sNil) (sCons (sOexF 1 zaI_ 1 (sCons (sK (.int (1))) sNil)) (sCons (sOexF 0 zbd_ 0 sNil) sNil))))))))))))))))
abbrev LQ8 : Sst := (sIfS (sB (s2 (eqPy true) (sNm 5) (sLst (sCons (sK (.str "InvalidLimit")) (sCons (sK (.str "InvalidCommand")) (sCons (sK (.str "DuplicateName")) (sCons (sK (.str "WrongKind")) (sCons (sK (.str "TooMany")) (sCons (sK (.str "TooLong")) (sCons (sK (.str "Full")) (sCons (sK (.str "WrongWord")) (sCons (sK (.str "Mixed")) (sCons (sK (.str "NotLive")) (sCons (sK (.str "NoWord")) (sCons (sK (.str "Unlike")) (sCons (sK (.str "UnknownName")) (sCons (sK (.str "NothingLeft")) sNil))))))))))))))))) (sRet (sK (.bl false))) sSkip)
abbrev LQ9 : Sst := (sRet (sCal 0 (runF 0 [] [] zbe_) sNil sNil))
theorem LQ_eq : b_law = (sSeq LQ1 (sSeq LQ2 (sSeq LQ3 (sSeq LQ4 (sSeq LQ5 (sSeq LQ6 (sSeq LQ7 (sSeq LQ8 LQ9)))))))) := rfl
end Toy
namespace Toy
open PySem PySem.Spec L2 G
open PyProof.Rows hiding St
def oneL : List D := [.int 0, .str "x", .non, .tup [.int 1], .bl true]
def twoL : List D := [.int 3, .str "y", .str "value", .int 0]
theorem of_p {Γ : List Sl} {f : Se X} {ds : List D} (n1 : sNm 1 Γ = .ret (.p .feed)) (e : f Γ = .ret (.c (.l ds))) (l0 : 0 < ds.length) (l1 : ds.length < 1000) : (sCal 0 (runF 2 [0, 1] [] zaY_) (sCons (sNm 1) (sCons f sNil)) sNil Γ).ok fun x => ∃ d ∈ ds, x = .p d := by
  have OW := @of_wpL
  generalize zaY_ = F at OW ⊢
  have c : sCal 0 (runF 2 [0, 1] [] F) (sCons (sNm 1) (sCons f sNil)) sNil Γ = (F [.feed, .lst ds]).bind fun z => .ret (z.fin false) := by
    unfold sCal
    rw [sCons_e n1 (sCons_e e (show sNil Γ = .ret [] from rfl))]
    rfl
  rw [c, M.ok_bind]
  refine OW l0 l1 fun d hd => ?_
  rw [M.ok_ret]
  exact ⟨d, hd, fin_p⟩
theorem par_ok {Q : Fl × List Sl → Prop} {f1 f2 : Se X} {Γ : List Sl} {xs ys : List D} (h1 : (f1 Γ).ok fun x => ∃ d ∈ xs, x = .p d) (h2 : (f2 Γ).ok fun x => ∃ d ∈ ys, x = .p d) (q : ∀ a ∈ xs, ∀ c ∈ ys, Q (.nx, (Γ.set 2 (.v a)).set 3 (.v c))) : (sPar2 false false 2 3 f1 f2 Γ).ok Q := by
  unfold sPar2
  rw [M.ok_bind]
  refine M.ok_mono (fun x hx => ?_) h1
  obtain ⟨a, ha, rfl⟩ := hx
  rw [M.ok_bind]
  refine M.ok_mono (fun y hy => ?_) h2
  obtain ⟨c, hc, rfl⟩ := hy
  exact M.ok_of rfl (q a ha c hc)
abbrev LQr : Sst := sSeq LQ2 (sSeq LQ3 (sSeq LQ4 (sSeq LQ5 (sSeq LQ6 (sSeq LQ7 (sSeq LQ8 LQ9))))))
theorem rest_all : (oneL.all fun a => twoL.all fun c => rtB (LQr [.no, .v .feed, .v a, .v c, .no, .no])) = true := by kernel_rfl
theorem law_run0 : (b_law (.no :: .v .feed :: List.replicate 4 .no)).ok fun p => p.1 = .rt (.dt (.bl true)) := by
  rw [LQ_eq]
  refine w_step (fun Γ => ∃ a ∈ oneL, ∃ c ∈ twoL, Γ = [.no, .v .feed, .v a, .v c, .no, .no]) ?_ ?_
  · exact par_ok (xs := oneL) (ys := twoL) (of_p rfl rfl (by decide) (by decide)) (of_p rfl rfl (by decide) (by decide)) fun a ha c hc => ⟨rfl, a, ha, c, hc, rfl⟩
  rintro _ ⟨a, ha, c, hc, rfl⟩
  exact rtB_ok (List.all_eq_true.mp (List.all_eq_true.mp rest_all a ha) c hc)
end Toy
namespace Toy
open PySem PySem.Spec L2 G
open PyProof.Rows hiding St
section
open LamX
def spLawT (K : PySem.W.Frag) (PA : Addr) : Sp := fun vs H Q _ => ∃ (a : Addr) (ns : List Int), vs = [.ref a] ∧ SqL K H a (ns.map V.int) ∧ ns.length ≤ 63 ∧ H PA = some (.tbl #[]) ∧ ∀ H', Q (.bl true) H'
abbrev lawLevel : Nat := lawRoom + 1
def lawΓ (n : Nat) : List Sl := .no :: .v .feed :: List.replicate (n - 2) .no
theorem law_start {B : Cf} {x : Fdx} {p l : Addr} {H : Hp} {N : List Str} {v : V} (hN : 2 ≤ N.length) (hx : x.f = some (p, l)) (ok : x.ok H) : Rl (B.wf x) (p :: x.tb.map Prod.fst) H [] H (lawΓ N.length) ((L2.start N [v]).set 1 (some (.ref p))) := by
  obtain ⟨n, hn⟩ : ∃ n, N.length = n + 2 := ⟨N.length - 2, by omega⟩
  have F := ok.fd p l hx
  have es : (L2.start N [v]).set 1 (some (.ref p)) = some v :: some (.ref p) :: List.replicate n none := by
    unfold L2.start
    simp only [hn, List.length_cons, List.length_nil, List.map_cons, List.map_nil]
    rfl
  have eg : lawΓ N.length = .no :: .v .feed :: List.replicate n .no := by unfold lawΓ; rw [hn]; rfl
  rw [es, eg]
  have slots : ∀ (i : Nat) (s : Sl), ((.no :: .v .feed :: List.replicate n .no : List Sl))[i]? = some s → s = .no ∨ (i = 1 ∧ s = .v .feed) := fun i s h => by
    match i with
    | 0 => simp at h; exact .inl h.symm
    | 1 => simp at h; exact .inr ⟨rfl, h.symm⟩
    | i + 2 =>
      simp only [List.getElem?_cons_succ, List.getElem?_replicate] at h
      split at h
      · exact .inl (Option.some.inj h).symm
      · cases h
  have mem : ∀ a, x.mv a → a ∈ p :: x.tb.map Prod.fst := fun a h => by
    rcases h with ⟨l', h⟩ | ⟨q, h⟩
    · rw [hx] at h; cases h; exact List.mem_cons_self
    · exact List.mem_cons_of_mem _ (List.mem_map.mpr ⟨_, h, rfl⟩)
  refine ⟨by simp, fun i s h => ?_, fun i j o o' a h1 h2 h3 h4 => ?_, fun a h => (by cases h), fun a h => (by cases h), ⟨mem, fun p' l' h => (ok.fd p' l' h).tkl⟩, fun a h => ?_, Ext.of_same (Same.refl _) ok, fun a e => (by cases e)⟩
  · rcases slots i s h with rfl | ⟨rfl, rfl⟩
    · trivial
    · exact ⟨.ref p, rfl, .feed hx⟩
  · rcases slots i _ h1 with e | ⟨_, e⟩ <;> cases e
  · rcases List.mem_cons.mp h with rfl | h
    · exact F.tk
    · obtain ⟨⟨b, q⟩, h1, h2⟩ := List.mem_map.mp h
      subst h2
      exact ok.tk (.inr ⟨q, h1⟩)
section
variable {w : World} {K : PySem.W.Frag} {mg : Str → Option Value} {base : Heap} {c : Cs}
theorem law_fn {f cA PA : Addr} {kV doc pm ct oc : Value} {an od : Option Addr} {osl : Array (Option Value)} (A : AllW w K mg c) (hlaw : (b_law (lawΓ lawNames)).ok fun p => p.1 = .rt (.dt (.bl true))) (TB : TabB base mg cA PA)
    (lk : K.lookup f = some ⟨oc, od, .func (PySem.W.fnOf "law" "law" (defArgs zb8_) (defBody zb8_) (defScope zb8_) .none kV doc pm an (.ref cA) ct), osl⟩) (hcd : PySem.W.codeIn K (.ref cA) "law" = true) :
    FnOk P w K mg base CX0 lawLevel f (PySem.W.fnOf "law" "law" (defArgs zb8_) (defBody zb8_) (defScope zb8_) .none kV doc pm an (.ref cA) ct) ["_law_script"] (spLawT K PA) := by
  have T := A.T
  have c1 := zcm_ (P := P) (w := w) (base := base) A.d__law_feed T
  refine ⟨fun vs H Q E h => ?_, fun A' outer s H args us vs Q E hr e0 hb hv hs => run_ofS lk hcd zcU_ hr e0 hb hv ?_ fun hr => ?_⟩
  · obtain ⟨a, ns, rfl, _⟩ := h; rfl
  · obtain ⟨a, ns, rfl, _⟩ := hs; rfl
  · obtain ⟨a, ns, rfl, hS, hn, hP, q⟩ := hs
    let X := lawX w K mg base (.ref cA) A' outer s H E f
    let fd : Addr → Addr → Fdx := fun p l => ⟨some (p, l), [(PA, lamQ X)], fun j a H => ∃ L tt te, lamL j = some (L, tt, te) ∧ LamT X L a H, fun {j a H H'} e ⟨L, tt, te, h1, h2⟩ => ⟨L, tt, te, h1, h2.mono e⟩⟩
    have lf : ∀ p l, LawFd X ((Bc w K c).wf (fd p l)) [p, PA] lamL := fun p l =>
      ⟨⟨cA, PA, TB, rfl, List.mem_singleton.mpr rfl, fun p hp _ => by rw [List.mem_singleton.mp hp]⟩, fun a ha => by
        rcases List.mem_cons.mp ha with rfl | ha
        · exact .inl ⟨l, rfl⟩
        · rw [List.mem_singleton.mp ha]; exact .inr ⟨_, List.mem_singleton.mpr rfl⟩, fun j L tt te h f H => ⟨fun ⟨L', tt', te', h1, h2⟩ => by rw [h] at h1; cases h1; exact h2, fun h2 => ⟨L, tt, te, h, h2⟩⟩⟩
    have hne : defBody zb8_ ≠ [] := fun e => nomatch e
    have hb2 : PSs X ((defBody zb8_).head hne :: (defBody zb8_).tail) _ := pss_cons (ps_set (i := 1) zcU_.nd rfl (by first | exact Or.inl rfl | exact Or.inr rfl) (pe_c c1 (hr.mono (by decide)) (Nat.le_refl 1) (by rfl) (pa_cons (pv 0) pa_nil)))
      (⟨fun pins s1 σ H1 D I ⟨p, l, He, h⟩ => (d_law_ok (w := w) (base := base) A (.ref cA) A' outer s H He E f (fd p l) [p, PA] hr (lf p l)).run pins s1 σ H1 D I h⟩ : PSs X (defBody zb8_).tail fun D σ H1 => ∃ p l He, rdS ((Bc w K c).wf (fd p l)) XN [p, PA] He b_law D σ H1)
    refine ⟨_, (Eq.mp (congrArg (fun z => PSs X z _) (List.cons_head_tail hne)) hb2).nox, ?_⟩
    refine ⟨_, rfl, a, ns, rfl, hS, hn, fun p l H1 S1 F1 hp hl => ?_⟩
    have ok : (fd p l).ok H1 := ⟨fun p' l' e => by cases e; exact F1, fun q hq => by rw [List.mem_singleton.mp hq]; exact TabS.nil (S1 _ _ hP)⟩
    refine ⟨p, l, H1, lawΓ lawNames, [], law_start (x := fd p l) (N := lawN) (by decide) rfl ok, ?_⟩
    generalize b_law (lawΓ lawNames) = m at hlaw ⊢
    refine M.wp_monoE (fun o h => ?_) (fun _ _ z => z.elim) (M.ok_iff.mp hlaw)
    obtain ⟨fl, Γ⟩ := o
    cases h
    intro v H' _ r
    cases (show Rp _ _ v (.bl true) from r)
    exact q H'
end
end
end Toy
namespace Toy
open PySem PySem.Spec PyProof.Rows L2 G
theorem walk {l : PySem.W.OpenLaw} {q : Program} {loose : List Str} {XP : (Str → Option Value) → Heap → Prop} {d : DefRec} (hn : l.most = some 63) (hdf : d.params.defaults = []) (hd : d.name = "law") (hm : (recsOf q).find? (fun e => e.name == ("law" : Str)) = some d) (hP : l.prog = P) :
    PySem.W.WalkO q loose XP HdR.hk.says l.row.toRowW d [] (fun f vs => PySem.call f vs) := by
  refine Att.attach_callB hn hdf fun w s₀ s₁ mg mb fa o pm cd doc a vs ns G Y ho hod hcd hmg hobj hints hlen hbits hg => ?_
  obtain ⟨K, KX, nK, c0⟩ := Y
  obtain ⟨c, A⟩ := all_of KX G.T.g c0
  obtain ⟨a', o', fd', cA, PA, h1, h2, h3, h4, h5, h6⟩ := G.T.tab d (List.mem_of_find?_eq_some hm)
  obtain ⟨f, fd, Fn, hmf⟩ := A.d_law.ex
  obtain ⟨oc, od, kV, doc', pm', an, cdv, ct, osl, rfl, lk, hcI⟩ := Fn.ex
  have e1 := hmf.symm.trans (hd ▸ hmg)
  cases e1
  have e2 := hmg.symm.trans h1
  cases e2
  have e3 := KX _ _ lk
  rw [h2] at e3
  cases e3
  cases h3
  have e4 : cdv = .ref cA := h4
  subst e4
  have C : PySem.W.CodeHd s₁.heap cA PA := .of h5 h6
  have hPA : s₁.heap.get? PA = some { cls := .none, data := .fields #[] } := h6.2
  have nP : K.lookup PA = none := by
    cases e : K.lookup PA with
    | none => rfl
    | some o =>
      have z := KX _ _ e
      rw [hPA] at z
      cases z
      have y := List.all_eq_true.mp nK (PA, _) (PySem.W.mem_of_lookupK e)
      cases y
  rw [hP]
  exact LamX.law_callTs (cs := [(cA, PA)]) (sp := spLawT K PA) (k := lawLevel) (x := "_law_script") (CX := CX0) KX G.T.g G.T.b G.T.builtins G.T.nolimit hg
    (fun p hp => by rw [List.mem_singleton.mp hp]; exact hPA) (fun p hp => by rw [List.mem_singleton.mp hp]; exact nP) (fun p hp => by rw [List.mem_singleton.mp hp]; exact C) G.T.bmain hobj hints (Nat.le_trans hlen (by decide)) ⟨rfl, by decide, by decide⟩
    (fun base _ _ TB => law_fn A law_run0 (TB (cA, PA) (List.mem_singleton.mpr rfl)) lk hcI) (fun s u => .of_eq rfl) (fun H hT hS => ⟨a, ns, rfl, hS, hlen, hT (cA, PA) (List.mem_singleton.mpr rfl), fun _ => rfl⟩) fun _ _ _ z => z
end Toy
open PySem PySem.W PySem.Calls PyProof.Rows in
set_option maxRecDepth 100000 in
set_option maxHeartbeats 0 in
theorem PySem.Challenge.cw_tabsure_k01_errors_by_themselves_holds : PySem.Challenge.rw_tabsure_k01_errors_by_themselves.Holds := by
  w_on; o_law
  refine HandSHeadRun.head_any (r := OpenLaw.row PySem.Challenge.rw_tabsure_k01_errors_by_themselves) (q := view (OpenLaw.row PySem.Challenge.rw_tabsure_k01_errors_by_themselves).prog [Toy.iLaw]) (H := HdR.hk) (ob := HdR.ob) (M := 14000) (loose := Toy.nmL) (d := HandSHeadRun.topDef (OpenLaw.row PySem.Challenge.rw_tabsure_k01_errors_by_themselves).prog Toy.iLaw) (kwd := []) HdR.ob_eq
    (by kernel_rfl) (fun s => by kernel_rfl) HdR.run (by kernel_rfl) (by kernel_rfl) (by kernel_rfl) (by rfl) (by first | assumption | decide +kernel) (by decide +kernel) ⟨rfl, rfl, rfl, rfl, rfl, by decide +kernel⟩ ?hw ?hc
  case hw => w_witness2
  case hc => exact Toy.walk (l := PySem.Challenge.rw_tabsure_k01_errors_by_themselves) rfl (by kernel_rfl) (by kernel_rfl) (by kernel_rfl) (by delta Toy.P; rfl)
#print axioms PySem.Challenge.cw_tabsure_k01_errors_by_themselves_holds
